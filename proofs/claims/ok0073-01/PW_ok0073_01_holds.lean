import PyProof.Rows.All
import Wide.All
import OpenK.AllK
import Wide.FinOn
import Lean
import PySem.Challenge.RW_ok0073_01
set_option Elab.async false
set_option maxRecDepth 100000
set_option tactic.hygienic false
set_option linter.all false
set_option genCtorIdx false
namespace Mine
open PySem PySem.W PySem.Calls PyProof.Rows
noncomputable abbrev pw:Program:=PySem.Challenge.pw_ok0073_01
noncomputable abbrev S (x:String):Str:=Str.ofString x
noncomputable abbrev s (x:String) (t:Nat):Value:=.str (Str.ofString x) t
noncomputable abbrev r (a:Nat):Value:=.ref a
noncomputable abbrev i0 (i:Int):Value:=.int i 0
noncomputable abbrev ob (c:Value) (d:Data):Obj:=⟨c,none,d,#[]⟩
noncomputable abbrev sq (xs:List Value):Data:=.seq xs.toArray 0
noncomputable abbrev fs (xs:List Value):Data:=.fields xs.toArray
noncomputable def die (P:Params):List (String×Nat×Value)->List DictEntry
 |[]=>[]
 |(k,t,v)::l=>⟨PyData.keyHash P (Str.ofString k),.str (Str.ofString k) t,v⟩::die P l
noncomputable abbrev di (P:Params) (es:List (String×Nat×Value)) (n:Nat):Data:=.dict (die P es).toArray n
noncomputable def nth:List Stmt->Nat->Stmt
 |[],J=>.Pass default
 |x::J,0=>x
 |J::l,n+1=>nth l n
noncomputable def yN4:Stmt->List Stmt
 |.ClassDef J J2 J3 body J4 J5 J6 J7 J8 J9 J10=>body
 |J=>[]
noncomputable def t1 (i:Nat):Stmt:=nth pw.main.body i
noncomputable def t2 (i j:Nat):Stmt:=nth (yN4 (t1 i)) j
noncomputable def fu (st:Stmt) (qual:Str) (gl:Nat) (dV kV doc pm:Value) (an:Option Nat) (cd ct:Value) (bl:Nat):Data:=match st with
 |.FunctionDef name args body J J2 J3 scope J4 J5 J6=>.func {name:=name,qualname:=qual,params:=args,body:=.stmts body,scope:=scope,globals:=gl,closure:=[],defaults:=dV,kwdefaults:=kV,doc:=doc,pyModule:=pm,annotations:=an,code:=cd,closureTuple:=ct,builtins:=bl}
 |J=>.plain
noncomputable abbrev o0:Obj:=ob (.type "tuple") (sq [])
noncomputable abbrev o1:Obj:=ob .none (fs [])
noncomputable abbrev o2 (a:String) (b:Nat) (c:String) (d:Int) (e:Int) (f:Nat) (g:Int) (h:Nat):Obj:=ob (.type "code") (fs [(s a b),(s c (b+1)),(s "/claim/cut.py" (b+2)),(i0 (d)),(i0 (e)),(i0 (0)),(i0 (0)),(i0 (3)),(r f),(.bool true),(i0 (181)),(r (f+1)),.none,(r (f+2)),(r (f+3)),(r (f+4)),(i0 (g)),(i0 (d)),(s "/claim/cut.py" h)])
noncomputable abbrev o3 (a:Nat) (b:Nat) (c:String):Obj:=ob .none (fu (t2 a b) (S c) 0 .none .none .none .none none .none .none 0)
noncomputable abbrev o4 (a:Nat) (b:Nat) (c:String) (d:String) (e:Nat) (f:Nat):Obj:=ob (.type "function") (fu (t2 a b) (S c) 3 .none .none .none (s d e) none (r f) .none 0)
noncomputable abbrev o5 (a:Nat) (b:String):Obj:=ob .none (fu (t1 a) (S b) 0 .none .none .none .none none .none .none 0)
noncomputable abbrev o6 (a:Nat) (b:String) (c:String) (d:Nat) (e:Nat):Obj:=ob (.type "function") (fu (t1 a) (S b) 3 .none .none .none (s c d) none (r e) .none 0)
noncomputable abbrev o7 (a:String) (b:Nat) (c:String) (d:String):Obj:=ob (.type "tuple") (sq [(s a b),(s c (b+1)),(s d (b+2))])
noncomputable abbrev o8 (a:String) (b:Nat):Obj:=ob (.type "tuple") (sq [(s a b)])
noncomputable abbrev o9 (a:String) (b:Nat) (c:String):Obj:=ob (.type "tuple") (sq [(s a b),(s c (b+1))])
noncomputable abbrev o10 (a:String) (b:Nat) (c:String) (d:String) (e:String):Obj:=ob (.type "tuple") (sq [(s a b),(s c (b+1)),(s d (b+2)),(s e (b+3))])
noncomputable abbrev o11 (a:String) (b:Nat) (c:Int) (d:Nat) (e:Int) (f:Int):Obj:=ob (.type "code") (fs [(s a b),(s a (b+1)),(s "/claim/cut.py" (b+2)),(i0 (c)),(i0 (0)),(i0 (0)),(i0 (0)),(i0 (0)),(r d),(.bool false),(i0 (e)),(r (d+1)),.none,.none,.none,.none,(i0 (f)),(i0 (c)),(s "/claim/cut.py" (b+4))])
noncomputable abbrev o12 (a:String) (b:Nat) (c:String) (d:String) (e:String) (f:String):Obj:=ob (.type "tuple") (sq [(s a b),(s c (b+1)),(s d (b+2)),(s e (b+3)),(s f (b+4))])
noncomputable abbrev o13 (a:String) (b:Nat) (c:String) (d:String) (e:String) (f:String) (g:String):Obj:=ob (.type "tuple") (sq [(s a b),(s c (b+1)),(s d (b+2)),(s e (b+3)),(s f (b+4)),(s g (b+5))])
noncomputable abbrev o14:Obj:=ob (.type "builtin_function_or_method") (fs [(.builtin "type.__prepare__"),(.type "type")])
noncomputable abbrev o15 (a:Nat):Obj:=ob (.type "super") (fs [(r a),(r a),(r a)])
noncomputable abbrev o16 (a:Nat):Obj:=ob (.type "builtin_function_or_method") (fs [(.builtin "object.__init_subclass__"),(r a)])
noncomputable abbrev o17 (a:Nat) (b:Nat):Obj:=ob (.type "getset_descriptor") (fs [(s "__weakref__" a),(r b),(.builtin "ExceptionGroup.__weakref__"),.none])
noncomputable abbrev o18 (a:String) (b:Nat) (c:String) (d:Int) (e:Int) (f:Nat) (g:Int):Obj:=ob (.type "code") (fs [(s a b),(s c (b+1)),(s "/claim/cut.py" (b+2)),(i0 (d)),(i0 (e)),(i0 (0)),(i0 (0)),(i0 (3)),(r f),(.bool true),(i0 (181)),(r (f+1)),.none,.none,.none,(r (f+2)),(i0 (g)),(i0 (d)),(s "/claim/cut.py" (b+4))])
noncomputable def sa0 (P:Params):List Obj:=[
 boot_o_0 P,ob (.type "dict") (di P [("builtins", 162,(r 4)),("__main__", 163,(r 5))] 2),ob .none (di P [] 0),ob (.type "dict") (di P [("__name__", 165,(s "__main__" 164)),("__doc__", 166,.none),("__package__", 167,.none),("__loader__", 168,(.builtin "__main__.__loader__#opaque")),("__spec__", 169,.none),("__annotations__", 170,(r 6)),("__builtins__", 171,(r 4)),("__file__", 173,(s "/claim/cut.py" 172)),("__cached__", 174,.none)] 9),⟨(.type "module"),(some 0),.plain,[].toArray⟩,⟨(.type "module"),(some 3),.plain,[].toArray⟩,ob (.type "dict") (di P [] 0),o0,o1,o11 "<module>" 176 1 7 175 179,⟨(.type "frame"),none,.plain,[some (r 9),some (r 3),some (r 3),none,some (s "__main__" 164),none,some (r 0)].toArray⟩,o0,o1,o11 "<module>" 182 1 11 181 185,⟨(.type "frame"),none,.plain,[some (r 13),some (r 3),some (r 3),none,some (s "__main__" 164),none,some (r 0)].toArray⟩]
noncomputable def sa (P:Params):List Obj:=sa0 P
noncomputable def hp0 (P:Params):List Obj:=[
 boot_o_0 P,ob (.type "dict") (di P [("builtins", 162,(r 4)),("__main__", 163,(r 5))] 2),ob .none (di P [("type.__subclasses__.Exception.0", 223,(i0 (38))),("type.__subclasses__.Exception.n", 224,(i0 (2))),("type.__subclasses__.Exception.1", 1161,(i0 (700)))] 3),ob (.type "dict") (di P [("__name__", 165,(s "law_ok0073_01" 1483)),("__doc__", 166,.none),("__package__", 167,.none),("__loader__", 168,(.builtin "__main__.__loader__#opaque")),("__spec__", 169,.none),("__annotations__", 170,(r 6)),("__builtins__", 171,(r 4)),("__file__", 173,(s "/claim/cut.py" 172)),("__cached__", 174,.none),("_wall", 193,(r 21)),("LispSignal", 226,(r 38)),("need_writable", 235,(r 48)),("reached", 246,(r 55)),("tell_ahead", 256,(r 62)),("tell_behind", 267,(r 69)),("text_out", 277,(r 76)),("text_in", 286,(r 83)),("hung_out", 295,(r 90)),("hung_in", 305,(r 97)),("put_in", 316,(r 104)),("insert_at", 326,(r 112)),("delete", 338,(r 119)),("erase", 345,(r 126)),("DIGITS", 349,(s "0123456789" 348)),("directory_part", 357,(r 133)),("last_part", 364,(r 140)),("as_directory", 371,(r 147)),("as_file", 379,(r 154)),("with_home", 387,(r 161)),("steps_of", 396,(r 168)),("expanded", 408,(r 175)),("backup_name", 415,(r 182)),("numbered_name", 423,(r 189)),("backup_number", 435,(r 196)),("auto_save_name", 443,(r 203)),("NEWLINE", 447,(.int (10) 446)),("NEVER", 449,(.int (0) 448)),("SINGLE", 451,(.int (1) 450)),("AS_BEFORE", 453,(.int (3) 452)),("Manner", 492,(r 220)),("numbers_there", 505,(r 231)),("backup_plan", 511,(r 236)),("make_backup", 523,(r 243)),("spare_name", 533,(r 250)),("write_precious", 543,(r 257)),("write_file", 555,(r 264)),("write_auto", 564,(r 271)),("drop_auto", 572,(r 278)),("Visit", 609,(r 295)),("whole_text", 616,(r 306)),("with_text", 625,(r 313)),("visit", 635,(r 320)),("note_visit", 644,(r 327)),("need_visit", 651,(r 334)),("is_current", 660,(r 341)),("end_line", 671,(r 348)),("save", 682,(r 355)),("revert", 693,(r 362)),("put_text", 705,(r 369)),("auto_save", 714,(r 376)),("has_unsaved", 722,(r 383)),("recover", 731,(r 390)),("GapText", 851,(r 477)),("Markers", 951,(r 547)),("Opaque", 995,(r 582)),("Buffer", 1134,(r 688)),("MOST_LINKS", 1138,(.int (12) 1137)),("DIRECTORY", 1140,(.int (0) 1139)),("PLAIN", 1142,(.int (1) 1141)),("LINK", 1144,(.int (2) 1143)),("Ended", 1164,(r 700)),("Entry", 1198,(r 720)),("FileTree", 1466,(r 921)),("parent_of", 1474,(r 932)),("joined", 1482,(r 939)),("_law_draw", 1492,(r 946)),("_law_text", 1498,(r 951)),("_law_saved", 1508,(r 958)),("_law_recovered", 1516,(r 965)),("_law_reverted_point", 1527,(r 972)),("_law_edit", 1540,(r 979)),("_law_save", 1553,(r 986)),("_law_deed", 1567,(r 993)),("law", 1573,(r 998))] 84),⟨(.type "module"),(some 0),.plain,[].toArray⟩,⟨(.type "module"),(some 3),.plain,[].toArray⟩,ob (.type "dict") (di P [] 0),o0,o1,o11 "<module>" 176 1 7 175 179,⟨(.type "frame"),none,.plain,[some (r 9),some (r 3),some (r 3),none,some (s "__main__" 164),none,some (r 0)].toArray⟩,o0,ob .none (fs [(i0 (1)),(i0 (0)),(r 20),(i0 (5)),(i0 (0)),(r 27),(i0 (11)),(i0 (0)),(r 47),(i0 (14)),(i0 (0)),(r 54),(i0 (19)),(i0 (0)),(r 61),(i0 (22)),(i0 (0)),(r 68),(i0 (26)),(i0 (0)),(r 75),(i0 (34)),(i0 (0)),(r 82),(i0 (41)),(i0 (0)),(r 89),(i0 (46)),(i0 (0)),(r 96),(i0 (51)),(i0 (0)),(r 103),(i0 (63)),(i0 (0)),(r 111),(i0 (65)),(i0 (0)),(r 118),(i0 (76)),(i0 (0)),(r 125),(i0 (82)),(i0 (0)),(r 132),(i0 (85)),(i0 (0)),(r 139),(i0 (87)),(i0 (0)),(r 146),(i0 (91)),(i0 (0)),(r 153),(i0 (96)),(i0 (0)),(r 160),(i0 (100)),(i0 (0)),(r 167),(i0 (108)),(i0 (0)),(r 174),(i0 (119)),(i0 (0)),(r 181),(i0 (121)),(i0 (0)),(r 188),(i0 (123)),(i0 (0)),(r 195),(i0 (136)),(i0 (0)),(r 202),(i0 (144)),(i0 (0)),(r 209),(i0 (153)),(i0 (0)),(r 230),(i0 (162)),(i0 (0)),(r 235),(i0 (172)),(i0 (0)),(r 242),(i0 (183)),(i0 (0)),(r 249),(i0 (189)),(i0 (0)),(r 256),(i0 (193)),(i0 (0)),(r 263),(i0 (202)),(i0 (0)),(r 270),(i0 (204)),(i0 (0)),(r 277),(i0 (208)),(i0 (0)),(r 284),(i0 (216)),(i0 (0)),(r 305),(i0 (218)),(i0 (0)),(r 312),(i0 (224)),(i0 (0)),(r 319),(i0 (233)),(i0 (0)),(r 326),(i0 (236)),(i0 (0)),(r 333),(i0 (240)),(i0 (0)),(r 340),(i0 (243)),(i0 (0)),(r 347),(i0 (252)),(i0 (0)),(r 354),(i0 (266)),(i0 (0)),(r 361),(i0 (279)),(i0 (0)),(r 368),(i0 (289)),(i0 (0)),(r 375),(i0 (296)),(i0 (0)),(r 382),(i0 (298)),(i0 (0)),(r 389),(i0 (305)),(i0 (0)),(r 396),(i0 (371)),(i0 (0)),(r 487),(i0 (415)),(i0 (0)),(r 557),(i0 (426)),(i0 (0)),(r 592),(i0 (496)),(i0 (0)),(r 696),(i0 (498)),(i0 (0)),(r 709),(i0 (505)),(i0 (0)),(r 730),(i0 (692)),(i0 (0)),(r 931),(i0 (695)),(i0 (0)),(r 938),(i0 (698)),(i0 (0)),(r 945),(i0 (700)),(i0 (0)),(r 950),(i0 (702)),(i0 (0)),(r 957),(i0 (707)),(i0 (0)),(r 964),(i0 (713)),(i0 (0)),(r 971),(i0 (722)),(i0 (0)),(r 978),(i0 (739)),(i0 (0)),(r 985),(i0 (753)),(i0 (0)),(r 992),(i0 (783)),(i0 (0)),(r 997)]),
 o11 "<module>" 182 1 11 181 185,⟨(.type "frame"),none,.plain,[some (r 13),some (r 3),some (r 3),none,some (s "__main__" 164),none,some (r 0)].toArray⟩,o0,o1,o8 "k" 190,o0,o5 0 "_wall",o2 "_wall" 187 "_wall" 1 1 15 191 192,o6 0 "_wall" "__main__" 164 20,ob (.type "tuple") (sq [(.type "Exception")]),o14,ob (.type "dict") (di P [("__module__", 203,(s "emacs.errors" 194)),("__qualname__", 205,(s "LispSignal" 204)),("__firstlineno__", 207,(.int (5) 206)),("__init__", 216,(r 35)),("__static_attributes__", 219,(r 36))] 5),o0,ob .none (fs [(i0 (7)),(i0 (4)),(r 34)]),o11 "LispSignal" 198 5 25 181 201,⟨(.type "frame"),none,.plain,[some (r 27),some (r 3),some (r 24),none,some (s "emacs.errors" 194),none,some (r 0)].toArray⟩,o0,o1,o7 "self" 211 "symbol" "data",o0,o3 2 0 "LispSignal.__init__",o2 "__init__" 208 "LispSignal.__init__" 7 3 29 214 215,o4 2 0 "LispSignal.__init__" "emacs.errors" 194 34,o9 "data" 217 "symbol",ob (.type "dict") (di P [("__module__", 203,(s "emacs.errors" 194)),("__firstlineno__", 207,(.int (5) 206)),("__init__", 216,(r 35)),("__static_attributes__", 219,(r 36)),("__weakref__", 221,(r 39)),("__doc__", 222,.none)] 3),⟨(.type "type"),none,(.cls {name:=(S "LispSignal"),bases:=[(.type "Exception")],mro:=[(r 38),(.type "Exception"),(.type "BaseException"),(.type "object")],ns:=37,qualname:=(S "LispSignal"),hasDict:=true,slotNames:=[],subclasses:=[],abstract:=false,collection:=none,hasDel:=false}),[some (r 22),none,some (s "LispSignal" 196),some (s "LispSignal" 204),some (.builtin "Exception.__new__"),some (.bool true)].toArray⟩,o17 220 38,o15 38,o16 38,o0,o1,o8 "buffer" 232,o0,o5 4 "need_writable",o2 "need_writable" 229 "need_writable" 11 1 42 233 234,o6 4 "need_writable" "emacs.editing" 227 47,o0,o1,o12 "buffer" 239 "start" "end" "low" "high",o0,o5 5 "reached",o2 "reached" 236 "reached" 14 3 49 244 245,o6 5 "reached" "emacs.editing" 227 54,o0,o1,o10 "buffer" 250 "start" "end" "listener",o0,o5 6 "tell_ahead",o2 "tell_ahead" 247 "tell_ahead" 19 3 56 254 255,o6 6 "tell_ahead" "emacs.editing" 227 61,o0,o1,o12 "buffer" 260 "start" "end" "old_length" "listener",o0,o5 7 "tell_behind",o2 "tell_behind" 257 "tell_behind" 22 4 63 265 266,o6 7 "tell_behind" "emacs.editing" 227 68,o0,o1,o10 "buffer" 271 "start" "end" "gone",o0,o5 8 "text_out",o2 "text_out" 268 "text_out" 26 3 70 275 276,o6 8 "text_out" "emacs.editing" 227 75,o0,o1,o7 "buffer" 281 "place" "codes",o0,o5 9 "text_in",o2 "text_in" 278 "text_in" 34 3 77 284 285,o6 9 "text_in" "emacs.editing" 227 82,o0,o1,o7 "buffer" 290 "start" "end",o0,o5 10 "hung_out",o2 "hung_out" 287 "hung_out" 41 3 84 293 294,o6 10 "hung_out" "emacs.editing" 227 89,o0,o1,o10 "buffer" 299 "place" "many" "before_markers",o0,o5 11 "hung_in",o2 "hung_in" 296 "hung_in" 46 4 91 303 304,o6 11 "hung_in" "emacs.editing" 227 96,o0,o1]
noncomputable def hp1 (P:Params):List Obj:=[
 o12 "buffer" 309 "place" "codes" "before_markers" "is_point_behind",o0,o5 12 "put_in",o2 "put_in" 306 "put_in" 51 5 98 314 315,o6 12 "put_in" "emacs.editing" 227 103,ob (.type "tuple") (sq [(.bool false)]),o0,o1,o10 "buffer" 320 "place" "codes" "before_markers",o0,o5 13 "insert_at",o2 "insert_at" 317 "insert_at" 63 4 106 324 325,ob (.type "function") (fu (t1 13) (S "insert_at") 3 (r 105) .none .none (s "emacs.editing" 227) none (r 111) .none 0),o0,o1,o13 "buffer" 330 "start" "end" "low" "high" "gone",o0,o5 14 "delete",o2 "delete" 327 "delete" 65 3 113 336 337,o6 14 "delete" "emacs.editing" 227 118,o0,o1,o8 "buffer" 342,o0,o5 15 "erase",o2 "erase" 339 "erase" 76 1 120 343 344,o6 15 "erase" "emacs.editing" 227 125,o0,o1,o9 "name" 353 "end",o0,o5 18 "directory_part",o2 "directory_part" 350 "directory_part" 82 1 127 355 356,o6 18 "directory_part" "emacs.filenames" 346 132,o0,o1,o8 "name" 361,o0,o5 19 "last_part",o2 "last_part" 358 "last_part" 85 1 134 362 363,o6 19 "last_part" "emacs.filenames" 346 139,o0,o1,o8 "name" 368,o0,o5 20 "as_directory",o2 "as_directory" 365 "as_directory" 87 1 141 369 370,o6 20 "as_directory" "emacs.filenames" 346 146,o0,o1,o9 "name" 375 "end",o0,o5 21 "as_file",o2 "as_file" 372 "as_file" 91 1 148 377 378,o6 21 "as_file" "emacs.filenames" 346 153,o0,o1,o9 "name" 383 "home",o0,o5 22 "with_home",o2 "with_home" 380 "with_home" 96 2 155 385 386,o6 22 "with_home" "emacs.filenames" 346 160,o0,o1,o7 "name" 391 "found" "step",o0,o5 23 "steps_of",o2 "steps_of" 388 "steps_of" 100 1 162 394 395,o6 23 "steps_of" "emacs.filenames" 346 167,o0,o1,o13 "name" 400 "directory" "home" "whole" "base" "found",o0,o5 24 "expanded",o2 "expanded" 397 "expanded" 108 3 169 406 407,o6 24 "expanded" "emacs.filenames" 346 174,o0,o1,o8 "name" 412,o0,o5 25 "backup_name",o2 "backup_name" 409 "backup_name" 119 1 176 413 414,o6 25 "backup_name" "emacs.filenames" 346 181,o0,o1,o9 "name" 419 "number",o0,o5 26 "numbered_name",o2 "numbered_name" 416 "numbered_name" 121 2 183 421 422,o6 26 "numbered_name" "emacs.filenames" 346 188,o0,o1,o13 "name" 427 "other" "head" "figures" "found" "sign",o0,o5 27 "backup_number",o2 "backup_number" 424 "backup_number" 123 2 190 433 434,o6 27 "backup_number" "emacs.filenames" 346 195,o0,o1,o9 "name" 439 "own"]
noncomputable def hp2 (P:Params):List Obj:=[
 o0,o5 28 "auto_save_name",o2 "auto_save_name" 436 "auto_save_name" 136 1 197 441 442,o6 28 "auto_save_name" "emacs.filenames" 346 202,o0,o14,ob (.type "dict") (di P [("__module__", 461,(s "emacs.filesaving" 444)),("__qualname__", 463,(s "Manner" 462)),("__firstlineno__", 465,(.int (144) 464)),("__init__", 478,(r 217)),("__static_attributes__", 485,(r 218))] 5),o0,ob .none (fs [(i0 (146)),(i0 (4)),(r 216)]),o11 "Manner" 456 144 207 181 459,⟨(.type "frame"),none,.plain,[some (r 209),some (r 3),some (r 206),none,some (s "emacs.filesaving" 444),none,some (r 0)].toArray⟩,o0,o1,ob (.type "tuple") (sq [(s "self" 469),(s "wants_newline" 470),(s "backups" 471),(s "is_copying" 472),(s "oldest" 473),(s "newest" 474),(s "is_precious" 475)]),o0,o3 34 0 "Manner.__init__",o2 "__init__" 466 "Manner.__init__" 146 7 211 476 477,o4 34 0 "Manner.__init__" "emacs.filesaving" 444 216,o13 "backups" 479 "is_copying" "is_precious" "newest" "oldest" "wants_newline",ob (.type "dict") (di P [("__module__", 461,(s "emacs.filesaving" 444)),("__firstlineno__", 465,(.int (144) 464)),("__init__", 478,(r 217)),("__static_attributes__", 485,(r 218)),("__dict__", 487,(r 221)),("__weakref__", 489,(r 222)),("__doc__", 490,.none)] 4),⟨(.type "type"),none,(.cls {name:=(S "Manner"),bases:=[(.type "object")],mro:=[(r 220),(.type "object")],ns:=219,qualname:=(S "Manner"),hasDict:=true,slotNames:=[],subclasses:=[],abstract:=false,collection:=none,hasDel:=false}),[none,none,some (s "Manner" 454),some (s "Manner" 462),some (.builtin "object.__new__"),some (.bool true)].toArray⟩,ob (.type "getset_descriptor") (fs [(s "__dict__" 486),(r 220),(.builtin "function.__dict__"),(.builtin "function.__dict__#set")]),o17 488 220,o15 220,o16 220,o0,o1,ob (.type "tuple") (sq [(s "tree" 496),(s "name" 497),(s "directory" 498),(s "own" 499),(s "found" 500),(s "other" 501),(s "number" 502)]),o0,o5 35 "numbers_there",o2 "numbers_there" 493 "numbers_there" 153 2 225 503 504,o6 35 "numbers_there" "emacs.filesaving" 444 230,o0,o1,o5 36 "backup_plan",o18 "backup_plan" 506 "backup_plan" 162 3 232 509,o6 36 "backup_plan" "emacs.filesaving" 444 235,o0,o1,o13 "tree" 515 "name" "manner" "other" "extra" "own",o0,o5 37 "make_backup",o2 "make_backup" 512 "make_backup" 172 3 237 521 522,o6 37 "make_backup" "emacs.filesaving" 444 242,o0,o1,o10 "tree" 527 "name" "number" "found",o0,o5 38 "spare_name",o2 "spare_name" 524 "spare_name" 183 2 244 531 532,o6 38 "spare_name" "emacs.filesaving" 444 249,o0,o1,o10 "tree" 537 "name" "codes" "spare",o0,o5 39 "write_precious",o2 "write_precious" 534 "write_precious" 189 3 251 541 542,o6 39 "write_precious" "emacs.filesaving" 444 256,o0,o1,o13 "tree" 547 "name" "codes" "manner" "is_backed_up" "made",o0,o5 40 "write_file",o2 "write_file" 544 "write_file" 193 5 258 553 554,o6 40 "write_file" "emacs.filesaving" 444 263,o0,o1,o7 "tree" 559 "name" "codes",o0,o5 41 "write_auto",o2 "write_auto" 556 "write_auto" 202 3 265 562 563,o6 41 "write_auto" "emacs.filesaving" 444 270,o0,o1,o9 "tree" 568 "name",o0,o5 42 "drop_auto",o2 "drop_auto" 565 "drop_auto" 204 2 272 570 571,o6 42 "drop_auto" "emacs.filesaving" 444 277,o0,o14,ob (.type "dict") (di P [("__module__", 582,(s "emacs.visiting" 573)),("__qualname__", 584,(s "Visit" 583)),("__firstlineno__", 586,(.int (208) 585)),("__init__", 596,(r 292)),("__static_attributes__", 602,(r 293))] 5),o0,ob .none (fs [(i0 (210)),(i0 (4)),(r 291)]),o11 "Visit" 577 208 282 181 580,⟨(.type "frame"),none,.plain,[some (r 284),some (r 3),some (r 281),none,some (s "emacs.visiting" 573),none,some (r 0)].toArray⟩,o0,o1,o10 "self" 590 "name" "true_name" "stamp",o0,o3 44 0 "Visit.__init__",o2 "__init__" 587 "Visit.__init__" 210 4 286 594 595,o4 44 0 "Visit.__init__" "emacs.visiting" 573 291,o12 "auto_tick" 597 "is_backed_up" "name" "stamp" "true_name",ob (.type "dict") (di P [("__module__", 582,(s "emacs.visiting" 573)),("__firstlineno__", 586,(.int (208) 585)),("__init__", 596,(r 292)),("__static_attributes__", 602,(r 293)),("__dict__", 604,(r 296)),
  ("__weakref__", 606,(r 297)),("__doc__", 607,.none)] 4),⟨(.type "type"),none,(.cls {name:=(S "Visit"),bases:=[(.type "object")],mro:=[(r 295),(.type "object")],ns:=294,qualname:=(S "Visit"),hasDict:=true,slotNames:=[],subclasses:=[],abstract:=false,collection:=none,hasDel:=false}),[none,none,some (s "Visit" 575),some (s "Visit" 583),some (.builtin "object.__new__"),some (.bool true)].toArray⟩,ob (.type "getset_descriptor") (fs [(s "__dict__" 603),(r 295),(.builtin "function.__dict__"),(.builtin "function.__dict__#set")]),o17 605 295,o15 295,o16 295]
noncomputable def hp3 (P:Params):List Obj:=[
 o0,o1,o8 "buffer" 613,o0,o5 45 "whole_text",o2 "whole_text" 610 "whole_text" 216 1 300 614 615,o6 45 "whole_text" "emacs.visiting" 573 305,o0,o1,o7 "buffer" 620 "codes" "flag",o0,o5 46 "with_text",o2 "with_text" 617 "with_text" 218 2 307 623 624,o6 46 "with_text" "emacs.visiting" 573 312,o0,o1,o10 "tree" 629 "buffer" "name" "is_there",o0,o5 47 "visit",o2 "visit" 626 "visit" 224 3 314 633 634,o6 47 "visit" "emacs.visiting" 573 319,o0,o1,o7 "tree" 639 "buffer" "name",o0,o5 48 "note_visit",o2 "note_visit" 636 "note_visit" 233 3 321 642 643,o6 48 "note_visit" "emacs.visiting" 573 326,o0,o1,o8 "buffer" 648,o0,o5 49 "need_visit",o2 "need_visit" 645 "need_visit" 236 1 328 649 650,o6 49 "need_visit" "emacs.visiting" 573 333,o0,o1,o7 "tree" 655 "buffer" "own",o0,o5 50 "is_current",o2 "is_current" 652 "is_current" 240 2 335 658 659,o6 50 "is_current" "emacs.visiting" 573 340,o0,o1,o12 "buffer" 664 "codes" "begv" "zv" "flag",o0,o5 51 "end_line",o2 "end_line" 661 "end_line" 243 1 342 669 670,o6 51 "end_line" "emacs.visiting" 573 347,o0,o1,o12 "tree" 675 "buffer" "manner" "is_forced" "own",o0,o5 52 "save",o2 "save" 672 "save" 252 4 349 680 681,o6 52 "save" "emacs.visiting" 573 354,o0,o1,o12 "tree" 686 "buffer" "own" "codes" "flag",o0,o5 53 "revert",o2 "revert" 683 "revert" 266 2 356 691 692,o6 53 "revert" "emacs.visiting" 573 361,o0,o1,o13 "buffer" 697 "codes" "old" "head" "tail" "most",o0,o5 54 "put_text",o2 "put_text" 694 "put_text" 279 2 363 703 704,o6 54 "put_text" "emacs.visiting" 573 368,o0,o1,o7 "tree" 709 "buffer" "own",o0,o5 55 "auto_save",o2 "auto_save" 706 "auto_save" 289 2 370 712 713,o6 55 "auto_save" "emacs.visiting" 573 375,o0,o1,o9 "tree" 718 "name",o0,o5 56 "has_unsaved",o2 "has_unsaved" 715 "has_unsaved" 296 2 377 720 721,o6 56 "has_unsaved" "emacs.visiting" 573 382,o0,o1,o7 "tree" 726 "buffer" "own",o0,o5 57 "recover",o2 "recover" 723 "recover" 298 2 384 729 730,o6 57 "recover" "emacs.visiting" 573 389,o0,o14,ob (.type "dict") (di P [("__module__", 741,(s "emacs.gap" 732)),("__qualname__", 743,(s "GapText" 742)),("__firstlineno__", 745,(.int (305) 744)),("__init__", 754,(r 404)),("size", 761,(r 411)),("code", 769,(r 418)),("codes", 779,(r 425)),("move_gap", 788,(r 432)),("widen_gap", 797,(r 439)),("insert", 806,(r 446)),("delete", 816,(r 453)),("put", 825,(r 460)),("narrow_gap", 832,(r 467)),("is_whole", 839,(r 474)),("__static_attributes__", 844,(r 475))] 15),o0,ob .none (fs [(i0 (307)),(i0 (4)),(r 403),(i0 (313)),(i0 (4)),(r 410),(i0 (316)),(i0 (4)),(r 417),(i0 (321)),(i0 (4)),(r 424),(i0 (329)),(i0 (4)),(r 431),(i0 (340)),(i0 (4)),(r 438),(i0 (346)),(i0 (4)),(r 445),(i0 (352)),(i0 (4)),(r 452),(i0 (362)),(i0 (4)),(r 459),(i0 (365)),(i0 (4)),(r 466),(i0 (368)),(i0 (4)),(r 473)]),o11 "GapText" 736 305 394 181 739,⟨(.type "frame"),none,.plain,[some (r 396),some (r 3),some (r 393),none,some (s "emacs.gap" 732),none,some (r 0)].toArray⟩,o0,o1]
noncomputable def hp4 (P:Params):List Obj:=[
 o7 "self" 749 "codes" "room",o0,o3 59 0 "GapText.__init__",o2 "__init__" 746 "GapText.__init__" 307 3 398 752 753,o4 59 0 "GapText.__init__" "emacs.gap" 732 403,o0,o1,o8 "self" 758,o0,o3 59 1 "GapText.size",o2 "size" 755 "GapText.size" 313 1 405 759 760,o4 59 1 "GapText.size" "emacs.gap" 732 410,o0,o1,o9 "self" 765 "at",o0,o3 59 2 "GapText.code",o2 "code" 762 "GapText.code" 316 2 412 767 768,o4 59 2 "GapText.code" "emacs.gap" 732 417,o0,o1,o10 "self" 773 "start" "end" "shift",o0,o3 59 3 "GapText.codes",o2 "codes" 770 "GapText.codes" 321 3 419 777 778,o4 59 3 "GapText.codes" "emacs.gap" 732 424,o0,o1,o7 "self" 783 "at" "moved",o0,o3 59 4 "GapText.move_gap",o2 "move_gap" 780 "GapText.move_gap" 329 2 426 786 787,o4 59 4 "GapText.move_gap" "emacs.gap" 732 431,o0,o1,o7 "self" 792 "wanted" "lack",o0,o3 59 5 "GapText.widen_gap",o2 "widen_gap" 789 "GapText.widen_gap" 340 2 433 795 796,o4 59 5 "GapText.widen_gap" "emacs.gap" 732 438,o0,o1,o7 "self" 801 "at" "codes",o0,o3 59 6 "GapText.insert",o2 "insert" 798 "GapText.insert" 346 3 440 804 805,o4 59 6 "GapText.insert" "emacs.gap" 732 445,o0,o1,o10 "self" 810 "start" "end" "gone",o0,o3 59 7 "GapText.delete",o2 "delete" 807 "GapText.delete" 352 3 447 814 815,o4 59 7 "GapText.delete" "emacs.gap" 732 452,o0,o1,o7 "self" 820 "at" "code",o0,o3 59 8 "GapText.put",o2 "put" 817 "GapText.put" 362 3 454 823 824,o4 59 8 "GapText.put" "emacs.gap" 732 459,o0,o1,o8 "self" 829,o0,o3 59 9 "GapText.narrow_gap",o2 "narrow_gap" 826 "GapText.narrow_gap" 365 1 461 830 831,o4 59 9 "GapText.narrow_gap" "emacs.gap" 732 466,o0,o1,o8 "self" 836,o0,o3 59 10 "GapText.is_whole",o2 "is_whole" 833 "GapText.is_whole" 368 1 468 837 838,o4 59 10 "GapText.is_whole" "emacs.gap" 732 473,o10 "cells" 840 "gap_end" "gap_start" "room",ob (.type "dict") (di P [("__module__", 741,(s "emacs.gap" 732)),("__firstlineno__", 745,(.int (305) 744)),("__init__", 754,(r 404)),("size", 761,(r 411)),("code", 769,(r 418)),("codes", 779,(r 425)),("move_gap", 788,(r 432)),("widen_gap", 797,(r 439)),("insert", 806,(r 446)),("delete", 816,(r 453)),("put", 825,(r 460)),("narrow_gap", 832,(r 467)),("is_whole", 839,(r 474)),("__static_attributes__", 844,(r 475)),("__dict__", 846,(r 478)),("__weakref__", 848,(r 479)),("__doc__", 849,.none)] 4),⟨(.type "type"),none,(.cls {name:=(S "GapText"),bases:=[(.type "object")],mro:=[(r 477),(.type "object")],ns:=476,qualname:=(S "GapText"),hasDict:=true,slotNames:=[],subclasses:=[],abstract:=false,collection:=none,hasDel:=false}),[none,none,some (s "GapText" 734),some (s "GapText" 742),some (.builtin "object.__new__"),some (.bool true)].toArray⟩,ob (.type "getset_descriptor") (fs [(s "__dict__" 845),(r 477),(.builtin "function.__dict__"),(.builtin "function.__dict__#set")]),o17 847 477,o15 477,o16 477,o0,o14,ob (.type "dict") (di P [("__module__", 861,(s "emacs.markers" 852)),("__qualname__", 863,(s "Markers" 862)),("__firstlineno__", 865,(.int (371) 864)),("__init__", 872,(r 495)),("numbers", 879,(r 502)),("put", 888,(r 509)),("drop", 896,(r 516)),("within", 907,(r 523)),("inserted", 919,(r 530)),("deleted", 930,(r 537)),("replaced", 942,(r 544)),("__static_attributes__", 944,(r 545))] 12),o0,ob .none (fs [(i0 (373)),(i0 (4)),(r 494),(i0 (376)),(i0 (4)),(r 501),(i0 (379)),(i0 (4)),(r 508),(i0 (383)),(i0 (4)),(r 515),(i0 (386)),(i0 (4)),(r 522),(i0 (393)),(i0 (4)),(r 529),(i0 (399)),(i0 (4)),(r 536),(i0 (407)),(i0 (4)),(r 543)]),o11 "Markers" 856 371 485 181 859,⟨(.type "frame"),none,.plain,[some (r 487),some (r 3),some (r 484),none,some (s "emacs.markers" 852),none,some (r 0)].toArray⟩,o0,o1,o8 "self" 869,o0,o3 61 0 "Markers.__init__",o2 "__init__" 866 "Markers.__init__" 373 1 489 870 871,o4 61 0 "Markers.__init__" "emacs.markers" 852 494,o0,o1,o8 "self" 876,o0]
noncomputable def hp5 (P:Params):List Obj:=[
 o3 61 1 "Markers.numbers",o2 "numbers" 873 "Markers.numbers" 376 1 496 877 878,o4 61 1 "Markers.numbers" "emacs.markers" 852 501,o0,o1,o7 "self" 883 "marker" "position",o0,o3 61 2 "Markers.put",o2 "put" 880 "Markers.put" 379 3 503 886 887,o4 61 2 "Markers.put" "emacs.markers" 852 508,o0,o1,o9 "self" 892 "marker",o0,o3 61 3 "Markers.drop",o2 "drop" 889 "Markers.drop" 383 2 510 894 895,o4 61 3 "Markers.drop" "emacs.markers" 852 515,o0,o1,o12 "self" 900 "start" "end" "found" "number",o0,o3 61 4 "Markers.within",o2 "within" 897 "Markers.within" 386 3 517 905 906,o4 61 4 "Markers.within" "emacs.markers" 852 522,o0,o1,o13 "self" 911 "start" "end" "is_before" "number" "marker",o0,o3 61 5 "Markers.inserted",o2 "inserted" 908 "Markers.inserted" 393 4 524 917 918,o4 61 5 "Markers.inserted" "emacs.markers" 852 529,o0,o1,o12 "self" 923 "start" "end" "number" "marker",o0,o3 61 6 "Markers.deleted",o2 "deleted" 920 "Markers.deleted" 399 3 531 928 929,o4 61 6 "Markers.deleted" "emacs.markers" 852 536,o0,o1,o13 "self" 934 "start" "end" "many" "number" "marker",o0,o3 61 7 "Markers.replaced",o2 "replaced" 931 "Markers.replaced" 407 4 538 940 941,o4 61 7 "Markers.replaced" "emacs.markers" 852 543,o8 "rows" 943,ob (.type "dict") (di P [("__module__", 861,(s "emacs.markers" 852)),("__firstlineno__", 865,(.int (371) 864)),("__init__", 872,(r 495)),("numbers", 879,(r 502)),("put", 888,(r 509)),("drop", 896,(r 516)),("within", 907,(r 523)),("inserted", 919,(r 530)),("deleted", 930,(r 537)),("replaced", 942,(r 544)),("__static_attributes__", 944,(r 545)),("__dict__", 946,(r 548)),("__weakref__", 948,(r 549)),("__doc__", 949,.none)] 4),⟨(.type "type"),none,(.cls {name:=(S "Markers"),bases:=[(.type "object")],mro:=[(r 547),(.type "object")],ns:=546,qualname:=(S "Markers"),hasDict:=true,slotNames:=[],subclasses:=[],abstract:=false,collection:=none,hasDel:=false}),[none,none,some (s "Markers" 854),some (s "Markers" 862),some (.builtin "object.__new__"),some (.bool true)].toArray⟩,ob (.type "getset_descriptor") (fs [(s "__dict__" 945),(r 547),(.builtin "function.__dict__"),(.builtin "function.__dict__#set")]),o17 947 547,o15 547,o16 547,o0,o14,ob (.type "dict") (di P [("__module__", 961,(s "emacs.objects" 952)),("__qualname__", 963,(s "Opaque" 962)),("__firstlineno__", 965,(.int (415) 964)),("shown", 972,(r 565)),("kind", 979,(r 572)),("same_as", 987,(r 579)),("__static_attributes__", 988,(r 580))] 7),o0,ob .none (fs [(i0 (417)),(i0 (4)),(r 564),(i0 (420)),(i0 (4)),(r 571),(i0 (423)),(i0 (4)),(r 578)]),o11 "Opaque" 956 415 555 181 959,⟨(.type "frame"),none,.plain,[some (r 557),some (r 3),some (r 554),none,some (s "emacs.objects" 952),none,some (r 0)].toArray⟩,o0,o1,o8 "self" 969,o0,o3 63 0 "Opaque.shown",o2 "shown" 966 "Opaque.shown" 417 1 559 970 971,o4 63 0 "Opaque.shown" "emacs.objects" 952 564,o0,o1,o8 "self" 976,o0,o3 63 1 "Opaque.kind",o2 "kind" 973 "Opaque.kind" 420 1 566 977 978,o4 63 1 "Opaque.kind" "emacs.objects" 952 571,o0,o1,o9 "self" 983 "other",o0,o3 63 2 "Opaque.same_as",o2 "same_as" 980 "Opaque.same_as" 423 2 573 985 986,o4 63 2 "Opaque.same_as" "emacs.objects" 952 578,o0,ob (.type "dict") (di P [("__module__", 961,(s "emacs.objects" 952)),("__firstlineno__", 965,(.int (415) 964)),("shown", 972,(r 565)),("kind", 979,(r 572)),("same_as", 987,(r 579)),("__static_attributes__", 988,(r 580)),("__dict__", 990,(r 583)),("__weakref__", 992,(r 584)),("__doc__", 993,.none)] 4),⟨(.type "type"),none,(.cls {name:=(S "Opaque"),bases:=[(.type "object")],mro:=[(r 582),(.type "object")],ns:=581,qualname:=(S "Opaque"),hasDict:=true,slotNames:=[],subclasses:=[(r 688)],abstract:=false,collection:=none,hasDel:=false}),[none,none,some (s "Opaque" 954),some (s "Opaque" 962),some (.builtin "object.__new__"),some (.bool true)].toArray⟩,ob (.type "getset_descriptor") (fs [(s "__dict__" 989),(r 582),(.builtin "function.__dict__"),(.builtin "function.__dict__#set")]),o17 991 582,o15 582,o16 582,ob (.type "tuple") (sq [(r 582)]),o14,ob (.type "dict") (di P [("__module__", 1005,(s "emacs.buffer" 996)),
  ("__qualname__", 1007,(s "Buffer" 1006)),("__firstlineno__", 1009,(.int (426) 1008)),("__init__", 1020,(r 601)),("shown", 1027,(r 608)),("kind", 1034,(r 615)),("begin", 1041,(r 622)),("end", 1048,(r 629)),("size", 1055,(r 636)),("code_at", 1063,(r 643)),("codes", 1072,(r 650)),("goto", 1080,(r 657)),("tick", 1087,(r 664)),("is_modified", 1094,(r 671)),("set_modified", 1102,(r 678)),("touch", 1110,(r 685)),("__static_attributes__", 1131,(r 686))] 17),o0,ob .none (fs [(i0 (428)),(i0 (4)),(r 600),(i0 (450)),(i0 (4)),(r 607),(i0 (453)),(i0 (4)),(r 614),(i0 (456)),(i0 (4)),(r 621),(i0 (459)),(i0 (4)),(r 628),(i0 (462)),(i0 (4)),(r 635),(i0 (465)),(i0 (4)),(r 642),(i0 (468)),(i0 (4)),(r 649),(i0 (471)),(i0 (4)),(r 656),(i0 (475)),(i0 (4)),(r 663),(i0 (478)),(i0 (4)),(r 670),(i0 (481)),(i0 (4)),(r 677),(i0 (487)),(i0 (4)),(r 684)]),o11 "Buffer" 1000 426 590 181 1003,⟨(.type "frame"),none,.plain,[some (r 592),some (r 3),some (r 589),none,some (s "emacs.buffer" 996),none,some (r 0)].toArray⟩,ob (.type "tuple") (sq [(.int (8) 1010)]),o0,o1,o10 "self" 1014 "number" "name" "room",o0,o3 65 0 "Buffer.__init__"]
noncomputable def hp6 (P:Params):List Obj:=[
 o2 "__init__" 1011 "Buffer.__init__" 428 4 595 1018 1019,ob (.type "function") (fu (t2 65 0) (S "Buffer.__init__") 3 (r 594) .none .none (s "emacs.buffer" 996) none (r 600) .none 0),o0,o1,o8 "self" 1024,o0,o3 65 1 "Buffer.shown",o2 "shown" 1021 "Buffer.shown" 450 1 602 1025 1026,o4 65 1 "Buffer.shown" "emacs.buffer" 996 607,o0,o1,o8 "self" 1031,o0,o3 65 2 "Buffer.kind",o2 "kind" 1028 "Buffer.kind" 453 1 609 1032 1033,o4 65 2 "Buffer.kind" "emacs.buffer" 996 614,o0,o1,o8 "self" 1038,o0,o3 65 3 "Buffer.begin",o2 "begin" 1035 "Buffer.begin" 456 1 616 1039 1040,o4 65 3 "Buffer.begin" "emacs.buffer" 996 621,o0,o1,o8 "self" 1045,o0,o3 65 4 "Buffer.end",o2 "end" 1042 "Buffer.end" 459 1 623 1046 1047,o4 65 4 "Buffer.end" "emacs.buffer" 996 628,o0,o1,o8 "self" 1052,o0,o3 65 5 "Buffer.size",o2 "size" 1049 "Buffer.size" 462 1 630 1053 1054,o4 65 5 "Buffer.size" "emacs.buffer" 996 635,o0,o1,o9 "self" 1059 "place",o0,o3 65 6 "Buffer.code_at",o2 "code_at" 1056 "Buffer.code_at" 465 2 637 1061 1062,o4 65 6 "Buffer.code_at" "emacs.buffer" 996 642,o0,o1,o7 "self" 1067 "start" "end",o0,o3 65 7 "Buffer.codes",o2 "codes" 1064 "Buffer.codes" 468 3 644 1070 1071,o4 65 7 "Buffer.codes" "emacs.buffer" 996 649,o0,o1,o9 "self" 1076 "place",o0,o3 65 8 "Buffer.goto",o2 "goto" 1073 "Buffer.goto" 471 2 651 1078 1079,o4 65 8 "Buffer.goto" "emacs.buffer" 996 656,o0,o1,o8 "self" 1084,o0,o3 65 9 "Buffer.tick",o2 "tick" 1081 "Buffer.tick" 475 1 658 1085 1086,o4 65 9 "Buffer.tick" "emacs.buffer" 996 663,o0,o1,o8 "self" 1091,o0,o3 65 10 "Buffer.is_modified",o2 "is_modified" 1088 "Buffer.is_modified" 478 1 665 1092 1093,o4 65 10 "Buffer.is_modified" "emacs.buffer" 996 670,o0,o1,o9 "self" 1098 "is_so",o0,o3 65 11 "Buffer.set_modified",o2 "set_modified" 1095 "Buffer.set_modified" 481 2 672 1100 1101,o4 65 11 "Buffer.set_modified" "emacs.buffer" 996 677,o0,o1,o9 "self" 1106 "are_codes",o0,o3 65 12 "Buffer.touch",o2 "touch" 1103 "Buffer.touch" 487 2 679 1108 1109,o4 65 12 "Buffer.touch" "emacs.buffer" 996 684,ob (.type "tuple") (sq [(s "begv" 1111),(s "codes_ticks" 1112),(s "file" 1113),(s "is_live" 1114),(s "is_read_only" 1115),(s "listeners" 1116),(s "locals" 1117),(s "mark" 1118),(s "markers" 1119),(s "name" 1120),(s "number" 1121),(s "overlays" 1122),(s "point" 1123),(s "props" 1124),(s "saved_ticks" 1125),(s "syntax" 1126),(s "text" 1127),(s "ticks" 1128),(s "undo" 1129),(s "zv" 1130)]),ob (.type "dict") (di P [("__module__", 1005,(s "emacs.buffer" 996)),("__firstlineno__", 1009,(.int (426) 1008)),("__init__", 1020,(r 601)),("shown", 1027,(r 608)),("kind", 1034,(r 615)),("begin", 1041,(r 622)),("end", 1048,(r 629)),("size", 1055,(r 636)),("code_at", 1063,(r 643)),("codes", 1072,(r 650)),("goto", 1080,(r 657)),("tick", 1087,(r 664)),("is_modified", 1094,(r 671)),("set_modified", 1102,(r 678)),("touch", 1110,(r 685)),("__static_attributes__", 1131,(r 686)),("__doc__", 1132,.none)] 2),⟨(.type "type"),none,(.cls {name:=(S "Buffer"),bases:=[(r 582)],mro:=[(r 688),(r 582),(.type "object")],ns:=687,qualname:=(S "Buffer"),hasDict:=true,slotNames:=[],subclasses:=[],abstract:=false,collection:=none,hasDel:=false}),[some (r 587),none,some (s "Buffer" 998),some (s "Buffer" 1006),some (.builtin "object.__new__"),some (.bool true)].toArray⟩,o15 688,o16 688,ob (.type "tuple") (sq [(.type "Exception")]),o14,ob (.type "dict") (di P [("__module__", 1152,(s "emacs.filetree" 1135)),("__qualname__", 1154,(s "Ended" 1153)),("__firstlineno__", 1156,(.int (496) 1155)),("__static_attributes__", 1157,(r 698))] 4),o0,o1,o11 "Ended" 1147 496 694 181 1150,⟨(.type "frame"),none,.plain,[some (r 696),some (r 3),some (r 693),none,some (s "emacs.filetree" 1135),none,some (r 0)].toArray⟩,o0,ob (.type "dict") (di P [("__module__", 1152,(s "emacs.filetree" 1135)),("__firstlineno__", 1156,(.int (496) 1155)),("__static_attributes__", 1157,(r 698)),("__weakref__", 1159,(r 701)),("__doc__", 1160,.none)] 3)]
noncomputable def hp7 (P:Params):List Obj:=[
 ⟨(.type "type"),none,(.cls {name:=(S "Ended"),bases:=[(.type "Exception")],mro:=[(r 700),(.type "Exception"),(.type "BaseException"),(.type "object")],ns:=699,qualname:=(S "Ended"),hasDict:=true,slotNames:=[],subclasses:=[],abstract:=false,collection:=none,hasDel:=false}),[some (r 691),none,some (s "Ended" 1145),some (s "Ended" 1153),some (.builtin "Exception.__new__"),some (.bool true)].toArray⟩,o17 1158 700,o15 700,o16 700,o0,o14,ob (.type "dict") (di P [("__module__", 1172,(s "emacs.filetree" 1135)),("__qualname__", 1174,(s "Entry" 1173)),("__firstlineno__", 1176,(.int (498) 1175)),("__init__", 1186,(r 717)),("__static_attributes__", 1191,(r 718))] 5),o0,ob .none (fs [(i0 (500)),(i0 (4)),(r 716)]),o11 "Entry" 1167 498 707 181 1170,⟨(.type "frame"),none,.plain,[some (r 709),some (r 3),some (r 706),none,some (s "emacs.filetree" 1135),none,some (r 0)].toArray⟩,o0,o1,o10 "self" 1180 "sort" "content" "stamp",o0,o3 72 0 "Entry.__init__",o2 "__init__" 1177 "Entry.__init__" 500 4 711 1184 1185,o4 72 0 "Entry.__init__" "emacs.filetree" 1135 716,o10 "content" 1187 "is_writable" "sort" "stamp",ob (.type "dict") (di P [("__module__", 1172,(s "emacs.filetree" 1135)),("__firstlineno__", 1176,(.int (498) 1175)),("__init__", 1186,(r 717)),("__static_attributes__", 1191,(r 718)),("__dict__", 1193,(r 721)),("__weakref__", 1195,(r 722)),("__doc__", 1196,.none)] 4),⟨(.type "type"),none,(.cls {name:=(S "Entry"),bases:=[(.type "object")],mro:=[(r 720),(.type "object")],ns:=719,qualname:=(S "Entry"),hasDict:=true,slotNames:=[],subclasses:=[],abstract:=false,collection:=none,hasDel:=false}),[none,none,some (s "Entry" 1165),some (s "Entry" 1173),some (.builtin "object.__new__"),some (.bool true)].toArray⟩,ob (.type "getset_descriptor") (fs [(s "__dict__" 1192),(r 720),(.builtin "function.__dict__"),(.builtin "function.__dict__#set")]),o17 1194 720,o15 720,o16 720,o0,o14,ob (.type "dict") (di P [("__module__", 1206,(s "emacs.filetree" 1135)),("__qualname__", 1208,(s "FileTree" 1207)),("__firstlineno__", 1210,(.int (505) 1209)),("__init__", 1217,(r 738)),("step", 1224,(r 745)),("true_name", 1236,(r 752)),("first_link", 1246,(r 759)),("parent_true", 1255,(r 766)),("entry", 1263,(r 773)),("is_there", 1271,(r 780)),("is_directory", 1280,(r 787)),("is_plain", 1289,(r 794)),("need_plain", 1298,(r 801)),("need_directory", 1307,(r 808)),("read", 1315,(r 815)),("stamp", 1324,(r 822)),("may_write", 1334,(r 829)),("link_text", 1343,(r 836)),("listed", 1355,(r 843)),("need_room", 1364,(r 850)),("write", 1375,(r 857)),("fill", 1384,(r 864)),("append", 1393,(r 871)),("make_directory", 1402,(r 878)),("make_link", 1411,(r 885)),("delete", 1421,(r 892)),("remove_directory", 1429,(r 899)),("rename", 1435,(r 904)),("copy", 1446,(r 911)),("set_writable", 1455,(r 918)),("__static_attributes__", 1459,(r 919))] 31),o0,ob .none (fs [(i0 (507)),(i0 (4)),(r 737),(i0 (512)),(i0 (4)),(r 744),(i0 (519)),(i0 (4)),(r 751),(i0 (529)),(i0 (4)),(r 758),(i0 (539)),(i0 (4)),(r 765),(i0 (545)),(i0 (4)),(r 772),(i0 (548)),(i0 (4)),(r 779),(i0 (551)),(i0 (4)),(r 786),(i0 (555)),(i0 (4)),(r 793),(i0 (559)),(i0 (4)),(r 800),(i0 (567)),(i0 (4)),(r 807),(i0 (574)),(i0 (4)),(r 814),(i0 (577)),(i0 (4)),(r 821),(i0 (581)),(i0 (4)),(r 828),(i0 (588)),(i0 (4)),(r 835),(i0 (592)),(i0 (4)),(r 842),(i0 (602)),(i0 (4)),(r 849),(i0 (611)),(i0 (4)),(r 856),(i0 (629)),(i0 (4)),(r 863),(i0 (634)),(i0 (4)),(r 870),(i0 (637)),(i0 (4)),(r 877),(i0 (645)),(i0 (4)),(r 884),(i0 (648)),(i0 (4)),(r 891),(i0 (659)),(i0 (4)),(r 898),(i0 (662)),(i0 (4)),(r 903),(i0 (684)),(i0 (4)),(r 910),(i0 (690)),(i0 (4)),(r 917)]),o11 "FileTree" 1201 505 728 181 1204,⟨(.type "frame"),none,.plain,[some (r 730),some (r 3),some (r 727),none,some (s "emacs.filetree" 1135),none,some (r 0)].toArray⟩,o0,o1,o8 "self" 1214,o0,o3 73 0 "FileTree.__init__",o2 "__init__" 1211 "FileTree.__init__" 507 1 732 1215 1216,o4 73 0 "FileTree.__init__" "emacs.filetree" 1135 737,o0,o1,o8 "self" 1221,o0,o3 73 1 "FileTree.step",o2 "step" 1218 "FileTree.step" 512 1 739 1222 1223,
 o4 73 1 "FileTree.step" "emacs.filetree" 1135 744,o0,o1,o13 "self" 1228 "name" "at" "turn" "follow" "target",o0,o3 73 2 "FileTree.true_name",o2 "true_name" 1225 "FileTree.true_name" 519 2 746 1234 1235,o4 73 2 "FileTree.true_name" "emacs.filetree" 1135 751,o0,o1,o10 "self" 1240 "name" "end" "found",o0,o3 73 3 "FileTree.first_link",o2 "first_link" 1237 "FileTree.first_link" 529 2 753 1244 1245,o4 73 3 "FileTree.first_link" "emacs.filetree" 1135 758,o0,o1,o7 "self" 1250 "name" "above",o0,o3 73 4 "FileTree.parent_true",o2 "parent_true" 1247 "FileTree.parent_true" 539 2 760 1253 1254,o4 73 4 "FileTree.parent_true" "emacs.filetree" 1135 765,o0,o1,o9 "self" 1259 "name",o0,o3 73 5 "FileTree.entry",o2 "entry" 1256 "FileTree.entry" 545 2 767 1261 1262,o4 73 5 "FileTree.entry" "emacs.filetree" 1135 772,o0,o1,o9 "self" 1267 "name",o0,o3 73 6 "FileTree.is_there",o2 "is_there" 1264 "FileTree.is_there" 548 2 774 1269 1270,o4 73 6 "FileTree.is_there" "emacs.filetree" 1135 779,o0,o1,o7 "self" 1275 "name" "found",o0,o3 73 7 "FileTree.is_directory",o2 "is_directory" 1272 "FileTree.is_directory" 551 2 781 1278 1279,o4 73 7 "FileTree.is_directory" "emacs.filetree" 1135 786,o0,o1,o7 "self" 1284 "name" "found",o0,o3 73 8 "FileTree.is_plain",o2 "is_plain" 1281 "FileTree.is_plain" 555 2 788 1287 1288,o4 73 8 "FileTree.is_plain" "emacs.filetree" 1135 793,o0,o1,o7 "self" 1293 "name" "found",o0,o3 73 9 "FileTree.need_plain"]
noncomputable def hp8 (P:Params):List Obj:=[
 o2 "need_plain" 1290 "FileTree.need_plain" 559 2 795 1296 1297,o4 73 9 "FileTree.need_plain" "emacs.filetree" 1135 800,o0,o1,o7 "self" 1302 "name" "found",o0,o3 73 10 "FileTree.need_directory",o2 "need_directory" 1299 "FileTree.need_directory" 567 2 802 1305 1306,o4 73 10 "FileTree.need_directory" "emacs.filetree" 1135 807,o0,o1,o9 "self" 1311 "name",o0,o3 73 11 "FileTree.read",o2 "read" 1308 "FileTree.read" 574 2 809 1313 1314,o4 73 11 "FileTree.read" "emacs.filetree" 1135 814,o0,o1,o7 "self" 1319 "name" "found",o0,o3 73 12 "FileTree.stamp",o2 "stamp" 1316 "FileTree.stamp" 577 2 816 1322 1323,o4 73 12 "FileTree.stamp" "emacs.filetree" 1135 821,o0,o1,o10 "self" 1328 "name" "found" "above",o0,o3 73 13 "FileTree.may_write",o2 "may_write" 1325 "FileTree.may_write" 581 2 823 1332 1333,o4 73 13 "FileTree.may_write" "emacs.filetree" 1135 828,o0,o1,o7 "self" 1338 "name" "found",o0,o3 73 14 "FileTree.link_text",o2 "link_text" 1335 "FileTree.link_text" 588 2 830 1341 1342,o4 73 14 "FileTree.link_text" "emacs.filetree" 1135 835,o0,o1,o13 "self" 1347 "name" "whole" "head" "found" "other",o0,o3 73 15 "FileTree.listed",o2 "listed" 1344 "FileTree.listed" 592 2 837 1353 1354,o4 73 15 "FileTree.listed" "emacs.filetree" 1135 842,o0,o1,o7 "self" 1359 "name" "above",o0,o3 73 16 "FileTree.need_room",o2 "need_room" 1356 "FileTree.need_room" 602 2 844 1362 1363,o4 73 16 "FileTree.need_room" "emacs.filetree" 1135 849,o0,o1,o12 "self" 1368 "name" "codes" "whole" "found",o0,o3 73 17 "FileTree.write",o2 "write" 1365 "FileTree.write" 611 3 851 1373 1374,o4 73 17 "FileTree.write" "emacs.filetree" 1135 856,o0,o1,o7 "self" 1379 "entry" "codes",o0,o3 73 18 "FileTree.fill",o2 "fill" 1376 "FileTree.fill" 629 3 858 1382 1383,o4 73 18 "FileTree.fill" "emacs.filetree" 1135 863,o0,o1,o7 "self" 1388 "name" "codes",o0,o3 73 19 "FileTree.append",o2 "append" 1385 "FileTree.append" 634 3 865 1391 1392,o4 73 19 "FileTree.append" "emacs.filetree" 1135 870,o0,o1,o7 "self" 1397 "name" "whole",o0,o3 73 20 "FileTree.make_directory",o2 "make_directory" 1394 "FileTree.make_directory" 637 2 872 1400 1401,o4 73 20 "FileTree.make_directory" "emacs.filetree" 1135 877,o0,o1,o7 "self" 1406 "text" "name",o0,o3 73 21 "FileTree.make_link",o2 "make_link" 1403 "FileTree.make_link" 645 3 879 1409 1410,o4 73 21 "FileTree.make_link" "emacs.filetree" 1135 884,o0,o1,o10 "self" 1415 "name" "whole" "found",o0,o3 73 22 "FileTree.delete",o2 "delete" 1412 "FileTree.delete" 648 2 886 1419 1420,o4 73 22 "FileTree.delete" "emacs.filetree" 1135 891,o0,o1,o9 "self" 1425 "name",o0,o3 73 23 "FileTree.remove_directory",o2 "remove_directory" 1422 "FileTree.remove_directory" 659 2 893 1427 1428,o4 73 23 "FileTree.remove_directory" "emacs.filetree" 1135 898]
noncomputable def hp9 (P:Params):List Obj:=[
 o0,o1,o3 73 24 "FileTree.rename",o18 "rename" 1430 "FileTree.rename" 662 4 900 1433,o4 73 24 "FileTree.rename" "emacs.filetree" 1135 903,o0,o1,o12 "self" 1439 "old" "new" "is_over" "codes",o0,o3 73 25 "FileTree.copy",o2 "copy" 1436 "FileTree.copy" 684 4 905 1444 1445,o4 73 25 "FileTree.copy" "emacs.filetree" 1135 910,o0,o1,o7 "self" 1450 "name" "flag",o0,o3 73 26 "FileTree.set_writable",o2 "set_writable" 1447 "FileTree.set_writable" 690 3 912 1453 1454,o4 73 26 "FileTree.set_writable" "emacs.filetree" 1135 917,o7 "clock" 1456 "entries" "left",ob (.type "dict") (di P [("__module__", 1206,(s "emacs.filetree" 1135)),("__firstlineno__", 1210,(.int (505) 1209)),("__init__", 1217,(r 738)),("step", 1224,(r 745)),("true_name", 1236,(r 752)),("first_link", 1246,(r 759)),("parent_true", 1255,(r 766)),("entry", 1263,(r 773)),("is_there", 1271,(r 780)),("is_directory", 1280,(r 787)),("is_plain", 1289,(r 794)),("need_plain", 1298,(r 801)),("need_directory", 1307,(r 808)),("read", 1315,(r 815)),("stamp", 1324,(r 822)),("may_write", 1334,(r 829)),("link_text", 1343,(r 836)),("listed", 1355,(r 843)),("need_room", 1364,(r 850)),("write", 1375,(r 857)),("fill", 1384,(r 864)),("append", 1393,(r 871)),("make_directory", 1402,(r 878)),("make_link", 1411,(r 885)),("delete", 1421,(r 892)),("remove_directory", 1429,(r 899)),("rename", 1435,(r 904)),("copy", 1446,(r 911)),("set_writable", 1455,(r 918)),("__static_attributes__", 1459,(r 919)),("__dict__", 1461,(r 922)),("__weakref__", 1463,(r 923)),("__doc__", 1464,.none)] 4),⟨(.type "type"),none,(.cls {name:=(S "FileTree"),bases:=[(.type "object")],mro:=[(r 921),(.type "object")],ns:=920,qualname:=(S "FileTree"),hasDict:=true,slotNames:=[],subclasses:=[],abstract:=false,collection:=none,hasDel:=false}),[none,none,some (s "FileTree" 1199),some (s "FileTree" 1207),some (.builtin "object.__new__"),some (.bool true)].toArray⟩,ob (.type "getset_descriptor") (fs [(s "__dict__" 1460),(r 921),(.builtin "function.__dict__"),(.builtin "function.__dict__#set")]),o17 1462 921,o15 921,o16 921,o0,o1,o9 "name" 1470 "found",o0,o5 74 "parent_of",o2 "parent_of" 1467 "parent_of" 692 1 926 1472 1473,o6 74 "parent_of" "emacs.filetree" 1135 931,o0,o1,o9 "directory" 1478 "step",o0,o5 75 "joined",o2 "joined" 1475 "joined" 695 2 933 1480 1481,o6 75 "joined" "emacs.filetree" 1135 938,o0,o1,o9 "deck" 1488 "many",o0,o5 77 "_law_draw",o2 "_law_draw" 1485 "_law_draw" 698 2 940 1490 1491,o6 77 "_law_draw" "law_ok0073_01" 1483 945,o0,o1,o5 78 "_law_text",o18 "_law_text" 1493 "_law_text" 700 2 947 1496,o6 78 "_law_text" "law_ok0073_01" 1483 950,o0,o1,o10 "tree" 1502 "buffer" "manner" "is_forced",o0,o5 79 "_law_saved",o2 "_law_saved" 1499 "_law_saved" 702 4 952 1506 1507,o6 79 "_law_saved" "law_ok0073_01" 1483 957,o0,o1,o9 "tree" 1512 "buffer",o0,o5 80 "_law_recovered",o2 "_law_recovered" 1509 "_law_recovered" 707 2 959 1514 1515,o6 80 "_law_recovered" "law_ok0073_01" 1483 964,o0,o1,o12 "old" 1520 "new" "place" "head" "tail",o0,o5 81 "_law_reverted_point",o2 "_law_reverted_point" 1517 "_law_reverted_point" 713 3 966 1525 1526,o6 81 "_law_reverted_point" "law_ok0073_01" 1483 971,o0,o1,ob (.type "tuple") (sq [(s "deck" 1531),(s "buffer" 1532),(s "record" 1533),(s "way" 1534),(s "size" 1535),(s "place" 1536),(s "codes" 1537)]),o0,o5 82 "_law_edit",o2 "_law_edit" 1528 "_law_edit" 722 4 973 1538 1539,o6 82 "_law_edit" "law_ok0073_01" 1483 978,o0,o1,ob (.type "tuple") (sq [(s "deck" 1544),(s "tree" 1545),(s "buffer" 1546),(s "record" 1547),(s "is_forced" 1548),(s "wants" 1549),(s "told_here" 1550)]),o0,o5 83 "_law_save",o2 "_law_save" 1541 "_law_save" 739 4 980 1551 1552,o6 83 "_law_save" "law_ok0073_01" 1483 985,o0,o1,ob (.type "tuple") (sq [(s "deck" 1557),(s "tree" 1558),(s "buffer" 1559),(s "record" 1560),(s "way" 1561),(s "codes" 1562),(s "due" 1563),(s "is_still" 1564)]),o0,o5 84 "_law_deed",o2 "_law_deed" 1554 "_law_deed" 753 4 987 1565 1566,o6 84 "_law_deed" "law_ok0073_01" 1483 992,o0,o1,o5 85 "law",o18 "law" 1568 "law" 783 1 994 1571,
 o6 85 "law" "law_ok0073_01" 1483 997]
noncomputable def hp (P:Params):List Obj:=hp0 P++hp1 P++hp2 P++hp3 P++hp4 P++hp5 P++hp6 P++hp7 P++hp8 P++hp9 P
end Mine
section
set_option maxHeartbeats 0
namespace Mine
open PySem PySem.W PySem.Calls PyProof.Rows
noncomputable abbrev xD1:List Stmt:=behindTheImports pw
noncomputable abbrev yX0:Env:={scope:=pw.main.scope,locals:=mainNs,globals:=mainNs,cells:=[],code:=.ref 13,frame:=some 14}
noncomputable abbrev p0:Pos:=⟨0,0,0,0⟩
noncomputable abbrev pE:Pos:=⟨783,0,802,15⟩
noncomputable abbrev cE:Code:=.body xD1 yX0
mutual
noncomputable def zS2:List Obj->List Obj
 |[]=>[]
 |x::l=>x::yH6 l
noncomputable def yH6:List Obj->List Obj
 |[]=>[]
 |J::l=>zS2 l
end
noncomputable def bt:Nat->List Obj->BT
 |0,J=>.nil
 |J+1,[]=>.nil
 |n+1,x::l=>.node x (bt n (zS2 l)) (bt n (yH6 l))
noncomputable abbrev Ssa (w:World) (os:OsState):SharedT:=⟨bt 12 (sa w.params),15,{},#[],{},187,os⟩
noncomputable abbrev Shp (w:World) (os:OsState):SharedT:=⟨bt 12 (hp w.params),999,{},#[],{},1574,os⟩
theorem zT9:∀ w:World,(fun os=>Fast.tw10110043849684766642 Fast.tw14364793385576792824 pw w 11 (some (.ref 6)) 1 6068 (Ssa w os) ⟨(Fast.tw12563942051412417395 xD1 yX0).wrap doneF deadEnd id id,cE,p0,[topFrame p0]⟩)=fun os=>some (.next,Shp w os,cE,pE):=by
 intro w
 kernel_rfl!
end Mine
end
section
set_option maxHeartbeats 0
namespace Mine
open PySem PySem.W PySem.Calls PyProof.Rows
theorem xU3 (w:World) (os:OsState):segRun treeTable pw w 11 (some (.ref 6)) 1 6068 (Ssa w os).abs (piecesOf xD1 yX0 cE p0 [topFrame p0])=some (.next,(Shp w os).abs,cE,pE):=by
 refine segRun_of ?_
 have h:=congrFun (zT9 w) os
 rw[<-Fast.te10110043849684766642,<-Fast.te14364793385576792824,<-Fast.te12563942051412417395]at h
 exact h
theorem zW0 (w:World):(fun os=>topGo treeTable pw w 11 (some (.ref 6)) 12 ⟨boot_heap w.params,#[],{},181,os⟩ (topStub pw))=fun os=>some ((Ssa w os).abs,(⟨denote treeTable cE,cE,p0,[topFrame p0]⟩:Thread)):=by
 kernel_rfl!
theorem wU6 (w:World):(fun os=>segRun treeTable pw w 11 (some (.ref 6)) 1 1 (Ssa w os).abs (blockOf xD1 yX0 cE p0 [topFrame p0]))=fun os=>some (.next,(Ssa w os).abs,cE,p0):=by
 kernel_rfl!
noncomputable abbrev H1 (P:Params):Heap:=⟨⟨hp P⟩,{}⟩
theorem zK9 (w:World):(fun os=>topRun treeTable pw w 11 (some (.ref 6)) 2 (Shp w os).abs ⟨doneF .next,cE,pE,[topFrame p0]⟩)=fun os=>some ⟨H1 w.params,#[],{},1574,os⟩:=by
 kernel_rfl!
theorem zW2 (w:World) (os:OsState):topRun treeTable pw w 11 (some (.ref 6)) (12+(1+(6068+2))) ⟨boot_heap w.params,#[],{},181,os⟩ (topStub pw)=some ⟨H1 w.params,#[],{},1574,os⟩:=by
 refine go_top (congrFun (zW0 w) os) (piece_block (congrFun (wU6 w) os) ?_)
 have h:=piece_app (rest:=[]) (xU3 w os) (piece_nil (congrFun (zK9 w) os))
 rw[List.append_nil]at h
 exact h
theorem xT4:∀ w:World,(fencedOpening treeTable pw w 20000).map (fun s=>(s.heap,s.gens,s.drawn,s.toks))=some (boot_heap w.params,#[],{},181):=
 boot_open (by kernel_rfl!) (by kernel_rfl!) (by intro s;kernel_rfl!)
end Mine
end
section
set_option maxHeartbeats 0
namespace Mine
open PySem PySem.W PySem.Calls PyProof.Rows
noncomputable def qM8:Program:={pw with main:={pw.main with body:=[t1 85]}}
noncomputable def qH7:List Str:=["_wall", "LispSignal", "need_writable", "reached", "tell_ahead", "tell_behind", "text_out", "text_in", "hung_out", "hung_in", "put_in", "insert_at", "delete", "erase", "DIGITS", "directory_part", "last_part", "as_directory", "as_file", "with_home", "steps_of", "expanded", "backup_name", "numbered_name", "backup_number", "auto_save_name", "NEWLINE", "NEVER", "SINGLE", "AS_BEFORE", "Manner", "numbers_there", "backup_plan", "make_backup", "spare_name", "write_precious", "write_file", "write_auto", "drop_auto", "Visit", "whole_text", "with_text", "visit", "note_visit", "need_visit", "is_current", "end_line", "save", "revert", "put_text", "auto_save", "has_unsaved", "recover", "GapText", "Markers", "Opaque", "Buffer", "MOST_LINKS", "DIRECTORY", "PLAIN", "LINK", "Ended", "Entry", "FileTree", "parent_of", "joined", "_law_draw", "_law_text", "_law_saved", "_law_recovered", "_law_reverted_point", "_law_edit", "_law_save", "_law_deed"].map Str.ofString
abbrev rw:OpenLaw:=PySem.Challenge.rw_ok0073_01
noncomputable def XtP (s:Shared):Bool:=xlAt qM8 [] s&&recOk (RowW.records rw.row.toRowW) s
noncomputable def zA7 (s:Shared):List (Option Obj):=(List.range 999).map s.heap.get?
noncomputable def zB3 (w:World):List (Option Obj):=(hp w.params).map some
theorem wH2 (w:World):(Heap.isNs (boot_heap w.params) mainGlobals&&(#[]:Array GenState).size==0,(boot_heap w.params).objs.size,(boot_heap w.params).nsMap mainGlobals "__annotations__")=(true,11,some (.ref 6)):=by
 kernel_rfl!
noncomputable abbrev s1 (w:World) (os:OsState):Shared:=⟨H1 w.params,#[],{},1574,os⟩
theorem lk1 (w:World):staticsOk (importedModules pw.main.body) (boot_heap w.params) (H1 w.params)=true:=by kernel_rfl!
theorem lk2 (w:World):namesBound pw (H1 w.params)=true:=by kernel_rfl!
theorem lk3 (w:World):(fun os=>gensDone (s1 w os))=fun J=>true:=by kernel_rfl!
theorem lk4 (w:World):laidKept (boot_heap w.params) (H1 w.params)=true:=by kernel_rfl!
theorem xF6 (life:Life):∀(l:List Obj),l.all (fun o=>!o.isFreed)=true->(List.range l.length).map (Heap.get? ⟨⟨l⟩,life⟩)=l.map some:=by
 intro l hl
 apply List.ext_getElem
 ·simp
 ·intro i h1 h2
  have hi:i<l.length:=by simpa using h1
  have hf:(l[i]).isFreed=false:=by simpa using List.all_eq_true.mp hl _ (List.getElem_mem hi)
  simp only[List.getElem_map,List.getElem_range]
  have e:(⟨⟨l⟩,life⟩:Heap).objs[i]?=some l[i]:=by
   show (⟨l⟩:Array Obj)[i]?=_
   simp[hi]
  exact Heap.get?_some_iff.mpr ⟨e,hf⟩
theorem wF1 (P:Params):(hp P).length=999:=by kernel_rfl!
theorem xU4 (P:Params):(hp P).all (fun o=>!o.isFreed)=true:=by kernel_rfl!
theorem lk5 (w:World) (os:OsState):zA7 (s1 w os)=zB3 w:=by
 have h:=xF6 {} (hp w.params) (xU4 w.params)
 rw[wF1]at h
 exact h
end Mine
end
section
set_option maxHeartbeats 0
namespace Mine
open PySem PySem.W PySem.Calls PyProof.Rows
theorem yF3 (w:World):(fun os=>@Fast.tw4187177175401517315 qM8 qH7 (importedModules pw.main.body) XtP true (s1 w os))=fun J=>openGood qM8 qH7:=by kernel_rfl!
theorem lk6 (w:World) (os:OsState):openSeen qM8 qH7 (importedModules pw.main.body) XtP true (s1 w os)=openGood qM8 qH7:=by
 have h:=congrFun (yF3 w) os
 rw[<-Fast.te4187177175401517315]at h
 exact h
theorem left:LeftO pw qM8 qH7 XtP zA7 zB3 20000 true:=
 LeftO.of_pieces xT4 wH2 zW2 (by decide) fun w=>by
  funext os
  show ((_&&_&&_&&_),_,_)=_
  rw[lk1 w,lk2 w,congrFun (lk3 w) os,lk4 w,lk6 w os,lk5 w os]
  rfl
theorem zM0:Fast.tw9446332074065402090 rw=true:=by
 iterate 35 refine look_both ?_ (by decide +kernel)
 decide +kernel
theorem yU4:rw.wellSaid=true:=by
 rw[Fast.te9446332074065402090]
 exact zM0
end Mine
end
section
set_option maxHeartbeats 0
namespace Mine
open PySem PySem.W PySem.Calls PyProof.Rows
noncomputable def YPp (w:World) (h:Heap):Prop:=∀ a o,(hp w.params)[a]?=some o->h.get? a=some o
noncomputable def yB4:DefRec:=match t1 85 with
 |.FunctionDef name args body J J2 J3 scope J4 J5 pos=>{name:=name,params:=args,body:=body,scope:=scope,pos:=pos}
 |J=>{name:=S "", params:=default,body:=[],scope:=default,pos:=default}
theorem yC5 (w:World) (s:Shared) (e:zA7 s=zB3 w):YPp w s.heap:=by
 intro a o ho
 have hl:a<(hp w.params).length:=(List.getElem?_eq_some_iff.mp ho).1
 have h1:(zA7 s)[a]?=(zB3 w)[a]?:=by rw[e]
 unfold zA7 zB3 at h1
 rw[List.getElem?_map,List.getElem?_map,ho,List.getElem?_range (by rw[<-wF1 w.params];exact hl)]at h1
 simpa using h1
theorem wS7 (call:WalkO qM8 qH7 (XL qM8 []) YPp rw.row.toRowW yB4 [] fun f vs=>PySem.call f vs):rw.Holds:=by
 refine holds_law yU4 fun k1=>?_
 refine holds_open (q:=qM8) (loose:=qH7) (Xt:=XtP) (XP:=XL qM8 []) (Yf:=zA7) (Ya:=zB3) (YP:=YPp) (N:=20000) (d:=yB4) (kwd:=[]) left yC5 (fun w h h' y k a o e=>k _ _ (y a o e))
  (fun s e=>xl_of s (Bool.and_eq_true_iff.mp e).1) XL.keeps ?_ ?_ ?_ (fun s e=>recFacts_of (Bool.and_eq_true_iff.mp e).2) (by rfl) k1 ?_ ?_ ?_ call
 ·kernel_rfl!
 ·kernel_rfl!
 ·kernel_rfl!
 ·decide +kernel
 ·exact ⟨rfl,rfl,rfl,rfl,rfl,by decide +kernel⟩
 ·w_witness2
end Mine
end
section
namespace Mine
section
set_option genInjectivity false
set_option genSizeOf false
inductive NT where|c (n:Nat)|v (i:Nat)|a (s t:NT)|m (k:Nat) (s:NT)
inductive IT where|c (n:Int)|v (i:Nat)|n (t:NT)|a (s t:IT)|s (s t:IT)|g (s:IT)
inductive LC where|nl (s t:NT)|il (s t:IT)
end
noncomputable def zN:List Nat->Nat->Nat
 |[],J=>0
 |x::J,0=>x
 |J::r,k+1=>zN r k
noncomputable def zI:List Int->Nat->Int
 |[],J=>0
 |x::J,0=>x
 |J::r,k+1=>zI r k
noncomputable def NT.den (N:List Nat):NT->Nat
 |.c x=>x
 |.v i=>zN N i
 |.a u t=>u.den N+t.den N
 |.m k u=>k*u.den N
noncomputable def IT.den (N:List Nat) (I:List Int):IT->Int
 |.c x=>x
 |.v i=>zI I i
 |.n t=>(t.den N:Nat)
 |.a u t=>u.den N I+t.den N I
 |.s u t=>u.den N I-t.den N I
 |.g t=>-(t.den N I)
noncomputable def LC.den (N:List Nat) (I:List Int):LC->Prop
 |.nl s t=>s.den N<=t.den N
 |.il s t=>s.den N I<=t.den N I
noncomputable def yC4 (N:List Nat) (I:List Int):List (Nat×LC)->Prop
 |[]=>False
 |(J,c)::r=>c.den N I->yC4 N I r
noncomputable def qE7:List Int->List Int->List Int
 |[],b=>b
 |a,[]=>a
 |x::a,y::b=>(x+y)::qE7 a b
noncomputable def qD8 (k:Int):List Int->List Int
 |[]=>[]
 |x::a=>k*x::qD8 k a
noncomputable def zR5:Nat->List Int
 |0=>[1]
 |i+1=>0::zR5 i
noncomputable def qJ5:List Int->List Int->Int
 |x::a,y::b=>x*y+qJ5 a b
 |J,J2=>0
noncomputable def wS9:List Nat->List Int
 |[]=>[]
 |x::r=>(x:Int)::wS9 r
noncomputable def zA5:List Int->Bool
 |[]=>false
 |x::r=>match decide (0<=x) with|true=>zA5 r|false=>true
noncomputable def wL5:List Int->Bool
 |[]=>false
 |x::r=>match decide (x=0) with|true=>wL5 r|false=>true
noncomputable def NT.nf:NT->List Int
 |.c x=>[(x:Int)]
 |.v i=>zR5 (i+1)
 |.a u t=>qE7 u.nf t.nf
 |.m k u=>qD8 k u.nf
noncomputable def IT.nfN:IT->List Int
 |.c x=>[x]
 |.v J=>[]
 |.n t=>t.nf
 |.a u t=>qE7 u.nfN t.nfN
 |.s u t=>qE7 u.nfN (qD8 (-1) t.nfN)
 |.g t=>qD8 (-1) t.nfN
noncomputable def IT.nfI:IT->List Int
 |.c J=>[]
 |.v i=>zR5 i
 |.n J=>[]
 |.a u t=>qE7 u.nfI t.nfI
 |.s u t=>qE7 u.nfI (qD8 (-1) t.nfI)
 |.g t=>qD8 (-1) t.nfI
noncomputable def LC.nfN:LC->List Int
 |.nl s t=>qE7 s.nf (qD8 (-1) t.nf)
 |.il s t=>qE7 s.nfN (qD8 (-1) t.nfN)
noncomputable def LC.nfI:LC->List Int
 |.nl J J2=>[]
 |.il s t=>qE7 s.nfI (qD8 (-1) t.nfI)
noncomputable def yV9:List (Nat×LC)->List Int->List Int->Bool
 |[],a,b=>match a with
  |[]=>false
  |k::a=>match decide (0<k),zA5 a,wL5 b with|true,false,false=>true|J,J2,J3=>false
 |(k,c)::r,a,b=>yV9 r (qE7 a (qD8 k c.nfN)) (qE7 b (qD8 k c.nfI))
theorem zC2 (a b c d:Int):a+b+(c+d)=a+c+(b+d):=by rw[Int.add_assoc,Int.add_left_comm b,<-Int.add_assoc]
theorem vsw (a b c d:Int):a+b-(c+d)=a-c+(b-d):=by rw[Int.sub_eq_add_neg,Int.neg_add,zC2];rfl
theorem qJ4:∀(a b y:List Int),qJ5 (qE7 a b) y=qJ5 a y+qJ5 b y
 |[],b,y=>(Int.zero_add _).symm
 |x::a,[],y=>(Int.add_zero _).symm
 |x::a,z::b,[]=>rfl
 |x::a,z::b,w::y=>by
  show (x+z)*w+qJ5 (qE7 a b) y=(x*w+qJ5 a y)+(z*w+qJ5 b y)
  rw[qJ4 a b y,Int.add_mul]
  exact zC2 ..
theorem qJ6 (k:Int):∀(a y:List Int),qJ5 (qD8 k a) y=k*qJ5 a y
 |[],y=>(Int.mul_zero k).symm
 |x::a,[]=>(Int.mul_zero k).symm
 |x::a,w::y=>by
  show k*x*w+qJ5 (qD8 k a) y=k*(x*w+qJ5 a y)
  rw[qJ6 k a y,Int.mul_add,Int.mul_assoc]
theorem zD5 {a:List Int}:qJ5 a []=0:=by cases a<;>rfl
theorem qS8:∀(i:Nat) (y:List Int),qJ5 (zR5 i) y=zI y i
 |0,[]=>rfl
 |i+1,[]=>rfl
 |0,x::y=>by
  show 1*x+0=x
  rw[Int.one_mul,Int.add_zero]
 |i+1,x::y=>by
  show 0*x+qJ5 (zR5 i) y=zI y i
  rw[Int.zero_mul,Int.zero_add,qS8 i y]
theorem xH2:∀(N:List Nat) (i:Nat),zI (wS9 N) i=(zN N i:Nat)
 |[],J=>rfl
 |x::J,0=>rfl
 |J::r,k+1=>xH2 r k
theorem wM3:∀(a:List Int) (N:List Nat),zA5 a=false->0<=qJ5 a (wS9 N)
 |[],N,J=>Int.le_refl 0
 |x::a,[],J=>Int.le_refl 0
 |x::a,n::N,h=>by
  have h':(match decide (0<=x) with|true=>zA5 a|false=>true)=false:=h
  cases e:decide (0<=x) with
  |false=>rw[e]at h';exact Bool.noConfusion h'
  |true=>
   rw[e]at h'
   exact Int.add_nonneg (Int.mul_nonneg (of_decide_eq_true e) (Int.natCast_nonneg n)) (wM3 a N h')
theorem qR3:∀(a y:List Int),wL5 a=false->qJ5 a y=0
 |[],y,J=>rfl
 |x::a,[],J=>rfl
 |x::a,n::y,h=>by
  have h':(match decide (x=0) with|true=>wL5 a|false=>true)=false:=h
  cases e:decide (x=0) with
  |false=>rw[e]at h';exact Bool.noConfusion h'
  |true=>
   rw[e]at h'
   show x*n+qJ5 a y=0
   rw[of_decide_eq_true e,Int.zero_mul,qR3 a y h']
   rfl
theorem NT.ok (N:List Nat):∀ t:NT,qJ5 t.nf (1::wS9 N)=(t.den N:Nat)
 |.c x=>by
  show (x:Int)*1+0=_
  rw[Int.mul_one,Int.add_zero]
  rfl
 |.v i=>(qS8 (i+1) _).trans (xH2 N i)
 |.a u t=>by
  show qJ5 (qE7 u.nf t.nf) _=((u.den N+t.den N:Nat):Int)
  rw[qJ4,NT.ok N u,NT.ok N t,Int.natCast_add]
 |.m k u=>by
  show qJ5 (qD8 k u.nf) _=((k*u.den N:Nat):Int)
  rw[qJ6,NT.ok N u,Int.natCast_mul]
theorem xO4 (a b y:List Int):qJ5 (qE7 a (qD8 (-1) b)) y=qJ5 a y-qJ5 b y:=by
 rw[qJ4,qJ6,Int.neg_one_mul]
 rfl
theorem IT.ok (N:List Nat) (I:List Int):∀ t:IT,qJ5 t.nfN (1::wS9 N)+qJ5 t.nfI I=t.den N I
 |.c x=>by
  show x*1+0+0=x
  rw[Int.mul_one,Int.add_zero,Int.add_zero]
 |.v i=>(Int.zero_add _).trans (qS8 i I)
 |.n t=>(Int.add_zero _).trans (NT.ok N t)
 |.a u t=>by
  show qJ5 (qE7 u.nfN t.nfN) _+qJ5 (qE7 u.nfI t.nfI) _=u.den N I+t.den N I
  rw[<-IT.ok N I u,<-IT.ok N I t,qJ4,qJ4]
  exact zC2 ..
 |.s u t=>by
  show qJ5 (qE7 u.nfN (qD8 (-1) t.nfN)) _+qJ5 (qE7 u.nfI (qD8 (-1) t.nfI)) _=u.den N I-t.den N I
  rw[<-IT.ok N I u,<-IT.ok N I t,xO4,xO4]
  exact (vsw ..).symm
 |.g t=>by
  show qJ5 (qD8 (-1) t.nfN) _+qJ5 (qD8 (-1) t.nfI) _ = -(t.den N I)
  rw[<-IT.ok N I t,qJ6,qJ6,<-Int.mul_add,Int.neg_one_mul]
theorem zU2 (a b:Nat):a<=a-b+b:=Nat.le_add_of_sub_le (Nat.le_refl _)
theorem LC.ok (N:List Nat) (I:List Int) (c:LC) (h:c.den N I):qJ5 c.nfN (1::wS9 N)+qJ5 c.nfI I<=0:=by
 cases c with
 |nl s t=>
  show qJ5 (qE7 s.nf (qD8 (-1) t.nf)) _+0<=0
  rw[xO4,NT.ok,NT.ok,Int.add_zero]
  exact Int.sub_nonpos_of_le (Int.ofNat_le.mpr h)
 |il s t=>
  show qJ5 (qE7 s.nfN (qD8 (-1) t.nfN)) _+qJ5 (qE7 s.nfI (qD8 (-1) t.nfI)) _<=0
  have h3:s.den N I<=t.den N I:=h
  rw[xO4,xO4,<-vsw,IT.ok N I s,IT.ok N I t]
  exact Int.sub_nonpos_of_le h3
theorem xM9 (N:List Nat) (I:List Int):∀(cs:List (Nat×LC)) (a b:List Int),yV9 cs a b=true->qJ5 a (1::wS9 N)+qJ5 b I<=0->yC4 N I cs
 |[],a,b,h,h'=>by
  have g:(match (generalizing:=false) a with|[]=>false|k::a=>match decide (0<k),zA5 a,wL5 b with|true,false,false=>true|J,J2,J3=>false)=true:=h
  cases a with
  |nil=>exact Bool.noConfusion g
  |cons k a=>
   cases e1:decide (0<k)<;>cases e2:zA5 a<;>cases e3:wL5 b<;>simp only[e1,e2,e3]at g<;>first|exact Bool.noConfusion g|skip
   have z1:=wM3 a N e2
   have z2:=qR3 b I e3
   have z3:k*1+qJ5 a (wS9 N)+qJ5 b I<=0:=h'
   rw[z2,Int.add_zero,Int.mul_one]at z3
   exact absurd (Int.lt_of_lt_of_le (of_decide_eq_true e1) (Int.le_add_of_nonneg_right z1)) (Int.not_lt.mpr z3)
 |(k,c)::r,a,b,h,h'=>fun hc=>xM9 N I r _ _ h (by
   have z:=LC.ok N I c hc
   have z2:(k:Int)*(qJ5 c.nfN (1::wS9 N)+qJ5 c.nfI I)<=0:=Int.mul_nonpos_of_nonneg_of_nonpos (Int.natCast_nonneg k) z
   rw[qJ4,qJ4,qJ6,qJ6,zC2,<-Int.mul_add]
   exact Int.add_nonpos h' z2)
theorem lin (N:List Nat) (I:List Int) (cs:List (Nat×LC)) (h:yV9 cs [] []=true):yC4 N I cs:=xM9 N I cs [] [] h (Int.le_refl 0)
noncomputable def LC.deq (N:List Nat) (I:List Int):LC->Prop
 |.nl s t=>s.den N=t.den N
 |.il s t=>s.den N I=t.den N I
noncomputable def yF7 (N:List Nat) (I:List Int) (g:LC):List (Int×LC)->Prop
 |[]=>g.deq N I
 |(J,c)::r=>c.deq N I->yF7 N I g r
noncomputable def yF1:List (Int×LC)->List Int->List Int->Bool
 |[],a,b=>match wL5 a,wL5 b with|false,false=>true|J,J2=>false
 |(k,c)::r,a,b=>yF1 r (qE7 a (qD8 k c.nfN)) (qE7 b (qD8 k c.nfI))
theorem LC.iff (N:List Nat) (I:List Int) (c:LC):c.deq N I↔qJ5 c.nfN (1::wS9 N)+qJ5 c.nfI I=0:=by
 cases c with
 |nl s t=>
  show s.den N=t.den N↔qJ5 (qE7 s.nf (qD8 (-1) t.nf)) _+0=0
  rw[xO4,NT.ok,NT.ok,Int.add_zero,Int.sub_eq_zero]
  exact Int.natCast_inj.symm
 |il s t=>
  show s.den N I=t.den N I↔qJ5 (qE7 s.nfN (qD8 (-1) t.nfN)) _+qJ5 (qE7 s.nfI (qD8 (-1) t.nfI)) _=0
  rw[xO4,xO4,<-IT.ok N I s,<-IT.ok N I t,<-Int.sub_eq_zero]
  exact iff_of_eq (congrArg (·=0) (vsw ..))
theorem xR2 (N:List Nat) (I:List Int) (g:LC):∀(cs:List (Int×LC)) (a b:List Int),yF1 cs a b=true->(qJ5 a (1::wS9 N)+qJ5 b I=0->g.deq N I)->yF7 N I g cs
 |[],a,b,h,h'=>by
  have e:(match wL5 a,wL5 b with|false,false=>true|J,J2=>false)=true:=h
  cases e2:wL5 a<;>cases e3:wL5 b<;>rw[e2,e3]at e<;>first|exact Bool.noConfusion e|skip
  exact h' (by rw[qR3 a _ e2,qR3 b _ e3];rfl)
 |(k,c)::r,a,b,h,h'=>fun hc=>xR2 N I g r _ _ h fun e=>h' (by
   rw[qJ4,qJ4,qJ6,qJ6,zC2,<-Int.mul_add,(LC.iff N I c).mp hc,Int.mul_zero,Int.add_zero]at e
   exact e)
theorem leq (N:List Nat) (I:List Int) (g:LC) (cs:List (Int×LC)) (h:yF1 cs g.nfN g.nfI=true):yF7 N I g cs:=xR2 N I g cs _ _ h (LC.iff N I g).mpr
end Mine
end
section
namespace Mine
set_option genInjectivity false
set_option genSizeOf false
open PySem PySem.W PySem.Calls PyProof.Rows
noncomputable def tbl:List String:=[
 "AS_BEFORE", "Buffer", "DIGITS", "DIRECTORY", "Ended", "Entry", "Exception", "FileTree", "GapText", "LINK", "LispSignal", "MOST_LINKS", "Manner", "Markers","NEVER", "NEWLINE", "Opaque", "PLAIN", "SINGLE", "Visit", "__init__", "__name__", "_law_deed", "_law_draw", "_law_edit", "_law_recovered", "_law_reverted_point","_law_save", "_law_saved", "_law_text", "_wall", "above", "abs", "advances", "after_change", "append", "are_codes", "as_directory", "as_file", "at", "auto_save","auto_save_name", "auto_tick", "backup_name", "backup_number", "backup_plan", "backups", "base", "before_change", "before_markers", "begin", "begv", "buffer","cell", "cells", "clock", "code", "code_at", "codes", "codes_ticks", "content", "copy", "data", "deck", "deed", "delete", "deleted", "directory", "directory_part","drop", "drop_auto", "due", "end", "end_line", "entries", "entry", "erase", "every", "expanded", "extra", "figures", "file", "fill", "find", "first_link","flag", "follow", "found", "gap_end", "gap_start", "get", "gone", "goto", "has_unsaved", "head", "high", "home", "hung_in", "hung_out", "insert", "insert_at","inserted", "is_backed_up", "is_before", "is_copying", "is_current", "is_directory", "is_forced", "is_live", "is_modified", "is_over", "is_plain", "is_point_behind","is_precious", "is_read_only", "is_so", "is_still", "is_there", "is_whole", "is_writable", "join", "joined", "k", "kept", "kind", "lack", "last", "last_part","law", "left", "len", "link_text", "list", "listed", "listener", "listeners", "locals", "low", "made", "make_backup", "make_directory", "make_link", "manner","many", "mark", "marker", "markers", "max", "may_write", "min", "most", "move_gap", "moved", "name", "narrow_gap", "need_directory", "need_plain", "need_room","need_visit", "need_writable", "new", "newest", "note_visit", "number", "numbered_name", "numbers", "numbers_there", "old", "old_length", "oldest", "other","overlays", "own", "parent_of", "parent_true", "place", "point", "pop", "position", "props", "put", "put_in", "put_text", "range", "reached", "read", "record","recover", "remove_directory", "rename", "replaced", "revert", "rfind", "room", "rows", "same_as", "save", "saved_ticks", "script", "self", "set_modified","set_writable", "shift", "shown", "sign", "size", "sort", "sorted", "spare", "spare_name", "split", "stamp", "start", "step", "steps_of", "str", "symbol","syntax", "tail", "target", "tell_ahead", "tell_behind", "text", "text_came", "text_comes", "text_goes", "text_gone", "text_in", "text_out", "there", "tick","ticks", "told_here", "touch", "tree", "true_name", "turn", "turn_here", "undo", "visit", "wanted", "wants", "wants_newline", "way", "whole", "whole_text","widen_gap", "with_home", "with_text", "within", "write", "write_auto", "write_file", "write_precious", "zv"]
theorem nf {P:Prop} (h:false=true):P:=Bool.noConfusion h
theorem nt {P:Prop} (h:true=false):P:=Bool.noConfusion h
noncomputable def xF0:List String->Nat->Option String:=@fun ξ ξ2=>match @ξ,@ξ2 with
 |[],J=>none
 |x::J,0=>some x
 |J::l,n+1=>xF0 l n
noncomputable def nm (i:Nat):Str:=match xF0 tbl i with|some x=>Str.ofString x|none=>⟨#[1000000+i]⟩
inductive AV where
 |none|bool (b:Bool)|int (i:Int)|str (s:List Nat)|obj (k:Nat)
noncomputable def AV.ctorIdx (v:AV):Nat:=AV.casesOn v 0 (fun J=>1) (fun J=>2) (fun J=>3) (fun J=>4)
inductive AO where
 |dead
 |inst (c:Nat) (fs:List (Nat×AV))
 |il (xs:List Int)
 |vl (xs:List AV)
 |tp (xs:List AV)
 |sd (es:List (List Nat×AV))
 |fd (es:List (List Nat×AV))
 |gp (xs:List Int)
 |fl (xs:List Int)
noncomputable def AO.ctorIdx (v:AO):Nat:=AO.casesOn v 0 (fun J J=>1) (fun J=>2) (fun J=>3) (fun J=>4) (fun J=>5) (fun J=>6) (fun J=>7) (fun J=>8)
noncomputable abbrev AH:=List AO
noncomputable abbrev Loc:=List (Nat×AV)
noncomputable abbrev FP:=List (List Addr)
noncomputable def qQ0:AH->Nat->AO:=@fun ξ ξ2=>match @ξ,@ξ2 with
 |[],J=>.dead
 |o::J,0=>o
 |J::r,k+1=>qQ0 r k
noncomputable def qX7:AH->Nat->AO->AH:=@fun ξ ξ2 ξ3=>match @ξ,@ξ2,@ξ3 with
 |[],J,J2=>[]
 |J::r,0,o'=>o'::r
 |o::r,k+1,o'=>o::qX7 r k o'
noncomputable def lk:Loc->Nat->Option AV:=@fun ξ ξ2=>match @ξ,@ξ2 with
 |[],J=>.none
 |(y,v)::r,x=>match Nat.beq y x with|true=>some v|false=>lk r x
noncomputable def st:Loc->Nat->AV->Loc:=@fun ξ=>no_implicit_lambda%(match @ξ with
 |[]=>@fun x v=>[(x,v)]
 |(y,u)::r=>@fun x v=>match Nat.beq y x with|true=>(y,v)::r|false=>(y,u)::st r x v
 )
noncomputable def eqL:List Nat->List Nat->Bool:=@fun ξ ξ2=>match @ξ,@ξ2 with
 |[],[]=>true
 |a::x,b::y=>match Nat.beq a b with|true=>eqL x y|false=>false
 |J,J2=>false
noncomputable def lkS:List (List Nat×AV)->List Nat->Option AV:=@fun ξ ξ2=>match @ξ,@ξ2 with
 |[],J=>.none
 |(y,v)::r,x=>match eqL y x with|true=>some v|false=>lkS r x
noncomputable def stS:List (List Nat×AV)->List Nat->AV->List (List Nat×AV):=@fun ξ=>no_implicit_lambda%(match @ξ with
 |[]=>@fun x v=>[(x,v)]
 |(y,u)::r=>@fun x v=>match eqL y x with|true=>(y,v)::r|false=>(y,u)::stS r x v
 )
theorem yO6 (a b:Nat):Nat.beq a b=decide (a=b):=BT.beq_eq a b
theorem qJ7:∀{x y:List Nat},eqL x y=true↔x=y:=@fun ξ ξ2=>match @ξ,@ξ2 with
 |[],[]=>⟨fun J=>rfl,fun J=>rfl⟩
 |[],J::J2=>⟨fun h=>nf h,fun h=>by injection h⟩
 |J::J2,[]=>⟨fun h=>nf h,fun h=>by injection h⟩
 |a::x,b::y=>by
  show (match Nat.beq a b with|true=>eqL x y|false=>false)=true↔_
  cases e:Nat.beq a b with
  |false=>exact ⟨fun h=>nf h,fun h=>by rw[(List.cons.inj h).1,Nat.beq_refl]at e;exact nt e⟩
  |true=>exact ⟨fun h=>by rw[Nat.eq_of_beq_eq_true e,qJ7.mp h],fun h=>qJ7.mpr (List.cons.inj h).2⟩
theorem qY9 {x y:List Nat} (h:x≠y):eqL x y=false:=by
 cases e:eqL x y with
 |false=>rfl
 |true=>exact absurd (qJ7.mp e) h
theorem yE1 (y:List Nat) (v:AV) (r:List (List Nat×AV)):lkS ((y,v)::r) y=some v:=by
 show (match eqL y y with|true=>some v|false=>lkS r y)=_
 rw[qJ7.mpr rfl]
theorem zH4 {y x:List Nat} (q:y≠x) (v:AV) (r:List (List Nat×AV)):lkS ((y,v)::r) x=lkS r x:=by
 show (match eqL y x with|true=>some v|false=>lkS r x)=_
 rw[qY9 q]
theorem yW0 (y:List Nat) (u v:AV) (r:List (List Nat×AV)):stS ((y,u)::r) y v=(y,v)::r:=by
 show (match eqL y y with|true=>(y,v)::r|false=>(y,u)::stS r y v)=_
 rw[qJ7.mpr rfl]
theorem xR0 {y x:List Nat} (q:y≠x) (u v:AV) (r:List (List Nat×AV)):stS ((y,u)::r) x v=(y,u)::stS r x v:=by
 show (match eqL y x with|true=>(y,v)::r|false=>(y,u)::stS r x v)=_
 rw[qY9 q]
theorem wR1 (x:List Nat) (v:AV):∀ r:List (List Nat×AV),(stS r x v).length<=r.length+1
 |[]=>Nat.le_refl 1
 |(y,u)::r=>by
  by_cases q:y=x
  ·subst q;rw[yW0];exact Nat.le_succ _
  ·rw[xR0 q];exact Nat.succ_le_succ (wR1 x v r)
theorem qW7:∀{H:AH} {k:Nat} {o:AO},qQ0 H k=o->o≠.dead->H[k]?=some o:=@fun ξ ξ2=>no_implicit_lambda%(match @ξ,@ξ2 with
 |[],J=>@fun J2 e n=>absurd e.symm n
 |J::J2,0=>@fun J3 e J4=>congrArg some e
 |J::r,k+1=>@fun J2 e n=>qW7 (H:=r) (k:=k) e n
 )
theorem qX2:∀(H:AH) (k:Nat) (o:AO),qX7 H k o=H.set k o:=@fun ξ ξ2 ξ3=>match @ξ,@ξ2,@ξ3 with
 |[],J,J2=>rfl
 |J::J2,0,J3=>rfl
 |a::r,k+1,o=>congrArg (a::·) (qX2 r k o)
theorem yK2 {a b:Nat} (e:Nat.beq a b=false):¬b=a:=fun h=>by subst h;rw[Nat.beq_refl]at e;exact nt e
theorem qA5:∀(l:Loc) (x y:Nat) (v:AV),lk (st l x v) y=if y=x then some v else lk l y:=@fun ξ=>no_implicit_lambda%(match @ξ with
 |[]=>@fun x y v=>by
  show (match Nat.beq x y with|true=>some v|false=>none)=if y=x then some v else none
  cases e:Nat.beq x y with
  |true=>rw[if_pos (Nat.eq_of_beq_eq_true e).symm]
  |false=>rw[if_neg (yK2 e)]
 |(z,u)::r=>@fun x y v=>by
  show lk (match Nat.beq z x with|true=>(z,v)::r|false=>(z,u)::st r x v) y=if y=x then some v else match Nat.beq z y with|true=>some u|false=>lk r y
  cases e:Nat.beq z x with
  |true=>
   obtain rfl:=Nat.eq_of_beq_eq_true e
   show (match Nat.beq z y with|true=>some v|false=>lk r y)=_
   cases g:Nat.beq z y with
   |true=>rw[if_pos (Nat.eq_of_beq_eq_true g).symm]
   |false=>rw[if_neg (yK2 g)]
  |false=>
   show (match Nat.beq z y with|true=>some u|false=>lk (st r x v) y)=_
   rw[qA5 r x y v]
   cases g:Nat.beq z y with
   |true=>
    obtain rfl:=Nat.eq_of_beq_eq_true g
    exact (if_neg fun q=>yK2 e q.symm).symm
   |false=>rfl
 )
noncomputable def isD:AO->Bool
 |.dead=>true
 |J=>false
theorem qQ6 {o:AO} (h:isD o=false):o≠.dead:=fun e=>by rw[e]at h;exact nt h
theorem nn {α:Type} {P:Prop} {x:α} (h:none=some x):P:=by cases h
theorem yU9 {a b:Nat} (h:a≠b):Nat.beq a b=false:=by
 cases e:Nat.beq a b with
 |false=>rfl
 |true=>exact absurd (Nat.eq_of_beq_eq_true e) h
theorem qC5 {P:Prop} {y x:Nat} {v u:AV} {r:Loc} (h:lk ((y,v)::r) x=some u) (q1:y=x->v=u->P) (q2:y≠x->lk r x=some u->P):P:=by
 have h':(match Nat.beq y x with|true=>some v|false=>lk r x)=some u:=h
 cases e:Nat.beq y x with
 |true=>rw[e]at h';exact q1 (Nat.eq_of_beq_eq_true e) (Option.some.inj h')
 |false=>rw[e]at h';exact q2 (Nat.ne_of_beq_eq_false e) h'
theorem xD2 {P:Prop} {y x:Nat} {v:AV} {r:Loc} (h:(lk ((y,v)::r) x).isSome=true) (q1:y=x->P) (q2:(lk r x).isSome=true->P):P:=by
 obtain ⟨u,hu⟩:=Option.isSome_iff_exists.mp h
 exact qC5 hu (fun e J=>q1 e) fun J h=>q2 (by rw[h];rfl)
theorem yM5 (y:Nat) (v:AV) (r:Loc):lk ((y,v)::r) y=some v:=by
 show (match Nat.beq y y with|true=>some v|false=>lk r y)=_
 rw[Nat.beq_refl]
theorem zB7 {y x:Nat} (q:y≠x) (v:AV) (r:Loc):lk ((y,v)::r) x=lk r x:=by
 show (match Nat.beq y x with|true=>some v|false=>lk r x)=_
 rw[yU9 q]
theorem if0 {i:Int} (h:0<=i):(if 0<i then i else 0)=i:=by
 by_cases g:0<i
 ·rw[if_pos g]
 ·rw[if_neg g];exact Int.le_antisymm h (Int.not_lt.mp g)
theorem qT8:∀{l:List String} {i:Nat} {x:String},xF0 l i=some x->x∈l:=@fun ξ ξ2=>no_implicit_lambda%(match @ξ,@ξ2 with
 |[],J=>@fun J2 e=>by injection e
 |y::l,0=>@fun x e=>by obtain rfl:=Option.some.inj e;exact .head _
 |y::l,i+1=>@fun x e=>.tail _ (qT8 (l:=l) e)
 )
theorem xQ3:∀{l:List String} {i j:Nat} {x y:String},(l.map Str.ofString).Nodup->xF0 l i=some x->xF0 l j=some y->Str.ofString x=Str.ofString y->i=j:=@fun ξ ξ2 ξ3=>no_implicit_lambda%(match @ξ,@ξ2,@ξ3 with
 |[],J,J2=>@fun J3 J4 J5 e J6 J7=>by injection e
 |z::l,0,0=>@fun J J2 J3 J4 J5 J6=>rfl
 |z::l,0,j+1=>@fun x y nd e e' h=>by
  obtain rfl:=Option.some.inj e
  exact absurd (h▸List.mem_map_of_mem (qT8 (l:=l) e')) (List.nodup_cons.mp nd).1
 |z::l,i+1,0=>@fun x y nd e e' h=>by
  obtain rfl:=Option.some.inj e'
  exact absurd (h▸List.mem_map_of_mem (qT8 (l:=l) e)) (List.nodup_cons.mp nd).1
 |z::l,i+1,j+1=>@fun x y nd e e' h=>congrArg (·+1) (xQ3 (List.nodup_cons.mp nd).2 e e' h)
 )
noncomputable def qH0:List Nat->Bool:=@fun ξ=>match @ξ with
 |[]=>true
 |x::l=>l.all (fun y=>!Nat.beq x y)&&qH0 l
theorem qC7:∀{l:List Nat},qH0 l=true->l.Nodup:=@fun ξ ξ2=>match @ξ,@ξ2 with
 |[],J=>.nil
 |x::l,h=>by
  obtain ⟨h1,h2⟩:=Bool.and_eq_true_iff.mp h
  refine List.nodup_cons.mpr ⟨fun hm=>?_,qC7 h2⟩
  have:=List.all_eq_true.mp h1 x hm
  simp[yO6]at this
noncomputable def zC8 (s:Str):Nat:=s.cps.toList.foldl (fun a c=>a*1000+c+1) 0
theorem xD8:qH0 ((tbl.map Str.ofString).map zC8)=true:=by decide +kernel
theorem xJ3:(tbl.map Str.ofString).Nodup:=by
 have h:=qC7 xD8
 exact List.Pairwise.of_map zC8 (fun a b q e=>q (e▸rfl)) h
theorem zJ6:tbl.all (fun x=>(Str.ofString x).cps.toList.all (· < 1000))=true:=by decide +kernel
theorem xR3 {i k:Nat} {x:String} (e:xF0 tbl i=some x):Str.ofString x≠⟨#[1000000+k]⟩:=by
 intro h
 have:=List.all_eq_true.mp zJ6 x (qT8 e)
 rw[h]at this
 simp at this
 omega
theorem qK6 {i j:Nat} (h:nm i=nm j):i=j:=by
 unfold nm at h
 cases e:xF0 tbl i with
 |some x=>
  cases e':xF0 tbl j with
  |some y=>rw[e,e']at h;exact xQ3 xJ3 e e' h
  |none=>rw[e,e']at h;exact absurd h (xR3 e)
 |none=>
  cases e':xF0 tbl j with
  |some y=>rw[e,e']at h;exact absurd h.symm (xR3 e')
  |none=>rw[e,e']at h;simpa using h
end Mine
end
namespace Mine
open PySem PySem.W PySem.Calls PyProof.Rows
noncomputable def jJ2:List Nat:=[38,220,295,477,547,688,720,921]
noncomputable def qH5 (c:Nat):Addr:=jJ2.getD c 0
noncomputable def qQ1 (φ:FP):AV->Value->Prop
 |.none,v=>v=.none
 |.bool b,v=>v=.bool b
 |.int i,v=>∃ t,v=.int i t
 |.str x,v=>∃ t,v=.str ⟨x.toArray⟩ t
 |.obj k,v=>∃ a l,φ[k]?=some (a::l)/\v=.ref a
noncomputable def Ext (φ φ':FP):Prop:=∀(k:Nat) (f:List Addr),φ[k]?=some f->∃ g,φ'[k]?=some (f++g)
theorem Ext.refl (φ:FP):Ext φ φ:=fun J f e=>⟨[],by rw[List.append_nil];exact e⟩
theorem Ext.trans {φ φ' φ'':FP} (x:Ext φ φ') (y:Ext φ' φ''):Ext φ φ'':=fun k f e=>let ⟨g,e'⟩:=x k f e;let ⟨g',e''⟩:=y k _ e';⟨g++g',by rw[<-List.append_assoc];exact e''⟩
theorem Ext.app (φ:FP) (f:List Addr):Ext φ (φ++[f]):=fun k f e=>⟨[],by
 rw[List.append_nil,List.getElem?_append_left (List.getElem?_eq_some_iff.mp e).1];exact e⟩
theorem Ext.flat {φ φ':FP} (x:Ext φ φ') {a:Addr} (h:a∈φ.flatten):a∈φ'.flatten:=by
 obtain ⟨f,hf,ha⟩:=List.mem_flatten.mp h
 obtain ⟨k,hk⟩:=List.getElem?_of_mem hf
 obtain ⟨g,e⟩:=x k f hk
 exact List.mem_flatten.mpr ⟨f++g,List.mem_of_getElem? e,List.mem_append_left _ ha⟩
theorem qQ1.mono {φ φ':FP} (x:Ext φ φ') {a:AV} {v:Value} (h:qQ1 φ a v):qQ1 φ' a v:=by
 cases a with
 |obj k=>obtain ⟨b,l,e,rfl⟩:=h;obtain ⟨g,e'⟩:=x k _ e;exact ⟨b,l++g,e',rfl⟩
 |_=>exact h
noncomputable def qQ4 (φ:FP):List AV->List Value->Prop
 |[],vs=>vs=[]
 |a::as,vs=>∃ v r,vs=v::r/\qQ1 φ a v/\qQ4 φ as r
theorem qQ4.mono {φ φ':FP} (x:Ext φ φ'):∀{as:List AV} {vs:List Value},qQ4 φ as vs->qQ4 φ' as vs:=@fun ξ ξ2 ξ3=>match @ξ,@ξ2,@ξ3 with
 |[],J,h=>h
 |J::J2,J3,⟨v,r,e,h1,h2⟩=>⟨v,r,e,h1.mono x,qQ4.mono x h2⟩
structure wH4 (φ:FP) (m:Str->Option Value) (fs:Loc):Prop where
 val:∀ a av,lk fs a=some av->∃ v,m (nm a)=some v/\qQ1 φ av v
 only:∀ x,(m x).isSome=true->∃ a,(lk fs a).isSome=true/\x=nm a
theorem wH4.mono {φ φ':FP} (x:Ext φ φ') {m:Str->Option Value} {fs:Loc} (h:wH4 φ m fs):wH4 φ' m fs:=
 ⟨fun a av e=>let ⟨v,e1,e2⟩:=h.val a av e;⟨v,e1,e2.mono x⟩,h.only⟩
theorem wH4.nil {φ:FP}:wH4 φ (fun J=>none) []:=⟨fun J J e=>(nomatch e),fun J e=>(nomatch e)⟩
theorem wH4.st {φ:FP} {m:Str->Option Value} {fs:Loc} (h:wH4 φ m fs) {a:Nat} {av:AV} {v:Value} (hv:qQ1 φ av v):wH4 φ (fun y=>if y=nm a then some v else m y) (Mine.st fs a av):=by
 refine ⟨fun b bv e=>?_,fun x e=>?_⟩
 ·rw[qA5]at e
  by_cases q:b=a
  ·subst q
   rw[if_pos rfl]at e
   obtain rfl:=Option.some.inj e
   exact ⟨v,if_pos rfl,hv⟩
  ·rw[if_neg q]at e
   obtain ⟨u,e1,e2⟩:=h.val b bv e
   exact ⟨u,by rw[if_neg fun z=>q (qK6 z)];exact e1,e2⟩
 ·by_cases q:x=nm a
  ·exact ⟨a,by rw[qA5,if_pos rfl];rfl,q⟩
  ·simp only[if_neg q]at e
   obtain ⟨b,e1,e2⟩:=h.only x e
   refine ⟨b,?_,e2⟩
   rw[qA5]
   split
   ·rfl
   ·exact e1
noncomputable def wK5 (P:Params) (φ:FP):List (List Nat×AV)->List DictEntry->Prop
 |[],es=>es=[]
 |(k,av)::l,es=>∃ t v r,es=⟨PyData.keyHash P ⟨k.toArray⟩,.str ⟨k.toArray⟩ t,v⟩::r/\qQ1 φ av v/\wK5 P φ l r
theorem wK5.mono {P:Params} {φ φ':FP} (x:Ext φ φ'):∀{l:List (List Nat×AV)} {es:List DictEntry},wK5 P φ l es->wK5 P φ' l es:=@fun ξ ξ2 ξ3=>match @ξ,@ξ2,@ξ3 with
 |[],J,h=>h
 |(J,J2)::J3,J4,⟨t,v,r,e,h1,h2⟩=>⟨t,v,r,e,h1.mono x,wK5.mono x h2⟩
noncomputable abbrev wX2 (its:Array Value) (n:Nat):Obj:={cls:=.type "list", data:=.seq its n}
noncomputable abbrev yY7 (its:Array Value) (n:Nat):Obj:={cls:=.type "tuple", data:=.seq its n}
noncomputable abbrev yP8 (es:Array DictEntry) (n:Nat):Obj:={cls:=.type "dict", data:=.dict es n}
noncomputable abbrev xM6 (C d:Addr):Obj:={cls:=.ref C,dict:=some d}
inductive yA2 (h:Heap) (φ:FP) (c:Nat) (fs:Loc) (f:List Addr):Prop
 |mk (x d:Addr) (m:Str->Option Value) (e:f=[x,d]) (h1:h.get? x=some (xM6 (qH5 c) d)) (h2:h.Ns1 d m) (h3:wH4 φ m fs)
inductive IlC (h:Heap) (xs:List Int) (f:List Addr):Prop
 |mk (x:Addr) (its:Array Value) (n:Nat) (e:f=[x]) (h1:h.get? x=some (wX2 its n)) (h2:IntsAre its.toList xs) (h3:xs.length<=10000)
inductive VlC (h:Heap) (φ:FP) (xs:List AV) (f:List Addr):Prop
 |mk (x:Addr) (its:Array Value) (n:Nat) (e:f=[x]) (h1:h.get? x=some (wX2 its n)) (h2:qQ4 φ xs its.toList) (h3:xs.length<=10000)
inductive SdC (P:Params) (h:Heap) (φ:FP) (es:List (List Nat×AV)) (f:List Addr):Prop
 |mk (x:Addr) (ents:Array DictEntry) (n:Nat) (e:f=[x]) (h1:h.get? x=some (yP8 ents n)) (h2:wK5 P φ es ents.toList) (h3:(es.map (·.1)).Nodup) (h4:es.length<=100)
inductive GpC (h:Heap) (xs:List Int) (f:List Addr):Prop
 |mk (x d:Addr) (m:Str->Option Value) (c:Addr) (its:Array Value) (n:Nat) (cells:List Int) (gs ge:Nat) (tr t1 t2:Tok) (e:f=[x,d,c]) (h1:h.get? x=some (xM6 (qH5 3) d)) (h2:h.Ns1 d m)
  (h3:∀ y,m y=if y=Str.ofString "room" then some (.int 8 tr) else if y=Str.ofString "cells" then some (.ref c) else if y=Str.ofString "gap_start" then some (.int (gs:Nat) t1) else if y=Str.ofString "gap_end" then some (.int (ge:Nat) t2) else none)
  (h4:h.get? c=some (wX2 its n)) (h5:IntsAre its.toList cells) (h6:gs<=ge) (h7:ge<=cells.length) (h8:xs=cells.take gs++cells.drop ge) (h9:cells.length<=2000) (h10:xs.length<=1000)
noncomputable def Cov (P:Params) (h:Heap) (φ:FP):AO->List Addr->Prop
 |.dead,J=>True
 |.inst c fs,f=>yA2 h φ c fs f
 |.il xs,f=>IlC h xs f
 |.fl xs,f=>∃ x its,f=[x]/\h.IsList x its/\IntsAre its.toList xs/\xs.length<=10000
 |.vl xs,f=>VlC h φ xs f
 |.tp xs,f=>∃ x its n,f=[x]/\h.get? x=some (yY7 its n)/\qQ4 φ xs its.toList
 |.sd es,f=>SdC P h φ es f
 |.fd es,f=>SdC P h φ es f
 |.gp xs,f=>GpC h xs f
theorem Ns1.move {h h':Heap} {a:Addr} {m:Str->Option Value} (x:h.Ns1 a m) (k:∀ o,h.get? a=some o->h'.get? a=some o):h'.Ns1 a m:=x.at k
theorem Cov.move {P:Params} {h h':Heap} {φ φ':FP} (x:Ext φ φ') {o:AO} {f:List Addr} (k:∀ a∈f,∀ ob,h.get? a=some ob->h'.get? a=some ob) (c:Cov P h φ o f):Cov P h' φ' o f:=by
 cases o with
 |dead=>trivial
 |inst cl fs=>
  obtain ⟨a,d,m,rfl,h1,h2,h3⟩:=c
  exact ⟨a,d,m,rfl,k a (by first|exact qQ6 rfl|exact .head _|simp) _ h1,h2.at (k d (by first|exact qQ6 rfl|exact .head _|simp)),h3.mono x⟩
 |il xs=>
  obtain ⟨a,its,n,rfl,h1,h2,h3⟩:=c
  exact ⟨a,its,n,rfl,k a (by first|exact qQ6 rfl|exact .head _|simp) _ h1,h2,h3⟩
 |fl xs=>
  obtain ⟨a,its,rfl,⟨o,h1,h3⟩,h2⟩:=c
  exact ⟨a,its,rfl,⟨o,k a (by first|exact qQ6 rfl|exact .head _|simp) _ h1,h3⟩,h2⟩
 |vl xs=>
  obtain ⟨a,its,n,rfl,h1,h2,h3⟩:=c
  exact ⟨a,its,n,rfl,k a (by first|exact qQ6 rfl|exact .head _|simp) _ h1,h2.mono x,h3⟩
 |tp xs=>
  obtain ⟨a,its,n,rfl,h1,h2⟩:=c
  exact ⟨a,its,n,rfl,k a (by first|exact qQ6 rfl|exact .head _|simp) _ h1,h2.mono x⟩
 |sd es=>
  obtain ⟨a,its,n,rfl,h1,h2,h3,h4⟩:=c
  exact ⟨a,its,n,rfl,k a (by first|exact qQ6 rfl|exact .head _|simp) _ h1,h2.mono x,h3,h4⟩
 |fd es=>
  obtain ⟨a,its,n,rfl,h1,h2,h3,h4⟩:=c
  exact ⟨a,its,n,rfl,k a (by first|exact qQ6 rfl|exact .head _|simp) _ h1,h2.mono x,h3,h4⟩
 |gp xs=>
  obtain ⟨a,d,m,c,its,n,cells,gs,ge,tr,t1,t2,rfl,h1,h2,h3,h4,h5,h6,h7,h8,h9,h10⟩:=c
  exact ⟨a,d,m,c,its,n,cells,gs,ge,tr,t1,t2,rfl,k a (by first|exact qQ6 rfl|exact .head _|simp) _ h1,h2.at (k d (by first|exact qQ6 rfl|exact .head _|simp)),h3,k c (by first|exact qQ6 rfl|exact .head _|simp) _ h4,h5,h6,h7,h8,h9,h10⟩
theorem qE4:∀{H:AH} {k:Nat} {o:AO},H[k]?=some o->qQ0 H k=o:=@fun ξ ξ2=>no_implicit_lambda%(match @ξ,@ξ2 with
 |[],J=>@fun J2 e=>by simp at e
 |J::J2,0=>@fun J3 e=>Option.some.inj e
 |J::r,k+1=>@fun o e=>qE4 (H:=r) (k:=k) e
 )
structure Rel (P:Params) (b:Heap) (φ:FP) (H:AH) (h:Heap):Prop where
 stays:∀ a o,b.get? a=some o->h.get? a=some o
 len:φ.length=H.length
 cov:∀(k:Nat) (o:AO) (f:List Addr),H[k]?=some o->φ[k]?=some f->Cov P h φ o f
 nd:φ.flatten.Nodup
 fresh:∀ a∈φ.flatten,b.get? a=none/\∃ o,h.get? a=some o
noncomputable def frz:AO->Bool
 |.fd J=>true
 |.fl J=>true
 |J=>false
theorem qY1 {o:AO} {q:{o:AO // frz o=true}} (h:o=q.1) (hn:frz o=false):False:=by
 have:=q.2
 rw[<-h,hn]at this
 exact nf this
structure Cx where
 w:World
 b:Heap
 L:Addr
 cells:List (Str×Addr)
 h₀:Heap
 φ₀:FP
 gens:Array GenState
 os:OsState
 frs:List Env
 fz:List (Addr×Obj)
noncomputable def qV3 (c:Cx) (φ:FP) (h:Heap) (m:Str->Option Value) (x:Nat) (av:AV):Prop:=
 match c.cells.lookup (nm x) with
 |none=>∃ v,m (nm x)=some v/\qQ1 φ av v
 |some a=>∃ o v,h.get? a=some o/\o.data=.cell (some v)/\qQ1 φ av v
noncomputable def xE2 (c:Cx) (φ:FP) (h:Heap) (lc:Loc):Prop:=∃ m,h.Ns c.L m/\∀ x av,lk lc x=some av->qV3 c φ h m x av
inductive xS5 (frs:List Env) (h:Heap) (a:Addr) (o:Obj):Prop
 |mk (sl:Array (Option Value)) (e1:h.get? a=some {o with slots:=sl}) (e2:(∀ env∈frs,env.frame≠some a)->sl=o.slots)
inductive yN9 (b:Heap) (φ:FP) (h:Heap) (env:Env):Prop
 |mk (k1:env.scope.kind≠.module) (L:Addr) (o:Obj) (k2:env.frame=some L) (k3:b.get? L=none) (k4:L∉φ.flatten) (k5:h.get? L=some o) (k6:∀ vs,o.data≠.fields vs)
inductive yI4 (φ:FP) (H:AH) (a:Addr):Prop
 |mk (k:Nat) (q:{o:AO // frz o=true}) (e1:H[k]?=some q.1) (e2:φ[k]?=some [a])
structure Now (c:Cx) (φ:FP) (H:AH) (lc:Loc) (s:Shared):Prop where
 rel:Rel c.w.params c.b φ H s.heap
 out:∀ a o,c.h₀.get? a=some o->a∉c.φ₀.flatten->a≠c.L->(∀ y,c.cells.lookup y≠some a)->xS5 c.frs s.heap a o
 own:∀ a∈φ.flatten,a∈c.φ₀.flatten∨c.h₀.get? a=none
 ext:Ext c.φ₀ φ
 frs:∀ env∈c.frs,yN9 c.b φ s.heap env
 loc:xE2 c φ s.heap lc
 lout:c.L∉φ.flatten
 cout:∀ x a,c.cells.lookup x=some a->a∉φ.flatten/\∃ o,s.heap.get? a=some o/\∃ vA,o.data=.cell vA
 gens:s.gens=c.gens
 os:s.os=c.os
 fz:∀ p∈c.fz,s.heap.get? p.1=some p.2
 fzh:∀ p∈c.fz,yI4 φ H p.1
theorem Now.tok {c:Cx} {φ:FP} {H:AH} {lc:Loc} {s s':Shared} (N:Now c φ H lc s) (hh:s'.heap=s.heap) (hg:s'.gens=s.gens) (ho:s'.os=s.os):Now c φ H lc s':=by
 obtain ⟨h,g,d,t,os⟩:=s
 obtain ⟨h',g',d',t',os'⟩:=s'
 dsimp only at hh hg ho
 subst hh hg ho
 exact ⟨N.rel,N.out,N.own,N.ext,N.frs,N.loc,N.lout,N.cout,N.gens,N.os,N.fz,N.fzh⟩
set_option tactic.hygienic true in
theorem xE2.keep {c:Cx} {h h':Heap} {φ φ':FP} {lc:Loc} (x:Ext φ φ') (k:∀ a o,(a=c.L∨∃ y,c.cells.lookup y=some a)->h.get? a=some o->h'.get? a=some o) (l:xE2 c φ h lc):xE2 c φ' h' lc:=by
 obtain ⟨m,⟨o,es,ep,e,r⟩,hv⟩:=l
 refine ⟨m,⟨o,es,ep,k _ o (.inl rfl) e,r⟩,fun y av q=>?_⟩
 have z:=hv y av q
 unfold qV3 at z ⊢
 split
 ·rename_i e'
  rw[e']at z
  obtain ⟨v,e1,e2⟩:=z
  exact ⟨v,e1,e2.mono x⟩
 ·rename_i a e'
  rw[e']at z
  obtain ⟨o,v,e1,e2,e3⟩:=z
  exact ⟨o,v,k a o (.inr ⟨_,e'⟩) e1,e2,e3.mono x⟩
theorem Now.live {c:Cx} {φ:FP} {H:AH} {lc:Loc} {s:Shared} (N:Now c φ H lc s) {a:Addr} (h:a∈φ.flatten):∃ o,s.heap.get? a=some o:=(N.rel.fresh a h).2
theorem Now.live0 {c:Cx} {φ:FP} {H:AH} {lc:Loc} {s:Shared} (N:Now c φ H lc s) {a:Addr} {o:Obj} (h:c.h₀.get? a=some o):∃ o',s.heap.get? a=some o':=by
 by_cases q:a∈c.φ₀.flatten
 ·exact N.live (N.ext.flat q)
 ·by_cases q2:a=c.L
  ·obtain ⟨m,⟨o',J,J,e,J⟩,J⟩:=N.loc
   exact ⟨o',q2▸e⟩
  ·by_cases q3:∃ y,c.cells.lookup y=some a
   ·obtain ⟨y,e⟩:=q3
    obtain ⟨J,o,h,J⟩:=N.cout y a e
    exact ⟨o,h⟩
   ·obtain ⟨sl,e,J⟩:=N.out a o h q q2 fun y e=>q3 ⟨y,e⟩
    exact ⟨_,e⟩
theorem Now.keep {c:Cx} {φ:FP} {H:AH} {lc:Loc} {s s':Shared} (N:Now c φ H lc s) (keep:∀ a o,s.heap.get? a=some o->s'.heap.get? a=some o)
  (hg:s'.gens=s.gens) (ho:s'.os=s.os):Now c φ H lc s':=by
 refine ⟨⟨fun a o e=>keep a o (N.rel.stays a o e),N.rel.len,fun k o f e e'=>(N.rel.cov k o f e e').move (Ext.refl φ) fun a J ob h=>keep a ob h,N.rel.nd,fun a h=>⟨(N.rel.fresh a h).1,let ⟨o,e⟩:=(N.rel.fresh a h).2;⟨o,keep a o e⟩⟩⟩,fun a o e h h2 h3=>?_,N.own,N.ext,fun env he=>?_,N.loc.keep (Ext.refl φ) (fun a o J=>keep a o),N.lout,fun x a e=>?_,hg.trans N.gens,ho.trans N.os,fun p hp=>keep _ _ (N.fz p hp),N.fzh⟩
 ·obtain ⟨sl,e',hs'⟩:=N.out a o e h h2 h3
  exact ⟨sl,keep a _ e',hs'⟩
 ·obtain ⟨k1,L,o,k2,k3,k4,k5,k6⟩:=N.frs env he
  exact ⟨k1,L,o,k2,k3,k4,keep L o k5,k6⟩
 ·obtain ⟨h1,o,h2,hc⟩:=N.cout x a e
  exact ⟨h1,o,keep a o h2,hc⟩
theorem Now.push {c:Cx} {φ:FP} {H:AH} {lc:Loc} {s:Shared} (N:Now c φ H lc s) (o:Obj):Now c φ H lc {s with heap:=s.heap.push o}:=
 N.keep (fun J J e=>Heap.get?_push_of_some _ e) rfl rfl
theorem getElem?_app {α:Type} {l:List α} {k:Nat} {x y:α} (h:(l++[x])[k]?=some y):l[k]?=some y∨(k=l.length/\y=x):=by
 by_cases q:k<l.length
 ·rw[List.getElem?_append_left q]at h;exact .inl h
 ·rw[List.getElem?_append_right (Nat.le_of_not_lt q)]at h
  have:k-l.length=0:=by
   cases z:k-l.length with
   |zero=>rfl
   |succ n=>rw[z]at h;simp at h
  rw[this]at h
  refine .inr ⟨by exact Nat.le_antisymm (Nat.not_lt.mp fun gz=>lin [_,_,_] [] [(1,.nl (.v 0) (.c 0)),(1,.nl (.v 1) (.a (.v 0) (.v 2))),(1,.nl (.a (.v 2) (.c 1)) (.v 1))] rfl (Nat.le_of_eq this) (zU2 (k) (l.length)) gz) (Nat.not_lt.mp fun gz=>lin [_,_] [] [(1,.nl (.v 0) (.v 1)),(1,.nl (.a (.v 1) (.c 1)) (.v 0))] rfl (Nat.not_lt.mp q) gz),?_⟩
  simpa using h.symm
theorem Now.add {c:Cx} {φ:FP} {H:AH} {lc:Loc} {s s':Shared} (N:Now c φ H lc s) (f:List Addr) (o:AO) (keep:∀ a o,s.heap.get? a=some o->s'.heap.get? a=some o)
  (hf:∀ a∈f,s.heap.get? a=none/\∃ o,s'.heap.get? a=some o) (nd:f.Nodup) (cov:Cov c.w.params s'.heap (φ++[f]) o f)
  (hg:s'.gens=s.gens) (ho:s'.os=s.os):Now c (φ++[f]) (H++[o]) lc s':=by
 have N':=N.keep keep hg ho
 have x:=Ext.app φ f
 have fl:(φ++[f]).flatten=φ.flatten++f:=by simp
 have old:∀{a o},s.heap.get? a=some o->a∉f:=fun e q=>by rw[(hf _ q).1]at e;injection e
 have ap:∀ a∈φ.flatten,a∉f:=fun a h q=>by obtain ⟨o,e⟩:=N.live h;exact old e q
 refine ⟨⟨N'.rel.stays,by simp[N.rel.len],fun k ob g e e'=>?_,?_,fun a h=>?_⟩,N'.out,fun a h=>?_,N.ext.trans x,fun env he=>?_,N'.loc.keep x (fun J J J e=>e),?_,fun y a e=>?_,N'.gens,N'.os,N'.fz,fun p hp=>?_⟩
 ·rcases getElem?_app e with e|⟨rfl,rfl⟩
  ·rcases getElem?_app e' with e'|⟨rfl,rfl⟩
   ·exact (N'.rel.cov k ob g e e').move x fun J J J h=>h
   ·have:=(List.getElem?_eq_some_iff.mp e).1
    rw[N.rel.len]at this
    exact absurd this (Nat.lt_irrefl _)
  ·rw[<-N.rel.len]at e'
   rw[List.getElem?_append_right (Nat.le_refl _)]at e'
   simp at e'
   subst e'
   exact cov
 ·rw[fl]
  exact List.nodup_append.mpr ⟨N.rel.nd,nd,fun a h b h' e=>ap a h (e▸h')⟩
 ·rw[fl]at h
  rcases List.mem_append.mp h with h|h
  ·exact N'.rel.fresh a h
  ·refine ⟨?_,(hf a h).2⟩
   cases e:c.b.get? a with
   |none=>rfl
   |some o=>exact absurd h (old (N.rel.stays a o e))
 ·rw[fl]at h
  rcases List.mem_append.mp h with h|h
  ·exact N.own a h
  ·by_cases q:a∈c.φ₀.flatten
   ·exact .inl q
   ·refine .inr ?_
    cases e:c.h₀.get? a with
    |none=>rfl
    |some o=>
     obtain ⟨o',e'⟩:=N.live0 e
     exact absurd h (old e')
 ·obtain ⟨k1,L,o,k2,k3,k4,k5,k6⟩:=N'.frs env he
  obtain ⟨J,L',o',e2,J,J,e5,J⟩:=N.frs env he
  rw[k2]at e2
  obtain rfl:=Option.some.inj e2
  refine ⟨k1,L,o,k2,k3,fun q=>?_,k5,k6⟩
  rw[fl]at q
  rcases List.mem_append.mp q with q|q
  ·exact k4 q
  ·exact old e5 q
 ·rw[fl]
  obtain ⟨m,⟨o,J,J,e,J⟩,J⟩:=N.loc
  intro q
  rcases List.mem_append.mp q with q|q
  ·exact N.lout q
  ·exact old e q
 ·obtain ⟨h1,o,h2,hc⟩:=N.cout y a e
  refine ⟨fun q=>?_,o,keep a o h2,hc⟩
  rw[fl]at q
  rcases List.mem_append.mp q with q|q
  ·exact h1 q
  ·exact old h2 q
 ·obtain ⟨k,es,e1,e2⟩:=N.fzh p hp
  exact ⟨k,es,by rw[List.getElem?_append_left (List.getElem?_eq_some_iff.mp e1).1];exact e1,by rw[List.getElem?_append_left (List.getElem?_eq_some_iff.mp e2).1];exact e2⟩
theorem qQ5 {φ:FP} {k:Nat} {f:List Addr} (h:φ[k]?=some f) {a:Addr} (ha:a∈f):a∈φ.flatten:=List.mem_flatten.mpr ⟨f,List.mem_of_getElem? h,ha⟩
theorem qW1:∀{φ:FP} {k j:Nat} {f g:List Addr} {a:Addr},φ.flatten.Nodup->φ[k]?=some f->φ[j]?=some g->a∈f->a∈g->k=j:=@fun ξ ξ2 ξ3=>no_implicit_lambda%(match @ξ,@ξ2,@ξ3 with
 |[],J,J2=>@fun J3 J4 J5 J6 e J7 J8 J9=>by simp at e
 |x::φ,0,0=>@fun J J2 J3 J4 J5 J6 J7 J8=>rfl
 |x::φ,0,j+1=>@fun f g a nd e e' h h'=>by
  simp at e e'
  subst e
  rw[List.flatten_cons]at nd
  exact absurd rfl ((List.nodup_append.mp nd).2.2 a h a (qQ5 e' h'))
 |x::φ,k+1,0=>@fun f g a nd e e' h h'=>by
  simp at e e'
  subst e'
  rw[List.flatten_cons]at nd
  exact absurd rfl ((List.nodup_append.mp nd).2.2 a h' a (qQ5 e h))
 |x::φ,k+1,j+1=>@fun f g a nd e e' h h'=>by
  simp at e e'
  rw[List.flatten_cons]at nd
  exact congrArg (·+1) (qW1 (List.nodup_append.mp nd).2.1 e e' h h')
 )
theorem Now.upd {c:Cx} {φ:FP} {H:AH} {lc:Loc} {s s':Shared} (N:Now c φ H lc s) {k:Nat} {f:List Addr} (hk:φ[k]?=some f) (hfd:frz (qQ0 H k)=false) (o:AO) (keep:∀ a o,a∉f->s.heap.get? a=some o->s'.heap.get? a=some o)
  (lv:∀ a∈f,∃ o,s'.heap.get? a=some o) (cov:Cov c.w.params s'.heap φ o f) (hg:s'.gens=s.gens) (ho:s'.os=s.os):Now c φ (qX7 H k o) lc s':=by
 have sf:∀{a},a∈f->a∈φ.flatten:=fun h=>qQ5 hk h
 rw[qX2]
 refine ⟨⟨fun a ob e=>keep a ob (fun q=>?_) (N.rel.stays a ob e),by simp[N.rel.len],fun j ob g e e'=>?_,N.rel.nd,fun a h=>⟨(N.rel.fresh a h).1,?_⟩⟩,fun a ob e h h2 h3=>?_,N.own,N.ext,fun env he=>?_,N.loc.keep (Ext.refl φ) (fun a ob h e=>keep a ob (fun q=>?_) e),N.lout,fun x a e=>?_,hg.trans N.gens,ho.trans N.os,fun p hp=>?_,fun p hp=>?_⟩
 ·rw[(N.rel.fresh a (sf q)).1]at e;injection e
 ·by_cases q:k=j
  ·subst q
   rw[hk]at e'
   obtain rfl:=Option.some.inj e'
   rw[List.getElem?_set]at e
   simp only[if_true]at e
   split at e
   ·obtain rfl:=Option.some.inj e;exact cov
   ·injection e
  ·rw[List.getElem?_set,if_neg q]at e
   exact (N.rel.cov j ob g e e').move (Ext.refl φ) fun a ha ob h=>keep a ob (fun z=>q (qW1 N.rel.nd hk e' z ha)) h
 ·by_cases q:a∈f
  ·exact lv a q
  ·obtain ⟨o',e⟩:=N.live h
   exact ⟨o',keep a o' q e⟩
 ·obtain ⟨sl,e',hs'⟩:=N.out a ob e h h2 h3
  refine ⟨sl,keep a _ (fun q=>?_) e',hs'⟩
  rcases N.own a (sf q) with z|z
  ·exact h z
  ·rw[z]at e;injection e
 ·obtain ⟨k1,L,ob,k2,k3,k4,k5,k6⟩:=N.frs env he
  exact ⟨k1,L,ob,k2,k3,k4,keep L ob (fun q=>k4 (sf q)) k5,k6⟩
 ·rcases h with rfl|⟨y,h⟩
  ·exact N.lout (sf q)
  ·exact (N.cout y a h).1 (sf q)
 ·obtain ⟨h1,ob,h2,hc⟩:=N.cout x a e
  exact ⟨h1,ob,keep a ob (fun q=>h1 (sf q)) h2,hc⟩
 ·obtain ⟨j,es,e1,e2⟩:=N.fzh p hp
  refine keep _ _ (fun q=>?_) (N.fz p hp)
  have:=qW1 N.rel.nd hk e2 q (.head _)
  subst this
  exact qY1 (qE4 e1) hfd
 ·obtain ⟨j,es,e1,e2⟩:=N.fzh p hp
  refine ⟨j,es,?_,e2⟩
  have:k≠j:=fun q=>by subst q;exact qY1 (qE4 e1) hfd
  rw[List.getElem?_set,if_neg this]
  exact e1
theorem Now.at {c:Cx} {φ:FP} {H:AH} {lc:Loc} {s:Shared} (N:Now c φ H lc s) {k:Nat} {o:AO} (h:qQ0 H k=o) (hd:o≠.dead):∃ f,φ[k]?=some f/\Cov c.w.params s.heap φ o f:=by
 have e:=qW7 h hd
 have l:=(List.getElem?_eq_some_iff.mp e).1
 rw[<-N.rel.len]at l
 exact ⟨φ[k],List.getElem?_eq_getElem l,N.rel.cov k o _ e (List.getElem?_eq_getElem l)⟩
set_option tactic.hygienic true in
theorem Now.setLoc {c:Cx} {φ:FP} {H:AH} {lc:Loc} {s s':Shared} (N:Now c φ H lc s) {x:Nat} {av:AV} {v:Value} (hc:c.cells.lookup (nm x)=none) (hv:qQ1 φ av v)
  (hn:∀ m,s.heap.Ns c.L m->s'.heap.Ns c.L (fun y=>if y=nm x then some v else m y)) (hs:Heap.SameBut c.L s.heap s'.heap) (hb:c.b.get? c.L=none) (hcl:∀ y,c.cells.lookup y≠some c.L)
  (hg:s'.gens=s.gens) (ho:s'.os=s.os):Now c φ H (st lc x av) s':=by
 have keep:∀ a o,a≠c.L->s.heap.get? a=some o->s'.heap.get? a=some o:=fun a o n e=>(hs.2 a n).trans e
 obtain ⟨m,hm,hl⟩:=N.loc
 have hm':=hn m hm
 refine ⟨⟨fun a o e=>keep a o (fun q=>by rw[q,hb]at e;injection e) (N.rel.stays a o e),N.rel.len,fun k o f e e'=>(N.rel.cov k o f e e').move (Ext.refl φ) fun a ha ob h=>keep a ob (fun q=>N.lout (q▸qQ5 e' ha)) h,N.rel.nd,fun a h=>⟨(N.rel.fresh a h).1,?_⟩⟩,fun a o e h h2 h3=>?_,N.own,N.ext,fun env he=>?_,⟨_,hm',fun y bv q=>?_⟩,N.lout,fun y a e=>?_,hg.trans N.gens,ho.trans N.os,fun p hp=>keep _ _ (fun q=>?_) (N.fz p hp),N.fzh⟩
 ·obtain ⟨o,e⟩:=N.live h
  exact ⟨o,keep a o (fun q=>N.lout (q▸h)) e⟩
 ·obtain ⟨sl,e',hs'⟩:=N.out a o e h h2 h3
  exact ⟨sl,keep a _ h2 e',hs'⟩
 ·obtain ⟨k1,L,o,k2,k3,k4,k5,k6⟩:=N.frs env he
  by_cases q:L=c.L
  ·obtain ⟨o',es,ep,e1,e2,J⟩:=hm'
   exact ⟨k1,L,o',k2,k3,k4,q▸e1,fun vs z=>by rw[e2]at z;injection z⟩
  ·exact ⟨k1,L,o,k2,k3,k4,keep L o q k5,k6⟩
 ·rw[qA5]at q
  by_cases z:y=x
  ·subst z
   rw[if_pos rfl]at q
   obtain rfl:=Option.some.inj q
   unfold qV3
   rw[hc]
   exact ⟨v,if_pos rfl,hv⟩
  ·rw[if_neg z]at q
   have w:=hl y bv q
   unfold qV3 at w ⊢
   split
   ·rename_i e
    rw[e]at w
    obtain ⟨u,e1,e2⟩:=w
    exact ⟨u,(if_neg fun h=>z (qK6 h)).trans e1,e2⟩
   ·rename_i a e
    rw[e]at w
    obtain ⟨o,u,e1,e2,e3⟩:=w
    exact ⟨o,u,keep a o (fun h=>hcl _ (h▸e)) e1,e2,e3⟩
 ·obtain ⟨h1,o,h2,hc⟩:=N.cout y a e
  exact ⟨h1,o,keep a o (fun q=>hcl _ (q▸e)) h2,hc⟩
 ·obtain ⟨j,es,e1,e2⟩:=N.fzh p hp
  exact N.lout (q▸qQ5 e2 (.head _))
end Mine
section
namespace Mine
set_option genInjectivity false
set_option genSizeOf false
open PySem (Addr)
mutual
inductive Bop where|add|sub|mul|mod|fdiv
inductive Cop where|eq|ne|lt|le|gt|ge|is|isnot|cin|nin
end
mutual
inductive X where
 |bad|none|bool (b:Bool)|int (i:Int)|str (s:List Nat)
 |loc (x:Nat)
 |glob (g:Nat)
 |attr (o:X) (a:Nat)
 |bin (op:Bop) (a b:X)
 |neg (a:X)
 |not (a:X)
 |and (xs:Xs)
 |or (xs:Xs)
 |cmp (op:Cop) (a b:X)
 |ite (c a b:X)
 |call (g:Nat) (args:Xs)
 |mk (g:Nat) (args:Xs)
 |bi (g:Nat) (args:Xs)
 |meth (o:X) (a:Nat) (args:Xs)
 |sub (o i:X)
 |slice (o lo hi:X)
 |list (args:Xs)
 |tup (args:Xs)
 |dict (ks:List (List Nat)) (args:Xs)
 |comp (rng:Bool) (x:Nat) (fv:List Nat) (src:X) (ifs:Xs) (elt:X)
inductive Xs where
 |nil|cons (x:X) (xs:Xs)
end
inductive T1 where
 |loc (x:Nat)
 |attr (o:X) (a:Nat)
 |sub (o i:X)
inductive T where
 |one (t:T1)
 |slice (o lo hi:X)
 |tup (ts:List T1)
mutual
inductive Y where
 |expr (e:X)
 |asgn (t:T) (e:X)
 |asgc (x:Nat) (e:X)
 |ret (e:X)
 |ret0
 |ife (c:X) (a b:Ys)
 |forl (n:Nat) (x:Nat) (e:X) (body:Ys)
 |forr (n:Nat) (x:Nat) (e:X) (body:Ys)
 |whl (n:Nat) (c:X) (body:Ys)
 |whs (c:X) (body:Ys)
 |raise (g:Nat) (args:Xs)
 |no
inductive Ys where
 |nil|cons (s:Y) (ss:Ys)
end
noncomputable abbrev Sp:=Addr->List AV->AH->(AV->AH->Prop)->(AH->Prop)->Prop
noncomputable def qW8 {α:Type}:List (Nat×α)->Nat->Option α:=@fun ξ ξ2=>match @ξ,@ξ2 with
 |[],J=>none
 |(y,v)::r,x=>match Nat.beq y x with|true=>some v|false=>qW8 r x
noncomputable def qJ3:List Nat->Nat->Bool:=@fun ξ ξ2=>match @ξ,@ξ2 with
 |[],J=>false
 |y::r,x=>match Nat.beq y x with|true=>true|false=>qJ3 r x
noncomputable def gcT:List (Nat×Int):=[(15,10),(14,0),(18,1),(0,3),(11,12),(3,0),(17,1),(9,2)]
noncomputable def gfT:List (Nat×Addr):=[(30,21),(159,48),(184,55),(220,62),(221,69),(228,76),(227,83),(98,90),(97,97),(181,104),(100,112),(65,119),(76,126),(68,133),(127,140),(37,147),(38,154),(247,161),(214,168),(78,175),(43,182),(164,189),(44,196),(41,203),(166,231),(45,236),(139,243),(209,250),(253,257),(252,264),(251,271),(70,278),(245,306),(248,313),(239,320),(162,327),(158,334),(105,341),(73,348),(196,355),(191,362),(182,369),(40,376),(93,383),(187,390),(173,932),(121,939),(23,946),(29,951),(28,958),(25,965),(26,972),(24,979),(27,986),(22,993),(128,998)]
noncomputable def clT:List (Nat×Nat×Addr):=[(12,1,217),(19,2,292),(8,3,404),(13,4,495),(1,5,601),(5,6,717),(7,7,738)]
noncomputable def mt0:List (Nat×Addr):=[]
noncomputable def mt1:List (Nat×Addr):=[]
noncomputable def mt2:List (Nat×Addr):=[]
noncomputable def mt3:List (Nat×Addr):=[(205,411),(56,418),(58,425),(151,432),(246,439),(99,446),(65,453),(180,460),(154,467),(118,474)]
noncomputable def mt4:List (Nat×Addr):=[(165,502),(180,509),(69,516),(249,523),(101,530),(66,537),(190,544)]
noncomputable def mt5:List (Nat×Addr):=[(203,608),(124,615),(50,622),(72,629),(205,636),(57,643),(58,650),(92,657),(230,664),(109,671),(200,678),(233,685)]
noncomputable def mt6:List (Nat×Addr):=[]
noncomputable def mt7:List (Nat×Addr):=[(213,745),(235,752),(84,759),(174,766),(75,773),(117,780),(106,787),(111,794),(156,801),(155,808),(185,815),(211,822),(148,829),(131,836),(133,843),(157,850),(250,857),(82,864),(35,871),(140,878),(141,885),(65,892),(188,899),(189,904),(61,911),(201,918)]
noncomputable def mtL:Nat->List (Nat×Addr):=@fun ξ=>match @ξ with
 |0=>mt0
 |1=>mt1
 |2=>mt2
 |3=>mt3
 |4=>mt4
 |5=>mt5
 |6=>mt6
 |7=>mt7
 |J=>[]
noncomputable def mt (c a:Nat):Option Addr:=qW8 (mtL c) a
noncomputable def okA:Nat->List Nat:=@fun ξ=>match @ξ with
 |0=>[]
 |1=>[242,46,104,169,161,113]
 |2=>[153,235,211,102,42]
 |3=>[193,54,89,88]
 |4=>[194]
 |5=>[163,153,222,146,176,51,254,144,108,114,231,59,197,135,238,179,171,136,217,81]
 |6=>[206,60,211,119]
 |7=>[55,129,74]
 |J=>[]
noncomputable def qU1:Nat:=177
noncomputable def qZ9:Nat:=35
noncomputable def xI7:Nat:=90
noncomputable def qF4:Nat:=83
noncomputable def qM2:Nat:=192
noncomputable def qK9:Nat:=10
noncomputable def zS4 (n:Nat):AV->Nat->Option Nat:=@fun ξ ξ2=>match @ξ,@ξ2 with
 |.none,d=>some d
 |.int i,J=>some (PySem.clipAt n i)
 |J,J2=>none
noncomputable def cut {α:Type} (xs:List α) (lo hi:AV):Option (List α):=match zS4 xs.length lo 0,zS4 xs.length hi xs.length with
 |some a,some b=>some ((xs.drop a).take (b-a))
 |J,J2=>none
noncomputable def pOf:AV->Option (Option Int):=@fun ξ=>match @ξ with
 |.none=>some none
 |.int i=>some (some i)
 |J=>none
noncomputable abbrev xL9 (s:List Nat) (lo hi:Option Int):List Nat:=PySem.Builtin.Str.strSliceIndices lo hi 1 (⟨s.toArray⟩:PySem.Str).length
noncomputable def yJ3 (s:List Nat) (lo hi:Option Int):Option (List Nat):=match Nat.beq (xL9 s lo hi).length (⟨s.toArray⟩:PySem.Str).length with
 |true=>some s
 |false=>match Nat.ble ((xL9 s lo hi).filterMap ((⟨s.toArray⟩:PySem.Str).cps[·]?)).length 1000 with
  |true=>some ((xL9 s lo hi).filterMap ((⟨s.toArray⟩:PySem.Str).cps[·]?))
  |false=>none
noncomputable def xA1 (s:List Nat) (a b:AV):Option (List Nat):=match pOf a with
 |some lo=>(match pOf b with|some hi=>yJ3 s lo hi|none=>none)
 |none=>none
noncomputable def qJ0:List AV->Option (List Int):=@fun ξ=>match @ξ with
 |[]=>some []
 |.int i::r=>match qJ0 r with|some l=>some (i::l)|none=>none
 |J=>none
noncomputable def mkL (vs:List AV):AO:=match qJ0 vs with|some l=>.il l|none=>.vl vs
noncomputable def qU0 {α:Type}:List α->Nat->Option α:=@fun ξ ξ2=>match @ξ,@ξ2 with
 |[],J=>none
 |x::J,0=>some x
 |J::r,i+1=>qU0 r i
noncomputable def vEq (H:AH) (a b:AV):Option Bool:=match a with
 |.none=>(match b with|.none=>some true|J=>none)
 |.int i=>(match b with|.int j=>some (decide (i=j))|J=>none)
 |.bool i=>(match b with|.bool j=>some (match i,j with|true,true=>true|false,false=>true|J,J2=>false)|J=>none)
 |.str s=>(match b with|.str t=>some (eqL s t)|J=>none)
 |.obj k=>(match b with|.obj l=>(match qQ0 H k,qQ0 H l with|.il xs,.il ys=>some (decide (xs=ys))|J,J2=>none)|J=>none)
noncomputable def wO8 (H:AH):List AV->List AV->Option Bool:=@fun ξ ξ2=>match @ξ,@ξ2 with
 |[],[]=>some true
 |a::x,b::y=>match vEq H a b,wO8 H x y with|some p,some q=>some (match p with|true=>q|false=>false)|J,J2=>none
 |J,J2=>none
noncomputable def qM0:List AV->Bool:=@fun ξ=>match @ξ with
 |[]=>true
 |.str J::J2=>false
 |J::r=>qM0 r
noncomputable def sEq (H:AH) (a b:AV):Option Bool:=match a with
 |.none=>none
 |.obj k=>(match b with
  |.obj l=>(match qQ0 H k,qQ0 H l with
   |.vl xs,.vl ys=>(match qM0 xs with|true=>wO8 H xs ys|false=>none)
   |J,J2=>vEq H (.obj k) (.obj l))
  |J=>none)
 |a=>vEq H a b
noncomputable def noC (c:Nat) (s:List Nat):Bool:=!(!(PySem.Builtin.Str.occurrences ⟨s.toArray⟩ ⟨#[c]⟩ 0 (⟨s.toArray⟩:PySem.Str).length 1).isEmpty)
noncomputable def opt (r:Option Bool) (K:Bool->Prop):Prop:=match r with|some b=>K b|none=>False
noncomputable def zU7 (op:Cop) (a b:AV) (H:AH) (K:Bool->Prop):Prop:=match op with
 |.eq=>opt (sEq H a b) K
 |.ne=>opt (sEq H a b) fun t=>K (!t)
 |.lt=>match a,b with|.int i,.int j=>K (decide (i<j))|J,J2=>False
 |.le=>match a,b with|.int i,.int j=>K (decide (i<=j))|J,J2=>False
 |.gt=>match a,b with|.int i,.int j=>K (decide (j<i))|J,J2=>False
 |.ge=>match a,b with|.int i,.int j=>K (decide (j<=i))|J,J2=>False
 |.is=>match a,b with|.none,.none=>K true|J,.none=>K false|J,J2=>False
 |.isnot=>match a,b with|.none,.none=>K false|J,.none=>K true|J,J2=>False
 |.nin=>match a,b with|.str [c],.str s=>K (noC c s)|J,J2=>False
 |.cin=>match a,b with
  |.str s,.obj k=>match qQ0 H k with|.sd es=>K (match lkS es s with|some J=>true|none=>false)|J=>False
  |J,J2=>False
noncomputable def qA8 (a:AV) (K:Bool->Prop):Prop:=match a with
 |.bool b=>K b
 |J=>False
noncomputable def zJ7 (op:Bop) (a b:AV) (H:AH) (K:AV->AH->Prop):Prop:=match op with
 |.add=>match a,b with
  |.int i,.int j=>K (.int (i+j)) H
  |.str s,.str t=>match Nat.ble (s.length+t.length) 1000 with|true=>K (.str (s++t)) H|false=>False
  |.obj k,.obj l=>match qQ0 H k,qQ0 H l with
   |.il xs,.il ys=>xs.length+ys.length<=10000/\K (.obj H.length) (H++[.il (xs++ys)])
   |J,J2=>False
  |J,J2=>False
 |.sub=>match a,b with|.int i,.int j=>K (.int (i-j)) H|J,J2=>False
 |.mod=>match a,b with|.int i,.int j=>0<j/\K (.int (i % j)) H|J,J2=>False
 |.mul=>match a,b with
  |.obj k,.int n=>match qQ0 H k with
   |.il [x]=>0<=n/\n<=1000/\K (.obj H.length) (H++[.il (List.replicate n.toNat x)])
   |J=>False
  |J,J2=>False
 |.fdiv=>match a,b with|.int i,.int j=>0<j/\0<=i/\i<=10000/\j<=10000/\K (.int (i / j)) H|J,J2=>False
noncomputable def zQ1 (o i:AV) (H:AH) (K:AV->Prop):Prop:=match o,i with
 |.obj k,.int i=>match qQ0 H k with
  |.il xs=>-(xs.length:Int)<=i/\i<xs.length/\K (.int (xs.getD (if i<0 then (i+xs.length).toNat else i.toNat) 0))
  |J=>False
 |.obj k,.str s=>match qQ0 H k with
  |.sd es=>match lkS es s with|some v=>K v|none=>False
  |J=>False
 |J,J2=>False
noncomputable def qN6 (o lo hi:AV) (H:AH) (K:AV->AH->Prop):Prop:=match o with
 |.obj k=>match qQ0 H k with
  |.il xs=>match cut xs lo hi with|some ys=>K (.obj H.length) (H++[.il ys])|none=>False
  |.fl xs=>match cut xs lo hi with|some ys=>K (.obj H.length) (H++[.il ys])|none=>False
  |J=>False
 |.str s=>match xA1 s lo hi with|some t=>K (.str t) H|none=>False
 |J=>False
noncomputable def wQ7 (c:Nat) (s:List Nat):Int:=PySem.Txt.rfind ⟨s.toArray⟩ ⟨#[c]⟩
noncomputable def xK8 (c:Nat) (s:List Nat) (i:Int):Int:=PySem.Txt.find3 ⟨s.toArray⟩ ⟨#[c]⟩ i
noncomputable def leS (x y:List Nat):Bool:=!PySem.Spec.ltCps y x
noncomputable def zA8 (a:List Nat):List (List Nat)->List (List Nat):=@fun ξ=>match @ξ with
 |[]=>[a]
 |b::l=>match leS a b with|true=>a::b::l|false=>b::zA8 a l
noncomputable def qB7:List (List Nat)->List (List Nat):=@fun ξ=>match @ξ with
 |[]=>[]
 |a::l=>zA8 a (qB7 l)
noncomputable def qB4:List AV->Option (List (List Nat)):=@fun ξ=>match @ξ with
 |[]=>some []
 |.str s::l=>match qB4 l with|some r=>some (s::r)|none=>none
 |J=>none
noncomputable def yH7 (a:AV) (H:AH) (K:AV->AH->Prop):Prop:=match a with
 |.obj k=>(match qQ0 H k with|.il xs=>K (.int xs.length) H|.fl xs=>K (.int xs.length) H|.vl xs=>K (.int xs.length) H|J=>False)
 |.str s=>(match Nat.ble s.length 1000 with|true=>K (.int s.length) H|false=>False)
 |J=>False
noncomputable def yY1 (a:AV) (H:AH) (K:AV->AH->Prop):Prop:=match a with
 |.obj k=>(match qQ0 H k with|.il xs=>K (.obj H.length) (H++[.il xs])|.vl xs=>K (.obj H.length) (H++[.vl xs])|J=>False)
 |J=>False
noncomputable def yD6 (a:AV) (H:AH) (K:AV->AH->Prop):Prop:=match a with
 |.obj k=>(match qQ0 H k with
  |.il l=>(match l with|[]=>K (.obj H.length) (H++[.il []])|J::J2=>False)
  |.sd l=>(match l with|[]=>K (.obj H.length) (H++[.il []])|J::J2=>False)
  |.vl xs=>(match qB4 xs with|some ss=>(match Nat.ble ss.length 50 with|true=>K (.obj H.length) (H++[.vl ((qB7 ss).map .str)])|false=>False)|none=>False)
  |J=>False)
 |J=>False
noncomputable def yL4 (g:Nat) (a:AV) (H:AH) (K:AV->AH->Prop):Prop:=match g with
 |0=>yH7 a H K
 |3=>yY1 a H K
 |4=>yD6 a H K
 |5=>(match a with|.int i=>K (.int (if i<0 then -i else i)) H|J=>False)
 |J=>False
noncomputable def yM7 (g:Nat) (a b:AV) (H:AH) (K:AV->AH->Prop):Prop:=match a,b with
 |.int i,.int j=>(match g with|1=>K (.int (min i j)) H|2=>K (.int (max i j)) H|J=>False)
 |J,J2=>False
noncomputable def sBi (g:Nat) (args:List AV) (H:AH) (K:AV->AH->Prop):Prop:=match args with
 |[]=>False
 |a::r=>(match r with|[]=>yL4 g a H K|b::r=>(match r with|[]=>yM7 g a b H K|J::J2=>False))
noncomputable def isZ (v:AV):Bool:=match v with
 |.int i=>decide (i=0)
 |J=>false
noncomputable def yD7 (v:AV) (K:Nat->Prop):Prop:=match v with
 |.str s=>(match s with|[]=>False|c::r=>(match r with|[]=>K c|J::J2=>False))
 |J=>False
noncomputable def bm1 (a k:Nat) (v:AV) (H:AH) (K:AV->AH->Prop):Prop:=match qQ0 H k with
 |.il l=>(match l with
  |[]=>(match Nat.beq a qZ9 with|true=>K .none (qX7 H k (mkL [v]))|false=>False)
  |x::xs=>(match Nat.beq a qU1 with|true=>(match isZ v with|true=>K (.int x) (qX7 H k (.il xs))|false=>False)|false=>False))
 |.vl xs=>(match Nat.beq a qZ9 with|true=>xs.length<=100/\K .none (qX7 H k (.vl (xs++[v])))|false=>False)
 |.sd es=>(match Nat.beq a qU1 with|true=>(match v with|.str s=>(match lkS es s with|some u=>K u (qX7 H k (.sd (es.filter fun e=>!eqL e.1 s)))|none=>False)|J=>False)|false=>False)
 |J=>False
noncomputable def bm2 (a k:Nat) (v w:AV) (H:AH) (K:AV->AH->Prop):Prop:=match Nat.beq a xI7 with
 |true=>(match v,w with|.str s,.none=>(match qQ0 H k with|.sd es=>K (match lkS es s with|some u=>u|none=>.none) H|J=>False)|J,J2=>False)
 |false=>False
noncomputable def yN1 (a:Nat) (s:List Nat) (v:AV) (H:AH) (K:AV->AH->Prop):Prop:=match Nat.beq a qM2 with
 |true=>yD7 v fun c=>K (.int (wQ7 c s)) H
 |false=>False
noncomputable def yT0 (a:Nat) (s:List Nat) (v w:AV) (H:AH) (K:AV->AH->Prop):Prop:=match Nat.beq a qF4 with
 |true=>yD7 v fun c=>(match w with|.int i=>K (.int (xK8 c s i)) H|J=>False)
 |false=>False
noncomputable def sBm (a:Nat) (o:AV) (args:List AV) (H:AH) (K:AV->AH->Prop):Prop:=match o with
 |.obj k=>(match args with|[]=>False|v::r=>(match r with|[]=>bm1 a k v H K|w::r=>(match r with|[]=>bm2 a k v w H K|J::J2=>False)))
 |.str s=>(match args with|[]=>False|v::r=>(match r with|[]=>yN1 a s v H K|w::r=>(match r with|[]=>yT0 a s v w H K|J::J2=>False)))
 |J=>False
noncomputable def qA4 (v:AV) (H:AH):Nat:=match v with
 |.str J=>3
 |.obj k=>match qQ0 H k with|.il J=>1|.vl J=>1|.sd J=>2|J=>0
 |J=>0
noncomputable def qS4 (k a:Nat):Bool:=match k with
 |1=>match Nat.beq a qU1 with|true=>true|false=>Nat.beq a qZ9
 |2=>match Nat.beq a qU1 with|true=>true|false=>Nat.beq a xI7
 |3=>match Nat.beq a qF4 with|true=>true|false=>Nat.beq a qM2
 |J=>false
noncomputable def wH8:List (List Nat)->List Nat->Bool:=@fun ξ ξ2=>match @ξ,@ξ2 with
 |[],J=>true
 |y::r,x=>match eqL y x with|true=>false|false=>wH8 r x
noncomputable def qN3:List (List Nat)->Bool:=@fun ξ=>match @ξ with
 |[]=>true
 |x::r=>match wH8 r x with|true=>qN3 r|false=>false
noncomputable def qD6 (lc:Loc):List Nat->Loc:=@fun ξ=>match @ξ with
 |[]=>[]
 |y::r=>match lk lc y with|some v=>(y,v)::qD6 lc r|none=>qD6 lc r
noncomputable def wX5 (m:Int) (i:Nat) (_:AH):Option (Option AV):=match decide ((i:Int)<m) with|true=>some (some (.int i))|false=>some none
noncomputable def qR4 (k:Nat) (i:Nat) (H:AH):Option (Option AV):=match qQ0 H k with
 |.il xs=>some (match qU0 xs i with|some v=>some (.int v)|none=>none)
 |J=>none
noncomputable def wK3 (k:Nat) (i:Nat) (H:AH):Option (Option AV):=match qQ0 H k with
 |.tp xs=>some (qU0 xs i)
 |J=>none
noncomputable def wZ6 (es:List (List Nat×AV)) (i:Nat) (_:AH):Option (Option AV):=some (match qU0 es i with|some e=>some (.str e.1)|none=>none)
noncomputable def qZ7 (next:Nat->AH->Option (Option AV)) (tst:Loc->AH->(Bool->AH->Prop)->Prop) (elt:Loc->AH->(AV->AH->Prop)->Prop) (x:Nat) (lc:Loc):Nat->Nat->List AV->AH->(List AV->AH->Prop)->Prop:=@fun ξ=>no_implicit_lambda%(match @ξ with
 |0=>@fun J J2 J3 J4=>False
 |n+1=>@fun i acc H K=>match next i H with
  |some (some v)=>tst (st lc x v) H fun t H=>match t with
   |true=>elt (st lc x v) H fun r H=>qZ7 next tst elt x lc n (i+1) (acc++[r]) H K
   |false=>qZ7 next tst elt x lc n (i+1) acc H K
  |some none=>K acc H
  |none=>False
 )
mutual
noncomputable def ev (sp:Sp):X->Loc->AH->(AV->AH->Prop)->Prop:=@fun ξ=>no_implicit_lambda%(match @ξ with
 |.bad=>@fun J J2 J3=>False
 |.none=>@fun J H K=>K .none H
 |.bool b=>@fun J H K=>K (.bool b) H
 |.int i=>@fun J H K=>K (.int i) H
 |.str s=>@fun J H K=>K (.str s) H
 |.loc x=>@fun lc H K=>match lk lc x with|some v=>K v H|.none=>False
 |.glob g=>@fun J H K=>match qW8 gcT g with|some i=>K (.int i) H|.none=>False
 |.attr o a=>@fun lc H K=>ev sp o lc H fun v H=>match v with
  |.obj k=>match qQ0 H k with
   |.inst c fs=>match qJ3 (okA c) a with
    |true=>match lk fs a with|some u=>K u H|.none=>False
    |false=>False
   |J=>False
  |J=>False
 |.bin op a b=>@fun lc H K=>ev sp a lc H fun va H=>ev sp b lc H fun vb H=>zJ7 op va vb H K
 |.neg a=>@fun lc H K=>ev sp a lc H fun v H=>match v with|.int i=>K (.int (-i)) H|J=>False
 |.not a=>@fun lc H K=>ev sp a lc H fun v H=>qA8 v fun b=>K (.bool (!b)) H
 |.and xs=>@fun lc H K=>evb sp true xs lc H K
 |.or xs=>@fun lc H K=>evb sp false xs lc H K
 |.cmp op a b=>@fun lc H K=>ev sp a lc H fun va H=>ev sp b lc H fun vb H=>zU7 op va vb H fun t=>K (.bool t) H
 |.ite c a b=>@fun lc H K=>cd sp c lc H fun t H=>match t with|true=>ev sp a lc H K|false=>ev sp b lc H K
 |.call g args=>@fun lc H K=>match qW8 gfT g with
  |some f=>evs sp args lc H fun vs H=>sp f vs H K fun J=>False
  |.none=>False
 |.mk g args=>@fun lc H K=>match qW8 clT g with
  |some (c,f)=>evs sp args lc H fun vs H=>sp f (.obj H.length::vs) (H++[.inst c []]) (fun v H'=>match v with|.none=>K (.obj H.length) H'|J=>False) fun J=>False
  |.none=>False
 |.bi g args=>@fun lc H K=>evs sp args lc H fun vs H=>sBi g vs H K
 |.meth o a args=>@fun lc H K=>ev sp o lc H fun v H=>match v with
  |.obj k=>match qQ0 H k with
   |.inst c fs=>match mt c a,lk fs a with
    |some f,.none=>evs sp args lc H fun vs H=>sp f (.obj k::vs) H K fun J=>False
    |J,J2=>False
   |.gp J=>match mt 3 a with
    |some f=>evs sp args lc H fun vs H=>sp f (.obj k::vs) H K fun J=>False
    |J=>False
   |J=>match qS4 (qA4 v H) a with
    |true=>evs sp args lc H fun vs H'=>match Nat.beq (qA4 v H) (qA4 v H') with|true=>sBm a v vs H' K|false=>False
    |false=>False
  |.str J=>match qS4 3 a with|true=>evs sp args lc H fun vs H=>sBm a v vs H K|false=>False
  |J=>False
 |.sub o i=>@fun lc H K=>ev sp o lc H fun v H=>ev sp i lc H fun u H=>zQ1 v u H fun r=>K r H
 |.slice o lo hi=>@fun lc H K=>ev sp o lc H fun v H=>ev sp lo lc H fun a H=>ev sp hi lc H fun b H=>qN6 v a b H K
 |.list args=>@fun lc H K=>evs sp args lc H fun vs H=>K (.obj H.length) (H++[mkL vs])
 |.tup args=>@fun lc H K=>evs sp args lc H fun vs H=>K (.obj H.length) (H++[.tp vs])
 |.dict ks args=>@fun lc H K=>match qN3 ks with
  |true=>evs sp args lc (H++[.sd []]) fun vs H'=>match qQ0 H' H.length,Nat.beq vs.length ks.length with
   |.sd [],true=>K (.obj H.length) (qX7 H' H.length (.sd (ks.zip vs)))
   |J,J2=>False
  |false=>False
 |.comp rng x fv src ifs elt=>@fun lc H K=>ev sp src lc H fun v H=>match rng,v with
  |true,.int m=>0<=m/\m<=1000/\qZ7 (wX5 m) (fun lc H K=>cdb sp true ifs lc H K) (fun lc H K=>ev sp elt lc H K) x (qD6 lc fv) 64 0 [] H fun vs H=>K (.obj H.length) (H++[mkL vs])
  |false,.obj k=>match qQ0 H k with
   |.sd es=>qZ7 (wZ6 es) (fun lc H K=>cdb sp true ifs lc H K) (fun lc H K=>ev sp elt lc H K) x (qD6 lc fv) 64 0 [] (qX7 H k (.fd es)) fun vs H=>match qQ0 H k with
    |.fd J=>K (.obj H.length) (qX7 H k (.sd es)++[mkL vs])
    |J=>False
   |.il J=>qZ7 (qR4 k) (fun lc H K=>cdb sp true ifs lc H K) (fun lc H K=>ev sp elt lc H K) x (qD6 lc fv) 64 0 [] H fun vs H=>K (.obj H.length) (H++[mkL vs])
   |.tp J=>qZ7 (wK3 k) (fun lc H K=>cdb sp true ifs lc H K) (fun lc H K=>ev sp elt lc H K) x (qD6 lc fv) 64 0 [] H fun vs H=>K (.obj H.length) (H++[mkL vs])
   |J=>False
  |J,J2=>False
 )
noncomputable def evs (sp:Sp):Xs->Loc->AH->(List AV->AH->Prop)->Prop:=@fun ξ=>no_implicit_lambda%(match @ξ with
 |.nil=>@fun J H K=>K [] H
 |.cons x xs=>@fun lc H K=>ev sp x lc H fun v H=>evs sp xs lc H fun vs H=>K (v::vs) H
 )
noncomputable def evb (sp:Sp) (w:Bool):Xs->Loc->AH->(AV->AH->Prop)->Prop:=@fun ξ=>no_implicit_lambda%(match @ξ with
 |.nil=>@fun J J2 J3=>False
 |.cons x .nil=>@fun lc H K=>ev sp x lc H K
 |.cons x (.cons y ys)=>@fun lc H K=>ev sp x lc H fun v H=>qA8 v fun t=>match w,t with
  |true,true=>evb sp w (.cons y ys) lc H K
  |false,false=>evb sp w (.cons y ys) lc H K
  |J,J2=>K v H
 )
noncomputable def cd (sp:Sp):X->Loc->AH->(Bool->AH->Prop)->Prop:=@fun ξ=>no_implicit_lambda%(match @ξ with
 |.not a=>@fun lc H K=>cd sp a lc H fun b H=>K (!b) H
 |.and xs=>@fun lc H K=>cdb sp true xs lc H K
 |.or xs=>@fun lc H K=>cdb sp false xs lc H K
 |.cmp op a b=>@fun lc H K=>ev sp a lc H fun va H=>ev sp b lc H fun vb H=>zU7 op va vb H fun t=>K t H
 |.ite J J2 J3=>@fun J4 J5 J6=>False
 |.bad=>@fun J J2 J3=>False
 |.none=>@fun J J2 J3=>False
 |.bool b=>@fun J H K=>K b H
 |.int J=>@fun J2 J3 J4=>False
 |.str J=>@fun J2 J3 J4=>False
 |.loc x=>@fun lc H K=>match lk lc x with|some v=>qA8 v fun b=>K b H|.none=>False
 |.glob J=>@fun J2 J3 J4=>False
 |.attr o a=>@fun lc H K=>ev sp o lc H fun v H=>match v with
  |.obj k=>match qQ0 H k with
   |.inst c fs=>match qJ3 (okA c) a with
    |true=>match lk fs a with|some u=>qA8 u fun b=>K b H|.none=>False
    |false=>False
   |J=>False
  |J=>False
 |.bin J J2 J3=>@fun J4 J5 J6=>False
 |.neg J=>@fun J2 J3 J4=>False
 |.call g args=>@fun lc H K=>match qW8 gfT g with
  |some f=>evs sp args lc H fun vs H=>sp f vs H (fun v H=>qA8 v fun b=>K b H) fun J=>False
  |.none=>False
 |.mk J J2=>@fun J3 J4 J5=>False
 |.bi J J2=>@fun J3 J4 J5=>False
 |.meth o a args=>@fun lc H K=>ev sp o lc H fun v H=>match v with
  |.obj k=>match qQ0 H k with
   |.inst c fs=>match mt c a,lk fs a with
    |some f,.none=>evs sp args lc H fun vs H=>sp f (.obj k::vs) H (fun v H=>qA8 v fun b=>K b H) fun J=>False
    |J,J2=>False
   |J=>False
  |J=>False
 |.sub o i=>@fun lc H K=>ev sp o lc H fun v H=>ev sp i lc H fun u H=>zQ1 v u H fun r=>qA8 r fun b=>K b H
 |.slice J J2 J3=>@fun J4 J5 J6=>False
 |.list J=>@fun J2 J3 J4=>False
 |.tup J=>@fun J2 J3 J4=>False
 |.dict J J2=>@fun J3 J4 J5=>False
 |.comp J J2 J3 J4 J5 J6=>@fun J7 J8 J9=>False
 )
noncomputable def cdb (sp:Sp) (w:Bool):Xs->Loc->AH->(Bool->AH->Prop)->Prop:=@fun ξ=>no_implicit_lambda%(match @ξ with
 |.nil=>@fun J H K=>K w H
 |.cons x xs=>@fun lc H K=>cd sp x lc H fun t H=>match w,t with
  |true,true=>cdb sp w xs lc H K
  |false,false=>cdb sp w xs lc H K
  |true,false=>K false H
  |false,true=>K true H
 )
end
noncomputable def zF4 (sp:Sp) (t:T1) (v:AV) (lc:Loc) (H:AH) (K:Loc->AH->Prop):Prop:=match t with
 |.loc x=>K (st lc x v) H
 |.attr o a=>ev sp o lc H fun u H=>match u with
  |.obj k=>match qQ0 H k with
   |.inst c fs=>match qJ3 (okA c) a,Nat.ble fs.length 40 with
    |true,true=>K lc (qX7 H k (.inst c (st fs a v)))
    |J,J2=>False
   |J=>False
  |J=>False
 |.sub o i=>ev sp o lc H fun u H=>ev sp i lc H fun j H=>match u,j with
  |.obj k,.str s=>match qQ0 H k with
   |.sd es=>es.length<50/\K lc (qX7 H k (.sd (stS es s v)))
   |J=>False
  |J,J2=>False
noncomputable def xQ8 (sp:Sp):List T1->List AV->Loc->AH->(Loc->AH->Prop)->Prop:=@fun ξ ξ2=>no_implicit_lambda%(match @ξ,@ξ2 with
 |[],[]=>@fun lc H K=>K lc H
 |t::ts,v::vs=>@fun lc H K=>zF4 sp t v lc H fun lc H=>xQ8 sp ts vs lc H K
 |J,J2=>@fun J3 J4 J5=>False
 )
noncomputable def asg (sp:Sp) (t:T) (v:AV) (lc:Loc) (H:AH) (K:Loc->AH->Prop):Prop:=match t with
 |.one t=>zF4 sp t v lc H K
 |.slice o lo hi=>ev sp o lc H fun u H=>ev sp lo lc H fun a H=>ev sp hi lc H fun b H=>match u,a,b,v with
  |.obj k,.int i,.int j,.obj l=>match qQ0 H k,qQ0 H l with
   |.il xs,.il ys=>0<=i/\i<=j/\j<=xs.length/\xs.length+ys.length<=10000/\K lc (qX7 H k (.il (xs.take i.toNat++ys++xs.drop j.toNat)))
   |J,J2=>False
  |J,J2,J3,J4=>False
 |.tup ts=>match v with
  |.obj k=>match qQ0 H k with
   |.tp vs=>match Nat.beq ts.length vs.length with|true=>xQ8 sp ts vs lc H K|false=>False
   |J=>False
  |J=>False
noncomputable def qE1 (body:Loc->AH->(Loc->AH->Prop)->Prop) (x k:Nat):Nat->Nat->Loc->AH->(Loc->AH->Prop)->Prop:=@fun ξ=>no_implicit_lambda%(match @ξ with
 |0=>@fun J J2 J3 J4=>False
 |n+1=>@fun i lc H K=>match qQ0 H k with
  |.il []=>K lc H
  |.vl xs=>match qU0 xs i with
   |some v=>body (st lc x v) H fun lc H=>qE1 body x k n (i+1) lc H K
   |none=>K lc H
  |J=>False
 )
noncomputable def wV8 (body:Loc->AH->(Loc->AH->Prop)->Prop) (x:Nat):List (List Nat×AV)->Loc->AH->(Loc->AH->Prop)->Prop:=@fun ξ=>no_implicit_lambda%(match @ξ with
 |[]=>@fun lc H K=>K lc H
 |e::r=>@fun lc H K=>body (st lc x (.str e.1)) H fun lc H=>wV8 body x r lc H K
 )
noncomputable def qM5 (body:Loc->AH->(Loc->AH->Prop)->Prop) (x:Nat) (m:Int):Nat->Int->Loc->AH->(Loc->AH->Prop)->Prop:=@fun ξ=>no_implicit_lambda%(match @ξ with
 |0=>@fun J J2 J3 J4=>False
 |n+1=>@fun i lc H K=>match decide (i<m) with
  |true=>body (st lc x (.int i)) H fun lc H=>qM5 body x m n (i+1) lc H K
  |false=>K lc H
 )
noncomputable def xV9 (cond:Loc->AH->(Bool->AH->Prop)->Prop) (body:Loc->AH->(Loc->AH->Prop)->Prop):Nat->Loc->AH->(Loc->AH->Prop)->Prop:=@fun ξ=>no_implicit_lambda%(match @ξ with
 |0=>@fun J J2 J3=>False
 |n+1=>@fun lc H K=>cond lc H fun t H=>match t with
  |true=>body lc H fun lc H=>xV9 cond body n lc H K
  |false=>K lc H
 )
mutual
noncomputable def ex (sp:Sp) (KE:AH->Prop) (KR:AV->AH->Prop):Y->Loc->AH->(Loc->AH->Prop)->Prop:=@fun ξ=>no_implicit_lambda%(match @ξ with
 |.expr e=>@fun lc H K=>ev sp e lc H fun J H=>K lc H
 |.asgn t e=>@fun lc H K=>ev sp e lc H fun v H=>asg sp t v lc H K
 |.asgc x e=>@fun lc H K=>ev sp e lc H fun v H=>K (st lc x v) H
 |.ret e=>@fun lc H J=>ev sp e lc H KR
 |.ret0=>@fun J H J2=>KR .none H
 |.ife c a b=>@fun lc H K=>cd sp c lc H fun t H=>match t with|true=>exs sp KE KR a lc H K|false=>exs sp KE KR b lc H K
 |.forl n x e body=>@fun lc H K=>ev sp e lc H fun v H=>match v with
  |.obj k=>match qQ0 H k with
   |.sd es=>wV8 (fun lc H K=>exs sp (fun J=>False) (fun J J=>False) body lc H K) x es lc (qX7 H k (.fd es)) fun lc H=>match qQ0 H k with|.fd J=>K lc (qX7 H k (.sd es))|J=>False
   |J=>qE1 (fun lc H K=>exs sp (fun J=>False) KR body lc H K) x k n 0 lc H K
  |J=>False
 |.forr n x e body=>@fun lc H K=>ev sp e lc H fun v H=>match v with
  |.int m=>0<=m/\m<=1000/\qM5 (fun lc H K=>exs sp (fun J=>False) KR body lc H K) x m n 0 lc H K
  |J=>False
 |.whl n c body=>@fun lc H K=>xV9 (fun lc H K=>cd sp c lc H K) (fun lc H K=>exs sp (fun J=>False) KR body lc H K) n lc H K
 |.whs c body=>@fun lc H K=>∃ I:Nat->Loc->AH->Prop,(∃ m,I m lc H)/\∀ m lc H,I m lc H->cd sp c lc H fun t H=>match t with
  |true=>exs sp (fun J=>False) KR body lc H fun lc H=>∃ m',m'<m/\I m' lc H
  |false=>K lc H
 |.raise J args=>@fun lc H J2=>evs sp args lc H fun J H=>KE H
 |.no=>@fun J J2 J3=>False
 )
noncomputable def exs (sp:Sp) (KE:AH->Prop) (KR:AV->AH->Prop):Ys->Loc->AH->(Loc->AH->Prop)->Prop:=@fun ξ=>no_implicit_lambda%(match @ξ with
 |.nil=>@fun lc H K=>K lc H
 |.cons s ss=>@fun lc H K=>ex sp KE KR s lc H fun lc H=>exs sp KE KR ss lc H K
 )
end
noncomputable def evF (sp:Sp) (ps:List Nat) (body:Ys) (args:List AV) (H:AH) (K:AV->AH->Prop) (KE:AH->Prop):Prop:=
 match Nat.beq ps.length args.length with
 |true=>exs sp KE K body (ps.zip args) H fun J H=>K .none H
 |false=>False
section
variable {P:Prop}
theorem qB8 {v:AV} {A:Nat->Prop} (h:match v with|.obj k=>A k|_=>False) (q:∀ k,v=.obj k->A k->P):P:=by
 cases v<;>first|exact False.elim h|exact q _ rfl h
theorem qT1 {v:AV} {A:Int->Prop} (h:match v with|.int k=>A k|_=>False) (q:∀ k,v=.int k->A k->P):P:=by
 cases v<;>first|exact False.elim h|exact q _ rfl h
theorem qS7 {o:AO} {A:Nat->Loc->Prop} (h:match o with|.inst c fs=>A c fs|_=>False) (q:∀ c fs,o=.inst c fs->A c fs->P):P:=by
 cases o<;>first|exact False.elim h|exact q _ _ rfl h
theorem qL5 {o:Option AV} {A:AV->Prop} (h:match o with|some a=>A a|none=>False) (q:∀ a,o=some a->A a->P):P:=by
 cases o<;>first|exact False.elim h|exact q _ rfl h
theorem xO2 {o:Option Addr} {A:Addr->Prop} (h:match o with|some a=>A a|none=>False) (q:∀ a,o=some a->A a->P):P:=by
 cases o<;>first|exact False.elim h|exact q _ rfl h
theorem xC5 {o:Option Addr} {A:Addr->Prop} (h:match o with|some a=>A a|_=>False) (q:∀ a,o=some a->A a->P):P:=by
 cases o<;>first|exact False.elim h|exact q _ rfl h
theorem zU0 {o:Option Int} {A:Int->Prop} (h:match o with|some a=>A a|none=>False) (q:∀ a,o=some a->A a->P):P:=by
 cases o<;>first|exact False.elim h|exact q _ rfl h
theorem zT3 {o:Option (Nat×Addr)} {A:Nat->Addr->Prop} (h:match o with|some (c,f)=>A c f|none=>False) (q:∀ c f,o=some (c,f)->A c f->P):P:=by
 cases o<;>first|exact False.elim h|exact q _ _ rfl h
set_option tactic.hygienic true in
theorem xQ7 {o:AO} {b:Bool} {A:Prop} (h:match o,b with|.sd [],true=>A|J,J2=>False) (q:o=.sd []->A->P):P:=by
 cases o<;>first|exact False.elim h|skip
 rename_i l
 cases l<;>first|exact False.elim h|skip
 cases b<;>first|exact False.elim h|exact q rfl h
theorem wP4 {v:AV} {A:Int->Prop} {B:Nat->Prop} (h:match true,v with|true,.int m=>A m|false,.obj k=>B k|J,J2=>False) (q:∀ m,v=.int m->A m->P):P:=by
 cases v<;>first|exact False.elim h|exact q _ rfl h
theorem xX7 {v:AV} {A:Int->Prop} {B:Nat->Prop} (h:match false,v with|true,.int m=>A m|false,.obj k=>B k|J,J2=>False) (q:∀ m,v=.obj m->B m->P):P:=by
 cases v<;>first|exact False.elim h|exact q _ rfl h
theorem qK3 {b:Bool} {A:Prop} (h:match b with|true=>A|false=>False) (q:b=true->A->P):P:=by
 cases b<;>first|exact False.elim h|exact q rfl h
theorem wY9 {o:AO} {A:List (List Nat×AV)->Prop} (h:match o with|.sd fs=>A fs|_=>False) (q:∀ fs,o=.sd fs->A fs->P):P:=by
 cases o<;>first|exact False.elim h|exact q _ rfl h
theorem xS1 {o:AO} {A:List Int->Prop} (h:match o with|.il fs=>A fs|_=>False) (q:∀ fs,o=.il fs->A fs->P):P:=by
 cases o<;>first|exact False.elim h|exact q _ rfl h
theorem xO7 {v:AV} {H:AH} {a:Nat} {A:AV->Prop} (h:match v with|.obj k=>(match qQ0 H k with|.inst c fs=>(match qJ3 (okA c) a with|true=>(match lk fs a with|some u=>A u|.none=>False)|false=>False)|_=>False)|_=>False)
  (q:∀ k c fs u,v=.obj k->qQ0 H k=.inst c fs->qJ3 (okA c) a=true->lk fs a=some u->A u->P):P:=
 qB8 h fun k e0 h=>qS7 h fun c fs e1 h=>qK3 h fun e2 h=>qL5 h fun u e3 h=>q k c fs u e0 e1 e2 e3 h
theorem xL1 {o:Option Addr} {o':Option AV} {A:Addr->Prop} (h:match o,o' with|some f,.none=>A f|J,J2=>False) (q:∀ f,o=some f->o'=none->A f->P):P:=by
 cases o<;>cases o'<;>first|exact False.elim h|exact q _ rfl rfl h
theorem zL7 {v:AV} {H:AH} {a:Nat} {A:Addr->Nat->Prop} (h:match v with|.obj k=>(match qQ0 H k with|.inst c fs=>(match mt c a,lk fs a with|some f,.none=>A f k|J,J2=>False)|_=>False)|_=>False)
  (q:∀ k c fs f,v=.obj k->qQ0 H k=.inst c fs->mt c a=some f->lk fs a=none->A f k->P):P:=
 qB8 h fun k e0 h=>qS7 h fun c fs e1 h=>xL1 h fun f e2 e3 h=>q k c fs f e0 e1 e2 e3 h
set_option tactic.hygienic true in
theorem zU1 {v:AV} {H:AH} {a:Nat} {A:Addr->Nat->Prop} {B B':Prop} (h:match v with
  |.obj k=>(match qQ0 H k with
   |.inst c fs=>(match mt c a,lk fs a with|some f,.none=>A f k|J,J2=>False)
   |.gp J=>(match mt 3 a with|some f=>A f k|_=>False)
   |_=>(match qS4 (qA4 v H) a with|true=>B|false=>False))
  |.str J=>(match qS4 3 a with|true=>B'|false=>False)
  |_=>False)
  (q1:∀ k c fs f,v=.obj k->qQ0 H k=.inst c fs->mt c a=some f->lk fs a=none->A f k->P) (q2:∀ k xs f,v=.obj k->qQ0 H k=.gp xs->mt 3 a=some f->A f k->P)
  (q3:qS4 (qA4 v H) a=true->B->P) (q4:∀ x,v=.str x->qS4 3 a=true->B'->P):P:=by
 cases v<;>first|exact False.elim h|exact qK3 h (q4 _ rfl)|skip
 rename_i k
 have key:∀{o:AO} (_:match o with
   |.inst c fs=>(match mt c a,lk fs a with|some f,.none=>A f k|J,J2=>False)
   |.gp J=>(match mt 3 a with|some f=>A f k|_=>False)
   |_=>(match qS4 (qA4 (.obj k) H) a with|true=>B|false=>False)),qQ0 H k=o->P:=fun {o} h e=>by
  cases o<;>first|exact qK3 h q3|exact xL1 h fun f e2 e3 h=>q1 _ _ _ f rfl e e2 e3 h|exact xC5 h fun f e3 h=>q2 _ _ f rfl e e3 h
 exact key h rfl
theorem zI6 {a b:AV} {A:Int->Int->Prop} (h:match a,b with|.int i,.int j=>A i j|J,J2=>False) (q:∀ i j,a=.int i->b=.int j->A i j->P):P:=by
 cases a<;>first|exact False.elim h|skip
 cases b<;>first|exact False.elim h|exact q _ _ rfl rfl h
theorem xM2 {a b:AO} {A:List Int->List Int->Prop} (h:match a,b with|.il xs,.il ys=>A xs ys|J,J2=>False) (q:∀ xs ys,a=.il xs->b=.il ys->A xs ys->P):P:=by
 cases a<;>first|exact False.elim h|skip
 cases b<;>first|exact False.elim h|exact q _ _ rfl rfl h
theorem zV3 {a b:AV} {H:AH} {A:Int->Int->Prop} {B:List Nat->List Nat->Prop} {C:Nat->Nat->List Int->List Int->Prop} (h:match a,b with
  |.int i,.int j=>A i j
  |.str s,.str t=>(match Nat.ble (s.length+t.length) 1000 with|true=>B s t|false=>False)
  |.obj k,.obj l=>(match qQ0 H k,qQ0 H l with|.il xs,.il ys=>C k l xs ys|J,J2=>False)
  |J,J2=>False) (q:∀ i j,a=.int i->b=.int j->A i j->P) (q2:∀ s t,a=.str s->b=.str t->Nat.ble (s.length+t.length) 1000=true->B s t->P)
  (q3:∀ k l xs ys,a=.obj k->b=.obj l->qQ0 H k=.il xs->qQ0 H l=.il ys->C k l xs ys->P):P:=by
 cases a<;>cases b<;>first|exact False.elim h|exact q _ _ rfl rfl h|exact qK3 h (q2 _ _ rfl rfl)|exact xM2 h fun xs ys=>q3 _ _ xs ys rfl rfl
set_option tactic.hygienic true in
theorem xS4 {a b:AV} {H:AH} {A:Nat->Int->Int->Prop} (h:match a,b with|.obj k,.int n=>(match qQ0 H k with|.il [x]=>A k n x|_=>False)|J,J2=>False)
  (q:∀ k n x,a=.obj k->b=.int n->qQ0 H k=.il [x]->A k n x->P):P:=by
 cases a<;>first|exact False.elim h|skip
 cases b<;>first|exact False.elim h|skip
 rename_i k n
 have key:∀{o:AO},(match o with|.il [x]=>A k n x|_=>False)->qQ0 H k=o->P:=fun {o} h e=>by
  cases o<;>first|exact False.elim h|skip
  rename_i l
  exact match l,h,e with|[],h,J=>False.elim h|[x],h,e=>q k n x rfl rfl e h|J::J2::J3,h,J4=>False.elim h
 exact key h rfl
theorem xL5 {a b:AV} {B:Bool->Prop} (h:match a,b with|.none,.none=>B true|J,.none=>B false|J,J2=>False) (q:∀ x,b=.none->(x=true↔a=.none)->B x->P):P:=by
 cases b<;>first|(cases a<;>exact False.elim h)|skip
 cases a<;>first|exact q _ rfl ⟨fun J=>rfl,fun J=>rfl⟩ h|exact q false rfl ⟨fun e=>nf e,fun e=>by injection e⟩ h
theorem zV0 {a b:AV} {H:AH} {A:List Nat->List (List Nat×AV)->Prop} (h:match a,b with|.str s,.obj k=>(match qQ0 H k with|.sd es=>A s es|_=>False)|J,J2=>False)
  (q:∀ s k es,a=.str s->b=.obj k->qQ0 H k=.sd es->A s es->P):P:=by
 cases a<;>first|exact False.elim h|skip
 cases b<;>first|exact False.elim h|skip
 exact wY9 h fun es=>q _ _ es rfl rfl
set_option tactic.hygienic true in
theorem xT6 {a b:AV} {A:Nat->List Nat->Prop} (h:match a,b with|.str [c],.str s=>A c s|J,J2=>False) (q:∀ c s,a=.str [c]->b=.str s->A c s->P):P:=by
 cases a<;>first|exact False.elim h|skip
 rename_i l
 match l,h,q with
 |[],h,J=>cases b<;>exact False.elim h
 |J::J2::J3,h,J4=>cases b<;>exact False.elim h
 |[c],h,q=>cases b<;>first|exact False.elim h|exact q _ _ rfl rfl h
theorem xJ7 {a b:Nat} {A:Prop} (h:match Nat.ble a b with|true=>A|false=>False) (q:a<=b->A->P):P:=qK3 h fun e=>q (Nat.le_of_ble_eq_true e)
theorem qV8 {a b:Nat} {A:Prop} (h:match Nat.beq a b with|true=>A|false=>False) (q:a=b->A->P):P:=qK3 h fun e=>q (Nat.eq_of_beq_eq_true e)
theorem yH5 {α:Type} {l:List α} {A:Prop} (h:match l with|[]=>A|J::J2=>False) (q:l=[]->A->P):P:=match l,h,q with|[],h,q=>q rfl h|J::J2,h,J3=>False.elim h
theorem yV8 {l:List AV} {A:Int->Prop} (h:match l with|[.int i]=>A i|_=>False) (q:∀ i,l=[.int i]->A i->P):P:=by
 cases l with
 |nil=>exact False.elim h
 |cons a r=>
  cases a<;>first|exact False.elim h|skip
  cases r<;>first|exact False.elim h|exact q _ rfl h
set_option tactic.hygienic true in
theorem xH0 {a:AV} {H:AH} {K:AV->AH->Prop} (h:yH7 a H K) (q1:∀ k xs,a=.obj k->qQ0 H k=.il xs∨qQ0 H k=.fl xs->K (.int xs.length) H->P) (q2:∀ k xs,a=.obj k->qQ0 H k=.vl xs->K (.int xs.length) H->P)
  (q3:∀ s,a=.str s->s.length<=1000->K (.int s.length) H->P):P:=by
 cases a<;>first|exact False.elim h|exact xJ7 h (q3 _ rfl)|skip
 rename_i k
 have key:∀{o:AO},(match o with|.il xs=>K (.int xs.length) H|.fl xs=>K (.int xs.length) H|.vl xs=>K (.int xs.length) H|_=>False)->qQ0 H k=o->P:=fun {o} h e=>by
  cases o<;>first|exact False.elim h|exact q1 _ _ rfl (.inl e) h|exact q1 _ _ rfl (.inr e) h|exact q2 _ _ rfl e h
 exact key h rfl
theorem xE8 {a:AV} {H:AH} {K:AV->AH->Prop} (h:yY1 a H K) (q1:∀ k xs,a=.obj k->qQ0 H k=.il xs->K (.obj H.length) (H++[.il xs])->P) (q2:∀ k xs,a=.obj k->qQ0 H k=.vl xs->K (.obj H.length) (H++[.vl xs])->P):P:=by
 refine qB8 h fun k e0 h=>?_
 have key:∀{o:AO},(match o with|.il xs=>K (.obj H.length) (H++[.il xs])|.vl xs=>K (.obj H.length) (H++[.vl xs])|_=>False)->qQ0 H k=o->P:=fun {o} h e=>by
  cases o<;>first|exact False.elim h|exact q1 _ _ e0 e h|exact q2 _ _ e0 e h
 exact key h rfl
theorem zW6 {o:Option (List (List Nat))} {A:List (List Nat)->Prop} (h:match o with|some a=>A a|none=>False) (q:∀ a,o=some a->A a->P):P:=by
 cases o<;>first|exact False.elim h|exact q _ rfl h
set_option tactic.hygienic true in
theorem xG5 {a:AV} {H:AH} {K:AV->AH->Prop} (h:yD6 a H K) (q1:∀ k,a=.obj k->qQ0 H k=.il []->K (.obj H.length) (H++[.il []])->P) (q2:∀ k,a=.obj k->qQ0 H k=.sd []->K (.obj H.length) (H++[.il []])->P)
  (q3:∀ k xs ss,a=.obj k->qQ0 H k=.vl xs->qB4 xs=some ss->ss.length<=50->K (.obj H.length) (H++[.vl ((qB7 ss).map .str)])->P):P:=by
 refine qB8 h fun k e0 h=>?_
 have key:∀{o:AO},(match o with
   |.il l=>(match l with|[]=>K (.obj H.length) (H++[.il []])|J::J2=>False)
   |.sd l=>(match l with|[]=>K (.obj H.length) (H++[.il []])|J::J2=>False)
   |.vl xs=>(match qB4 xs with|some ss=>(match Nat.ble ss.length 50 with|true=>K (.obj H.length) (H++[.vl ((qB7 ss).map .str)])|false=>False)|none=>False)
   |_=>False)->qQ0 H k=o->P:=fun {o} h e=>by
  cases o<;>first|exact False.elim h|exact zW6 h fun ss e1 h=>xJ7 h fun e2 h=>q3 k _ ss e0 e e1 e2 h|skip
  all_goals
   rename_i l
   cases l<;>first|exact False.elim h|exact q1 k e0 e h|exact q2 k e0 e h
 exact key h rfl
set_option tactic.hygienic true in
theorem wD1 {v:AV} {A:Nat->Prop} (h:yD7 v A) (q:∀ c,v=.str [c]->A c->P):P:=by
 cases v<;>first|exact False.elim h|skip
 rename_i l
 exact match l,h,q with|[],h,J=>False.elim h|[c],h,q=>q c rfl h|J::J2::J3,h,J4=>False.elim h
theorem zH8 {v:AV} (h:isZ v=true):v=.int 0:=by
 cases v<;>first|exact nf h|exact congrArg _ (of_decide_eq_true h)
theorem xU5 {v:AV} {A:List Nat->Prop} (h:match v with|.str s=>A s|_=>False) (q:∀ s,v=.str s->A s->P):P:=by
 cases v<;>first|exact False.elim h|exact q _ rfl h
set_option tactic.hygienic true in
theorem zX8 {a k:Nat} {v:AV} {H:AH} {K:AV->AH->Prop} (h:bm1 a k v H K) (q1:a=qZ9->qQ0 H k=.il []->K .none (qX7 H k (mkL [v]))->P) (q2:∀ x xs,a=qU1->v=.int 0->qQ0 H k=.il (x::xs)->K (.int x) (qX7 H k (.il xs))->P)
  (q3:∀ xs,a=qZ9->qQ0 H k=.vl xs->xs.length<=100->K .none (qX7 H k (.vl (xs++[v])))->P) (q4:∀ es s u,a=qU1->v=.str s->qQ0 H k=.sd es->lkS es s=some u->K u (qX7 H k (.sd (es.filter fun e=>!eqL e.1 s)))->P):P:=by
 have key:∀{o:AO},(match o with
   |.il l=>(match l with
    |[]=>(match Nat.beq a qZ9 with|true=>K .none (qX7 H k (mkL [v]))|false=>False)
    |x::xs=>(match Nat.beq a qU1 with|true=>(match isZ v with|true=>K (.int x) (qX7 H k (.il xs))|false=>False)|false=>False))
   |.vl xs=>(match Nat.beq a qZ9 with|true=>xs.length<=100/\K .none (qX7 H k (.vl (xs++[v])))|false=>False)
   |.sd es=>(match Nat.beq a qU1 with|true=>(match (generalizing:=false) v with|.str s=>(match lkS es s with|some u=>K u (qX7 H k (.sd (es.filter fun e=>!eqL e.1 s)))|none=>False)|_=>False)|false=>False)
   |_=>False)->qQ0 H k=o->P:=fun {o} h e=>by
  cases o<;>first|exact False.elim h|exact qV8 h fun e1 h=>q3 _ e1 e h.1 h.2|skip
  all_goals rename_i l
  rotate_left
  ·exact qV8 h fun e1 h=>xU5 h fun s e2 h=>qL5 h fun u e3 h=>q4 _ s u e1 e2 e e3 h
  exact match l,h,e with
   |[],h,e=>qV8 h fun e1 h=>q1 e1 e h
   |x::xs,h,e=>qV8 h fun e1 h=>qK3 h fun e2 h=>q2 x xs e1 (zH8 e2) e h
 exact key (o:=qQ0 H k) h rfl
theorem zK7 {a k:Nat} {v w:AV} {H:AH} {K:AV->AH->Prop} (h:bm2 a k v w H K) (q:∀ es s,a=xI7->v=.str s->w=.none->qQ0 H k=.sd es->K (match lkS es s with|some u=>u|none=>.none) H->P):P:=by
 refine qV8 h fun e h=>?_
 cases v<;>first|exact False.elim h|skip
 cases w<;>first|exact False.elim h|exact wY9 h fun es e2 h=>q es _ e rfl rfl e2 h
theorem xU6 {o i:AV} {H:AH} {K:AV->Prop} (h:zQ1 o i H K) (q1:∀ k j xs,o=.obj k->i=.int j->qQ0 H k=.il xs->(-(xs.length:Int)<=j/\j<xs.length/\K (.int (xs.getD (if j<0 then (j+xs.length).toNat else j.toNat) 0)))->P)
  (q2:∀ k s es v,o=.obj k->i=.str s->qQ0 H k=.sd es->lkS es s=some v->K v->P):P:=by
 cases o<;>cases i<;>first|exact False.elim h|exact xS1 h fun xs=>q1 _ _ xs rfl rfl|exact wY9 h fun es e h=>qL5 h fun u e3 h=>q2 _ _ es u rfl rfl e e3 h
theorem xL8 {o:Option (List Int)} {A:List Int->Prop} (h:match o with|some a=>A a|none=>False) (q:∀ a,o=some a->A a->P):P:=by
 cases o<;>first|exact False.elim h|exact q _ rfl h
theorem zU4 {o:Option (List Nat)} {A:List Nat->Prop} (h:match o with|some a=>A a|none=>False) (q:∀ a,o=some a->A a->P):P:=by
 cases o<;>first|exact False.elim h|exact q _ rfl h
set_option tactic.hygienic true in
theorem zL2 {o lo hi:AV} {H:AH} {K:AV->AH->Prop} (h:qN6 o lo hi H K) (q1:∀ k xs ys,o=.obj k->qQ0 H k=.il xs∨qQ0 H k=.fl xs->cut xs lo hi=some ys->K (.obj H.length) (H++[.il ys])->P)
  (q2:∀ s t,o=.str s->xA1 s lo hi=some t->K (.str t) H->P):P:=by
 cases o<;>first|exact False.elim h|exact zU4 h fun t e h=>q2 _ t rfl e h|skip
 rename_i k
 have key:∀{o:AO},(match o with
   |.il xs=>(match cut xs lo hi with|some ys=>K (.obj H.length) (H++[.il ys])|none=>False)
   |.fl xs=>(match cut xs lo hi with|some ys=>K (.obj H.length) (H++[.il ys])|none=>False)
   |_=>False)->qQ0 H k=o->P:=fun {o} h e=>by
  cases o<;>first|exact False.elim h|exact xL8 h fun ys=>q1 k _ ys rfl (.inl e)|exact xL8 h fun ys=>q1 k _ ys rfl (.inr e)
 exact key h rfl
set_option tactic.hygienic true in
theorem xV3 {H:AH} {a b:AV} {r:Bool} (e:vEq H a b=some r) (q0:a=.none->b=.none->true=r->P) (q1:∀ i j,a=.int i->b=.int j->decide (i=j)=r->P)
  (q2:∀ i j,a=.bool i->b=.bool j->(match i,j with|true,true=>true|false,false=>true|J,J2=>false)=r->P) (q3:∀ s t,a=.str s->b=.str t->eqL s t=r->P)
  (q4:∀ k l xs ys,a=.obj k->b=.obj l->qQ0 H k=.il xs->qQ0 H l=.il ys->decide (xs=ys)=r->P):P:=by
 cases a<;>cases b<;>first|(injection e;done)|exact q0 rfl rfl (Option.some.inj e)|exact q1 _ _ rfl rfl (Option.some.inj e)|exact q2 _ _ rfl rfl (Option.some.inj e)|exact q3 _ _ rfl rfl (Option.some.inj e)|skip
 rename_i k l
 have key:∀{o o':AO},(match o,o' with|.il xs,.il ys=>some (decide (xs=ys))|J,J2=>none)=some r->qQ0 H k=o->qQ0 H l=o'->P:=fun {o o'} h e e'=>by
  cases o<;>first|(injection h;done)|skip
  cases o'<;>first|(injection h;done)|exact q4 _ _ _ _ rfl rfl e e' (Option.some.inj h)
 exact key e rfl rfl
theorem zG8 {b r:Bool} {o:Option Bool} (h:(match b with|true=>o|false=>none)=some r) (q:b=true->o=some r->P):P:=by
 cases b<;>first|(injection h;done)|exact q rfl h
set_option tactic.hygienic true in
theorem zV2 {H:AH} {a b:AV} {r:Bool} (e:sEq H a b=some r) (q1:∀ k l xs ys,a=.obj k->b=.obj l->qQ0 H k=.vl xs->qQ0 H l=.vl ys->qM0 xs=true->wO8 H xs ys=some r->P) (q2:vEq H a b=some r->P):P:=by
 cases a<;>first|(injection e;done)|exact q2 e|skip
 rename_i k
 cases b<;>first|(injection e;done)|skip
 rename_i l
 have key:∀{o o':AO},(match o,o' with|.vl xs,.vl ys=>(match qM0 xs with|true=>wO8 H xs ys|false=>none)|J,J2=>vEq H (.obj k) (.obj l))=some r->qQ0 H k=o->qQ0 H l=o'->P:=fun {o o'} h e e'=>by
  cases o<;>first|exact q2 h|skip
  cases o'<;>first|exact q2 h|skip
  exact zG8 h fun e2 h=>q1 k l _ _ rfl rfl e e' e2 h
 exact key e rfl rfl
theorem xT5 {o o':Option Bool} {r:Bool} (e:(match o,o' with|some p,some q=>some (match p with|true=>q|false=>false)|J,J2=>none)=some r) (q:∀ x y,o=some x->o'=some y->(match x with|true=>y|false=>false)=r->P):P:=by
 cases o<;>first|(injection e;done)|skip
 cases o'<;>first|(injection e;done)|exact q _ _ rfl rfl (Option.some.inj e)
end
end Mine
end
section
namespace Mine
noncomputable abbrev Xs.k:=Xs.cons
noncomputable abbrev Xs.n:=Xs.nil
noncomputable abbrev Ys.k:=Ys.cons
noncomputable abbrev Ys.n:=Ys.nil
noncomputable abbrev X.l:=X.loc
noncomputable abbrev T1.l:=T1.loc
noncomputable abbrev X.t:=X.attr
noncomputable abbrev T1.t:=T1.attr
noncomputable abbrev X.m:=X.meth
noncomputable abbrev Y.e:=Y.expr
noncomputable abbrev Y.g:=Y.asgn
noncomputable abbrev Y.r:=Y.raise
noncomputable abbrev F0:X:=.l 199
noncomputable abbrev F1:X:=.l 153
noncomputable abbrev F2:X:=.str [102,105,108,101,45,101,114,114,111,114]
noncomputable abbrev F3:X:=.l 52
noncomputable abbrev F4:X:=.int 1
noncomputable abbrev F5:X:=.str [78,111,32,115,117,99,104,32,102,105,108,101,32,111,114,32,100,105,114,101,99,116,111,114,121]
noncomputable abbrev F6:X:=.l 186
noncomputable abbrev F7:X:=.str [116,101,120,116]
noncomputable abbrev F8:X:=.bi 0 (.k (.l 58) .n)
noncomputable abbrev F9:X:=.str [112,111,105,110,116]
noncomputable abbrev F10:X:=.str [99,104,97,110,103,101,100]
noncomputable abbrev F11:X:=.list (.k (.str [73,115,32,97,32,100,105,114,101,99,116,111,114,121]) (.k F1 .n))
noncomputable abbrev F12:X:=.str [47]
noncomputable abbrev F13:X:=.l 234
noncomputable abbrev F14:X:=.str [102,105,108,101,45,109,105,115,115,105,110,103]
noncomputable abbrev F15:X:=.str [117,110,115,97,118,101,100]
noncomputable abbrev F16:X:=.str [97,115,105,100,101]
noncomputable abbrev F17:X:=.l 87
noncomputable abbrev F18:X:=.str [102,105,108,101,45,97,108,114,101,97,100,121,45,101,120,105,115,116,115]
noncomputable abbrev F19:X:=.str [70,105,108,101,32,97,108,114,101,97,100,121,32,101,120,105,115,116,115]
noncomputable abbrev F20:X:=.bi 0 (.k (.l 167) .n)
noncomputable abbrev F21:X:=.l 175
noncomputable abbrev F22:X:=.l 212
noncomputable abbrev F23:X:=.t (.l 172) 153
noncomputable abbrev F24:X:=.int 0
noncomputable abbrev F25:X:=.cmp .eq (.t F17 206) (.glob 3)
noncomputable abbrev F26:X:=.and (.k (.cmp .isnot F17 .none) (.k (.cmp .eq (.t F17 206) (.glob 9)) .n))
noncomputable abbrev F27:X:=.l 72
noncomputable abbrev F28:X:=.str [111,116,104,101,114,115]
noncomputable abbrev F29:X:=.list .n
noncomputable abbrev F30:X:=.l 244
noncomputable abbrev F31:X:=.str [102,105,108,101]
noncomputable abbrev F32:X:=.t F0 89
noncomputable abbrev F33:X:=.t F0 74
noncomputable def b35:Ys:=(.k (.g (.one (.t F0 216)) (.l 216))
 (.k (.g (.one (.t F0 62)) (.l 62))
 .n))
noncomputable def b48:Ys:=(.k (.ife (.t F3 114) (.k (.r 10 (.k (.str [98,117,102,102,101,114,45,114,101,97,100,45,111,110,108,121]) (.k (.list (.k (.t F3 153) .n)) .n)))
 .n) .n)
 .n)
noncomputable def b55:Ys:=(.k (.g (.tup [(.l 137),(.l 95)]) (.tup (.k (.bi 1 (.k F22 (.k F27 .n))) (.k (.bi 2 (.k F22 (.k F27 .n))) .n))))
 (.k (.ife (.or (.k (.cmp .lt (.l 137) (.t F3 51)) (.k (.cmp .gt (.l 95) (.t F3 254)) .n))) (.k (.r 10 (.k (.str [97,114,103,115,45,111,117,116,45,111,102,45,114,97,110,103,101]) (.k (.list (.k F22 (.k F27 .n))) .n)))
 .n) .n)
 (.k (.ret (.tup (.k (.l 137) (.k (.l 95) .n))))
 .n)))
noncomputable def b62:Ys:=(.k (.forl 20 134 (.bi 3 (.k (.t F3 135) .n)) (.k (.e (.m (.l 134) 48 (.k F3 (.k F22 (.k F27 .n)))))
 .n))
 .n)
noncomputable def b69:Ys:=(.k (.e (.m F3 233 (.k (.bool true) .n)))
 (.k (.forl 20 134 (.bi 3 (.k (.t F3 135) .n)) (.k (.e (.m (.l 134) 34 (.k F3 (.k F22 (.k F27 (.k (.l 168) .n))))))
 .n))
 .n))
noncomputable def b76:Ys:=(.k (.ife (.cmp .isnot (.t F3 238) .none) (.k (.e (.m (.t F3 238) 225 (.k F3 (.k F22 (.k F27 .n)))))
 .n) .n)
 (.k (.g (.one (.l 91)) (.m (.t F3 222) 65 (.k (.bin .sub F22 F4) (.k (.bin .sub F27 F4) .n))))
 (.k (.g (.one (.t F3 254)) (.bin .sub (.t F3 254) (.bin .sub F27 F22)))
 (.k (.ife (.cmp .gt (.t F3 176) F22) (.k (.g (.one (.t F3 176)) (.bi 2 (.k F22 (.k (.bin .sub (.t F3 176) (.bin .sub F27 F22)) .n))))
 .n) .n)
 (.k (.ret (.l 91))
 .n)))))
noncomputable def b83:Ys:=(.k (.ife (.cmp .isnot (.t F3 238) .none) (.k (.e (.m (.t F3 238) 224 (.k F3 (.k F21 (.k F8 .n)))))
 .n) .n)
 (.k (.e (.m (.t F3 222) 99 (.k (.bin .sub F21 F4) (.k (.l 58) .n))))
 (.k (.g (.one (.t F3 254)) (.bin .add (.t F3 254) F8))
 (.k (.ife (.cmp .gt (.t F3 176) F21) (.k (.g (.one (.t F3 176)) (.bin .add (.t F3 176) F8))
 .n) .n)
 .n))))
noncomputable def b90:Ys:=(.k (.ife (.cmp .isnot (.t F3 179) .none) (.k (.e (.m (.t F3 179) 226 (.k (.bin .sub F22 F4) (.k (.bin .sub F27 F4) .n))))
 .n) .n)
 (.k (.ife (.cmp .isnot (.t F3 171) .none) (.k (.e (.m (.t F3 171) 226 (.k (.bin .sub F22 F4) (.k (.bin .sub F27 F4) .n))))
 .n) .n)
 .n))
noncomputable def b97:Ys:=(.k (.ife (.cmp .isnot (.t F3 179) .none) (.k (.e (.m (.t F3 179) 223 (.k (.bin .sub F21 F4) (.k (.l 143) .n))))
 .n) .n)
 (.k (.ife (.cmp .isnot (.t F3 171) .none) (.k (.e (.m (.t F3 171) 223 (.k (.bin .sub F21 F4) (.k (.l 143) (.k (.l 49) .n)))))
 .n) .n)
 .n))
noncomputable def yU8:Ys:=(.k (.e (.call 159 (.k F3 .n)))
 (.k (.e (.call 184 (.k F3 (.k F21 (.k F21 .n)))))
 (.k (.ife (.cmp .eq F8 F24) (.k .ret0
 .n) .n)
 (.k (.e (.call 220 (.k F3 (.k F21 (.k F21 .n)))))
 (.k (.e (.call 227 (.k F3 (.k F21 (.k (.l 58) .n)))))
 (.k (.ife (.l 112) (.k (.g (.one (.t F3 176)) (.bin .add F21 F8))
 .n) .n)
 (.k (.e (.m (.t F3 146) 101 (.k F21 (.k (.bin .add F21 F8) (.k (.l 49) .n)))))
 (.k (.e (.call 97 (.k F3 (.k F21 (.k F8 (.k (.l 49) .n))))))
 (.k (.e (.call 221 (.k F3 (.k F21 (.k (.bin .add F21 F8) (.k F24 .n))))))
 .n)))))))))
noncomputable def yA3:Ys:=(.k (.e (.call 181 (.k F3 (.k F21 (.k (.l 58) (.k (.l 49) (.k (.bool false) .n)))))))
 .n)
noncomputable def yN5:Ys:=(.k (.e (.call 159 (.k F3 .n)))
 (.k (.g (.tup [(.l 137),(.l 95)]) (.call 184 (.k F3 (.k F22 (.k F27 .n)))))
 (.k (.ife (.cmp .eq (.l 137) (.l 95)) (.k (.ret F29)
 .n) .n)
 (.k (.e (.call 220 (.k F3 (.k (.l 137) (.k (.l 95) .n)))))
 (.k (.g (.one (.l 91)) (.call 228 (.k F3 (.k (.l 137) (.k (.l 95) .n)))))
 (.k (.e (.m (.t F3 146) 66 (.k (.l 137) (.k (.l 95) .n))))
 (.k (.e (.call 98 (.k F3 (.k (.l 137) (.k (.l 95) .n)))))
 (.k (.e (.call 221 (.k F3 (.k (.l 137) (.k (.l 137) (.k (.bin .sub (.l 95) (.l 137)) .n))))))
 (.k (.ret (.l 91))
 .n)))))))))
noncomputable def yR5:Ys:=(.k (.e (.call 159 (.k F3 .n)))
 (.k (.g (.tup [(.t F3 51),(.t F3 254)]) (.tup (.k F4 (.k (.bin .add (.m F3 205 .n) F4) .n))))
 (.k (.ret (.call 65 (.k F3 (.k (.t F3 51) (.k (.t F3 254) .n)))))
 .n)))
noncomputable def jX1:Ys:=(.k (.g (.one (.l 72)) (.m F1 192 (.k F12 .n)))
 (.k (.ret (.ite (.cmp .lt F27 F24) .none (.slice F1 .none (.bin .add F27 F4))))
 .n))
noncomputable def jJ4:Ys:=(.k (.ret (.slice F1 (.bin .add (.m F1 192 (.k F12 .n)) F4) .none))
 .n)
noncomputable def jK2:Ys:=(.k (.ife (.cmp .eq F1 (.str [])) (.k (.ret (.str [46,47]))
 .n) .n)
 (.k (.ret (.ite (.cmp .eq (.slice F1 (.neg F4) .none) F12) F1 (.bin .add F1 F12)))
 .n))
noncomputable def jA2:Ys:=(.k (.g (.one (.l 72)) (.bi 0 (.k F1 .n)))
 (.k (.whl 20 (.and (.k (.cmp .gt F27 F4) (.k (.cmp .eq (.sub F1 (.bin .sub F27 F4)) F12) .n))) (.k (.g (.one (.l 72)) (.bin .sub F27 F4))
 .n))
 (.k (.ret (.slice F1 .none F27))
 .n)))
noncomputable def jV0:Ys:=(.k (.ife (.or (.k (.cmp .eq F1 (.str [126])) (.k (.cmp .eq (.slice F1 .none (.int 2)) (.str [126,47])) .n))) (.k (.ret (.ite (.cmp .ne (.call 38 (.k (.l 96) .n)) F12) (.bin .add (.call 38 (.k (.l 96) .n)) (.slice F1 F4 .none)) (.bin .add F12 (.slice F1 (.int 2) .none))))
 .n) .n)
 (.k (.ret F1)
 .n))
noncomputable def jK3:Ys:=(.k (.g (.one (.l 87)) F29)
 (.k (.forl 20 213 (.m F1 210 (.k F12 .n)) (.k (.ife (.cmp .eq (.l 213) (.str [46,46])) (.k (.g (.one (.l 87)) (.slice F17 .none (.neg F4)))
 .n) (.k (.ife (.and (.k (.cmp .ne (.l 213) (.str [])) (.k (.cmp .ne (.l 213) (.str [46])) .n))) (.k (.e (.m F17 35 (.k (.l 213) .n)))
 .n) .n)
 .n))
 .n))
 (.k (.ret F17)
 .n)))
noncomputable def jK9:Ys:=(.k (.g (.one (.l 244)) (.call 247 (.k F1 (.k (.l 96) .n))))
 (.k (.ife (.cmp .ne (.slice F30 .none F4) F12) (.k (.g (.one (.l 47)) (.call 247 (.k (.l 67) (.k (.l 96) .n))))
 (.k (.ife (.cmp .ne (.slice (.l 47) .none F4) F12) (.k (.g (.one (.l 47)) (.bin .add F12 (.l 47)))
 .n) .n)
 (.k (.g (.one (.l 244)) (.bin .add (.call 37 (.k (.l 47) .n)) F30))
 .n))) .n)
 (.k (.g (.one (.l 87)) (.bin .add F12 (.m F12 120 (.k (.call 214 (.k F30 .n)) .n))))
 (.k (.ife (.and (.k (.cmp .ne F17 F12) (.k (.cmp .eq (.slice F1 (.neg F4) .none) F12) .n))) (.k (.ret (.bin .add F17 F12))
 .n) .n)
 (.k (.ret F17)
 .n)))))
noncomputable def jJ5:Ys:=(.k (.ret (.bin .add F1 (.str [126])))
 .n)
noncomputable def jK7:Ys:=(.k (.ret (.bin .add (.bin .add (.bin .add F1 (.str [46,126])) .bad) (.str [126])))
 .n)
noncomputable def yT3:Ys:=(.k (.g (.one (.l 94)) (.bin .add F1 (.str [46,126])))
 (.k (.ife (.or (.k (.cmp .ne (.slice (.l 170) .none (.bi 0 (.k (.l 94) .n))) (.l 94)) (.k (.cmp .ne (.slice (.l 170) (.neg F4) .none) (.str [126])) .n))) (.k (.ret F24)
 .n) .n)
 (.k (.g (.one (.l 80)) (.slice (.l 170) (.bi 0 (.k (.l 94) .n)) (.bin .sub (.bi 0 (.k (.l 170) .n)) F4)))
 (.k (.ife (.or (.k (.cmp .eq (.l 80) (.str [])) (.k (.cmp .gt (.bi 0 (.k (.l 80) .n)) (.int 9)) (.k (.cmp .eq (.sub (.l 80) F24) (.str [48])) .n)))) (.k (.ret F24)
 .n) .n)
 (.k (.g (.one (.l 87)) F24)
 (.k (.forl 20 204 (.l 80) (.k (.ife (.cmp .nin (.l 204) (.glob 2)) (.k (.ret F24)
 .n) .n)
 (.k (.g (.one (.l 87)) (.bin .add (.bin .mul (.int 10) F17) (.m (.glob 2) 83 (.k (.l 204) .n))))
 .n)))
 (.k (.ret F17)
 .n)))))))
noncomputable def jX3:Ys:=(.k (.g (.one (.l 172)) (.call 127 (.k F1 .n)))
 (.k (.ret (.bin .add (.bin .add (.bin .add (.slice F1 .none (.bin .sub (.bi 0 (.k F1 .n)) (.bi 0 (.k (.l 172) .n)))) (.str [35])) (.l 172)) (.str [35])))
 .n))
noncomputable def jJ9:Ys:=(.k (.g (.one (.t F0 242)) (.l 242))
 (.k (.g (.one (.t F0 46)) (.l 46))
 (.k (.g (.one (.t F0 104)) (.l 104))
 (.k (.g (.one (.t F0 169)) (.l 169))
 (.k (.g (.one (.t F0 161)) (.l 161))
 (.k (.g (.one (.t F0 113)) (.l 113))
 .n))))))
noncomputable def jW4:Ys:=(.k (.g (.one (.l 67)) (.call 68 (.k F1 .n)))
 (.k (.g (.one (.l 172)) (.call 127 (.k F1 .n)))
 (.k (.g (.one (.l 87)) F29)
 (.k (.forl 20 170 (.m F13 133 (.k (.ite (.cmp .eq (.l 67) F12) F12 (.slice (.l 67) .none (.neg F4))) .n)) (.k (.g (.one (.l 163)) (.call 44 (.k (.l 172) (.k (.l 170) .n))))
 (.k (.ife (.cmp .gt (.l 163) F24) (.k (.e (.m F17 35 (.k (.l 163) .n)))
 .n) .n)
 .n)))
 (.k (.ret (.bi 4 (.k F17 .n)))
 .n)))))
noncomputable def yN6:Ys:=(.k (.ife (.cmp .eq (.t (.l 142) 46) (.glob 14)) (.k (.ret (.tup (.k (.str []) (.k F29 .n))))
 .n) .n)
 (.k (.g (.one (.l 165)) (.call 166 (.k F13 (.k F1 .n))))
 (.k (.ife (.or (.k (.cmp .eq (.t (.l 142) 46) (.glob 18)) (.k (.and (.k (.cmp .eq (.t (.l 142) 46) (.glob 0)) (.k (.cmp .eq (.l 165) F29) .n))) .n))) (.k (.ret (.tup (.k (.call 43 (.k F1 .n)) (.k F29 .n))))
 .n) .n)
 (.k (.g (.one (.l 163)) (.ite (.cmp .ne (.l 165) F29) (.bin .add (.sub (.l 165) (.neg F4)) F4) F4))
 (.k (.g (.one (.l 77)) (.bin .add (.l 165) (.list (.k (.l 163) .n))))
 (.k (.g (.one (.l 126)) (.bi 2 (.k (.t (.l 142) 169) (.k (.bin .sub (.bi 0 (.k (.l 77) .n)) (.bi 2 (.k F4 (.k (.t (.l 142) 161) .n)))) .n))))
 (.k (.ret (.tup (.k (.call 164 (.k F1 (.k (.l 163) .n))) (.k .bad .n))))
 .n)))))))
noncomputable def yP4:Ys:=(.k (.g (.tup [(.l 170),(.l 79)]) (.call 45 (.k F13 (.k F1 (.k (.l 142) .n)))))
 (.k (.ife (.cmp .eq (.l 170) (.str [])) (.k (.ret (.str []))
 .n) .n)
 (.k (.ife (.or (.k (.t (.l 142) 104) (.k (.t (.l 142) 113) (.k (.cmp .isnot (.m F13 131 (.k F1 .n)) .none) .n)))) (.k (.e (.m F13 61 (.k F1 (.k (.l 170) (.k (.bool true) .n)))))
 .n) (.k (.e (.m F13 189 (.k F1 (.k (.l 170) (.k (.bool true) .n)))))
 .n))
 (.k (.forl 20 172 (.l 79) (.k (.e (.m F13 65 (.k (.l 172) .n)))
 .n))
 (.k (.ret (.l 170))
 .n)))))
noncomputable def jA0:Ys:=(.k (.forr 3 163 (.int 1000) (.k (.g (.one (.l 87)) (.bin .add (.bin .add F1 (.str [46,116,109,112])) .bad))
 (.k (.ife (.not (.m F13 117 (.k F17 .n))) (.k (.ret F17)
 .n) .n)
 .n)))
 (.k (.ret (.bin .add F1 (.str [46,116,109,112])))
 .n))
noncomputable def jY4:Ys:=(.k (.g (.one (.l 208)) (.call 209 (.k F13 (.k F1 .n))))
 (.k (.e (.m F13 250 (.k (.l 208) (.k (.l 58) .n))))
 (.k (.e (.m F13 189 (.k (.l 208) (.k F1 (.k (.bool true) .n)))))
 .n)))
noncomputable def yR9:Ys:=(.k (.g (.one (.l 138)) (.l 102))
 (.k (.ife (.and (.k (.not (.l 102)) (.k (.m F13 111 (.k F1 .n)) .n))) (.k (.g (.one (.l 138)) (.or (.k (.cmp .ne (.call 139 (.k F13 (.k F1 (.k (.l 142) .n)))) (.str [])) (.k (.cmp .eq (.t (.l 142) 46) (.glob 14)) .n))))
 .n) .n)
 (.k (.ife (.and (.k (.t (.l 142) 113) (.k (.cmp .is (.m F13 131 (.k F1 .n)) .none) .n))) (.k (.e (.call 253 (.k F13 (.k F1 (.k (.l 58) .n)))))
 .n) (.k (.e (.m F13 250 (.k F1 (.k (.l 58) .n))))
 .n))
 (.k (.ret (.l 138))
 .n))))
noncomputable def yS6:Ys:=(.k (.e (.m F13 250 (.k (.call 41 (.k F1 .n)) (.k (.l 58) .n))))
 .n)
noncomputable def yR6:Ys:=(.k (.ife (.m F13 117 (.k (.call 41 (.k F1 .n)) .n)) (.k (.e (.m F13 65 (.k (.call 41 (.k F1 .n)) .n)))
 .n) .n)
 .n)
noncomputable def yU0:Ys:=(.k (.g (.one (.t F0 153)) F1)
 (.k (.g (.one (.t F0 235)) (.l 235))
 (.k (.g (.one (.t F0 211)) (.l 211))
 (.k (.g (.one (.t F0 102)) (.bool false))
 (.k (.g (.one (.t F0 42)) F24)
 .n)))))
noncomputable def jQ8:Ys:=(.k (.ret (.m F3 58 (.k F4 (.k (.bin .add (.m F3 205 .n) F4) .n))))
 .n)
noncomputable def yN8:Ys:=(.k (.g (.one (.l 85)) (.t F3 114))
 (.k (.g (.one (.t F3 114)) (.bool false))
 (.k (.e (.call 76 (.k F3 .n)))
 (.k (.e (.call 100 (.k F3 (.k F4 (.k (.l 58) .n)))))
 (.k (.g (.one (.t F3 114)) (.l 85))
 .n)))))
noncomputable def jX0:Ys:=(.k (.ife (.m F13 106 (.k F1 .n)) (.k (.r 10 (.k F2 (.k F11 .n)))
 .n) .n)
 (.k (.g (.one (.l 117)) (.m F13 117 (.k F1 .n)))
 (.k (.e (.call 248 (.k F3 (.k (.ite (.l 117) (.m F13 185 (.k F1 .n)) F29) .n))))
 (.k (.e (.call 162 (.k F13 (.k F3 (.k F1 .n)))))
 (.k (.g (.one (.t F3 176)) F4)
 (.k (.e (.m F3 200 (.k (.bool false) .n)))
 (.k (.ret (.l 117))
 .n)))))))
noncomputable def yP7:Ys:=(.k (.g (.one (.t F3 81)) (.mk 19 (.k F1 (.k (.m F13 235 (.k F1 .n)) (.k (.m F13 211 (.k F1 .n)) .n)))))
 (.k (.g (.one (.t F3 114)) (.and (.k (.m F13 117 (.k F1 .n)) (.k (.not (.m F13 148 (.k F1 .n))) .n))))
 .n))
noncomputable def jQ7:Ys:=(.k (.ife (.cmp .is (.t F3 81) .none) (.k (.r 10 (.k (.str [101,114,114,111,114]) (.k (.list (.k (.str [66,117,102,102,101,114,32,105,115,32,110,111,116,32,118,105,115,105,116,105,110,103,32,97,32,102,105,108,101]) (.k (.t F3 153) .n))) .n)))
 .n) .n)
 (.k (.ret (.t F3 81))
 .n))
noncomputable def yR3:Ys:=(.k (.g (.one (.l 172)) (.call 158 (.k F3 .n)))
 (.k (.ret (.cmp .eq (.m F13 211 (.k F23 .n)) (.t (.l 172) 211)))
 .n))
noncomputable def yS1:Ys:=(.k (.g (.one (.l 58)) (.call 245 (.k F3 .n)))
 (.k (.ife (.or (.k (.cmp .eq (.l 58) F29) (.k (.cmp .eq (.sub (.l 58) (.neg F4)) (.glob 15)) .n))) (.k .ret0
 .n) .n)
 (.k (.g (.tup [(.l 51),(.l 254),(.l 85)]) (.tup (.k (.t F3 51) (.k (.t F3 254) (.k (.t F3 114) .n)))))
 (.k (.g (.tup [(.t F3 51),(.t F3 254),(.t F3 114)]) (.tup (.k F4 (.k (.bin .add F8 F4) (.k (.bool false) .n)))))
 (.k (.e (.call 100 (.k F3 (.k (.bin .add F8 F4) (.k (.list (.k (.glob 15) .n)) .n)))))
 (.k (.g (.tup [(.t F3 51),(.t F3 114)]) (.tup (.k (.l 51) (.k (.l 85) .n))))
 (.k (.g (.one (.t F3 254)) (.ite (.cmp .eq (.l 254) (.bin .add F8 F4)) (.bin .add (.l 254) F4) (.l 254)))
 .n)))))))
noncomputable def yQ8:Ys:=(.k (.g (.one (.l 172)) (.call 158 (.k F3 .n)))
 (.k (.ife (.not (.m F3 109 .n)) (.k (.ret (.bool false))
 .n) .n)
 (.k (.ife (.and (.k (.not (.l 107)) (.k (.not (.call 105 (.k F13 (.k F3 .n)))) .n))) (.k (.r 10 (.k (.str [102,105,108,101,45,115,117,112,101,114,115,101,115,115,105,111,110]) (.k (.list (.k (.str [70,105,108,101,32,99,104,97,110,103,101,100,32,111,110,32,100,105,115,107]) (.k F23 .n))) .n)))
 .n) .n)
 (.k (.ife (.t (.l 142) 242) (.k (.e (.call 73 (.k F3 .n)))
 .n) .n)
 (.k (.g (.one (.t (.l 172) 102)) (.call 252 (.k F13 (.k F23 (.k (.call 245 (.k F3 .n)) (.k (.l 142) (.k (.t (.l 172) 102) .n)))))))
 (.k (.g (.one (.t (.l 172) 211)) (.m F13 211 (.k F23 .n)))
 (.k (.e (.call 70 (.k F13 (.k F23 .n))))
 (.k (.g (.one (.t (.l 172) 42)) F24)
 (.k (.e (.m F3 200 (.k (.bool false) .n)))
 (.k (.ret (.bool true))
 .n))))))))))
noncomputable def jQ4:Ys:=(.k (.g (.one (.l 172)) (.call 158 (.k F3 .n)))
 (.k (.g (.one (.l 58)) (.m F13 185 (.k F23 .n)))
 (.k (.g (.one (.l 85)) (.t F3 114))
 (.k (.g (.one (.t F3 114)) (.bool false))
 (.k (.g (.tup [(.t F3 51),(.t F3 254)]) (.tup (.k F4 (.k (.bin .add (.m F3 205 .n) F4) .n))))
 (.k (.e (.call 182 (.k F3 (.k (.l 58) .n))))
 (.k (.g (.one (.t F3 114)) (.l 85))
 (.k (.g (.one (.t (.l 172) 211)) (.m F13 211 (.k F23 .n)))
 (.k (.g (.one (.t (.l 172) 102)) (.bool false))
 (.k (.e (.call 70 (.k F13 (.k F23 .n))))
 (.k (.g (.one (.t (.l 172) 42)) F24)
 (.k (.e (.m F3 200 (.k (.bool false) .n)))
 .n))))))))))))
noncomputable def yU6:Ys:=(.k (.g (.one (.l 167)) (.call 245 (.k F3 .n)))
 (.k (.g (.one (.l 94)) F24)
 (.k (.whs (.and (.k (.cmp .lt (.l 94) F20) (.k (.cmp .lt (.l 94) F8) (.k (.cmp .eq (.sub (.l 167) (.l 94)) (.sub (.l 58) (.l 94))) .n)))) (.k (.g (.one (.l 94)) (.bin .add (.l 94) F4))
 .n))
 (.k (.g (.tup [(.l 218),(.l 150)]) (.tup (.k F24 (.k (.bin .sub (.bi 1 (.k F20 (.k F8 .n))) (.l 94)) .n))))
 (.k (.whs (.and (.k (.cmp .lt (.l 218) (.l 150)) (.k (.cmp .eq (.sub (.l 167) (.bin .sub (.bin .sub F20 F4) (.l 218))) (.sub (.l 58) (.bin .sub (.bin .sub F8 F4) (.l 218)))) .n))) (.k (.g (.one (.l 218)) (.bin .add (.l 218) F4))
 .n))
 (.k (.e (.call 65 (.k F3 (.k (.bin .add F4 (.l 94)) (.k (.bin .sub (.bin .add F4 F20) (.l 218)) .n)))))
 (.k (.e (.call 100 (.k F3 (.k (.bin .add F4 (.l 94)) (.k (.slice (.l 58) (.l 94) (.bin .sub F8 (.l 218))) .n)))))
 .n)))))))
noncomputable def yU3:Ys:=(.k (.g (.one (.l 172)) (.call 158 (.k F3 .n)))
 (.k (.ife (.or (.k (.not (.m F3 109 .n)) (.k (.cmp .eq (.t (.l 172) 42) (.m F3 230 .n)) .n))) (.k (.ret (.bool false))
 .n) .n)
 (.k (.e (.call 251 (.k F13 (.k F23 (.k (.call 245 (.k F3 .n)) .n)))))
 (.k (.g (.one (.t (.l 172) 42)) (.m F3 230 .n))
 (.k (.ret (.bool true))
 .n)))))
noncomputable def yS3:Ys:=(.k (.ret (.and (.k (.m F13 117 (.k (.call 41 (.k F1 .n)) .n)) (.k (.cmp .gt (.m F13 211 (.k (.call 41 (.k F1 .n)) .n)) (.m F13 211 (.k F1 .n))) .n))))
 .n)
noncomputable def zI3:Ys:=(.k (.g (.one (.l 172)) (.call 158 (.k F3 .n)))
 (.k (.ife (.not (.call 93 (.k F13 (.k F23 .n)))) (.k (.r 10 (.k F2 (.k (.list (.k (.str [65,117,116,111,45,115,97,118,101,32,102,105,108,101,32,105,115,32,110,111,116,32,99,117,114,114,101,110,116]) (.k F23 .n))) .n)))
 .n) .n)
 (.k (.e (.call 248 (.k F3 (.k (.m F13 185 (.k (.call 41 (.k F23 .n)) .n)) .n))))
 (.k (.e (.m F3 200 (.k (.bool true) .n)))
 .n))))
noncomputable def yM4:Ys:=(.k (.g (.one (.t F0 193)) (.l 193))
 (.k (.g (.one (.t F0 54)) (.bin .add (.bi 3 (.k (.l 58) .n)) (.bin .mul (.list (.k F24 .n)) (.l 193))))
 (.k (.g (.one (.t F0 89)) F8)
 (.k (.g (.one (.t F0 88)) (.bin .add F8 (.l 193)))
 .n))))
noncomputable def yX5:Ys:=(.k (.ret (.bin .add (.bin .sub (.bi 0 (.k (.t F0 54) .n)) (.t F0 88)) F32))
 .n)
noncomputable def jK1:Ys:=(.k (.ife (.cmp .lt (.l 39) F32) (.k (.ret (.sub (.t F0 54) (.l 39)))
 .n) .n)
 (.k (.ret (.sub (.t F0 54) (.bin .add (.bin .sub (.l 39) F32) (.t F0 88))))
 .n))
noncomputable def yJ2:Ys:=(.k (.g (.one (.l 202)) (.bin .sub (.t F0 88) F32))
 (.k (.ife (.cmp .le F27 F32) (.k (.ret (.slice (.t F0 54) F22 F27))
 .n) .n)
 (.k (.ife (.cmp .ge F22 F32) (.k (.ret (.slice (.t F0 54) (.bin .add F22 (.l 202)) (.bin .add F27 (.l 202))))
 .n) .n)
 (.k (.ret (.bin .add (.slice (.t F0 54) F22 F32) (.slice (.t F0 54) (.t F0 88) (.bin .add F27 (.l 202)))))
 .n))))
noncomputable def yM3:Ys:=(.k (.ife (.cmp .lt (.l 39) F32) (.k (.g (.one (.l 152)) (.slice (.t F0 54) (.l 39) F32))
 (.k (.g (.slice (.t F0 54) (.bin .sub (.t F0 88) (.bi 0 (.k (.l 152) .n))) (.t F0 88)) (.l 152))
 (.k (.g (.one (.t F0 88)) (.bin .sub (.t F0 88) (.bi 0 (.k (.l 152) .n))))
 .n))) (.k (.g (.one (.l 152)) (.slice (.t F0 54) (.t F0 88) (.bin .sub (.bin .add (.t F0 88) (.l 39)) F32)))
 (.k (.g (.slice (.t F0 54) F32 (.bin .add F32 (.bi 0 (.k (.l 152) .n)))) (.l 152))
 (.k (.g (.one (.t F0 88)) (.bin .add (.t F0 88) (.bi 0 (.k (.l 152) .n))))
 .n))))
 (.k (.g (.one (.t F0 89)) (.l 39))
 .n))
noncomputable def yL0:Ys:=(.k (.g (.one (.l 125)) (.bin .sub (.l 240) (.bin .sub (.t F0 88) F32)))
 (.k (.ife (.cmp .gt (.l 125) F24) (.k (.g (.slice (.t F0 54) (.t F0 88) (.t F0 88)) (.bin .mul (.list (.k F24 .n)) (.bin .add (.l 125) (.t F0 193))))
 (.k (.g (.one (.t F0 88)) (.bin .add (.bin .add (.t F0 88) (.l 125)) (.t F0 193)))
 .n)) .n)
 .n))
noncomputable def yF9:Ys:=(.k (.e (.m F0 246 (.k F8 .n)))
 (.k (.e (.m F0 151 (.k (.l 39) .n)))
 (.k (.g (.slice (.t F0 54) (.l 39) (.bin .add (.l 39) F8)) (.l 58))
 (.k (.g (.one (.t F0 89)) (.bin .add (.l 39) F8))
 .n))))
noncomputable def yG4:Ys:=(.k (.g (.one (.l 91)) (.m F0 58 (.k F22 (.k F27 .n))))
 (.k (.ife (.cmp .lt F27 F32) (.k (.e (.m F0 151 (.k F27 .n)))
 .n) .n)
 (.k (.ife (.cmp .gt F22 F32) (.k (.e (.m F0 151 (.k F22 .n)))
 .n) .n)
 (.k (.g (.one (.t F0 88)) (.bin .sub (.bin .add (.t F0 88) F27) F32))
 (.k (.g (.one (.t F0 89)) F22)
 (.k (.ret (.l 91))
 .n))))))
noncomputable def jV5:Ys:=(.k (.g (.one (.sub (.t F0 54) (.ite (.cmp .lt (.l 39) F32) (.l 39) (.bin .add (.bin .sub (.l 39) F32) (.t F0 88))))) (.l 56))
 .n)
noncomputable def jY3:Ys:=(.k (.e .bad)
 .n)
noncomputable def jY6:Ys:=(.k (.e .bad)
 .n)
noncomputable def jZ7:Ys:=(.k (.g (.one (.t F0 194)) (.dict [] .n))
 .n)
noncomputable def jX7:Ys:=(.k (.ret (.bi 4 (.k (.t F0 194) .n)))
 .n)
noncomputable def jV9:Ys:=(.k (.g (.one (.sub (.t F0 194) (.t (.l 145) 163))) (.l 145))
 (.k (.g (.one (.t (.l 145) 178)) (.l 178))
 .n))
noncomputable def jA3:Ys:=(.k (.e .bad)
 .n)
noncomputable def jV3:Ys:=(.k (.g (.one (.l 87)) F29)
 (.k (.forl 20 163 (.m F0 165 .n) (.k (.ife .bad (.k (.e (.m F17 35 (.k (.sub (.t F0 194) (.l 163)) .n)))
 .n) .n)
 .n))
 (.k (.ret F17)
 .n)))
noncomputable def yO5:Ys:=(.k (.forl 20 163 (.m F0 165 .n) (.k (.g (.one (.l 145)) (.sub (.t F0 194) (.l 163)))
 (.k (.ife (.or (.k (.cmp .gt (.t (.l 145) 178) F22) (.k (.and (.k (.cmp .eq (.t (.l 145) 178) F22) (.k (.or (.k (.l 103) (.k (.t (.l 145) 33) .n))) .n))) .n))) (.k (.g (.one (.t (.l 145) 178)) (.bin .sub (.bin .add (.t (.l 145) 178) F27) F22))
 .n) .n)
 .n)))
 .n)
noncomputable def jQ1:Ys:=(.k (.forl 20 163 (.m F0 165 .n) (.k (.g (.one (.l 145)) (.sub (.t F0 194) (.l 163)))
 (.k (.ife (.cmp .gt (.t (.l 145) 178) F27) (.k (.g (.one (.t (.l 145) 178)) (.bin .sub (.t (.l 145) 178) (.bin .sub F27 F22)))
 .n) (.k (.ife (.cmp .gt (.t (.l 145) 178) F22) (.k (.g (.one (.t (.l 145) 178)) F22)
 .n) .n)
 .n))
 .n)))
 .n)
noncomputable def jY2:Ys:=(.k (.forl 20 163 (.m F0 165 .n) (.k (.g (.one (.l 145)) (.sub (.t F0 194) (.l 163)))
 (.k (.ife (.cmp .ge (.t (.l 145) 178) F27) (.k (.g (.one (.t (.l 145) 178)) (.bin .sub (.bin .add (.t (.l 145) 178) (.l 143)) (.bin .sub F27 F22)))
 .n) (.k (.ife (.cmp .gt (.t (.l 145) 178) F22) (.k (.g (.one (.t (.l 145) 178)) F22)
 .n) .n)
 .n))
 .n)))
 .n)
noncomputable def jY7:Ys:=(.k (.e .bad)
 .n)
noncomputable def jY1:Ys:=(.k (.e .bad)
 .n)
noncomputable def jY5:Ys:=(.k (.e .bad)
 .n)
noncomputable def yD3:Ys:=(.k (.g (.one (.t F0 163)) (.l 163))
 (.k (.g (.one (.t F0 153)) F1)
 (.k (.g (.one (.t F0 222)) (.mk 8 (.k F29 (.k (.l 193) .n))))
 (.k (.g (.one (.t F0 146)) (.mk 13 .n))
 (.k (.g (.one (.t F0 176)) F4)
 (.k (.g (.one (.t F0 51)) F4)
 (.k (.g (.one (.t F0 254)) F4)
 (.k (.g (.one (.t F0 144)) .none)
 (.k (.g (.one (.t F0 108)) (.bool true))
 (.k (.g (.one (.t F0 114)) (.bool false))
 (.k (.g (.one (.t F0 231)) F4)
 (.k (.g (.one (.t F0 59)) F4)
 (.k (.g (.one (.t F0 197)) F4)
 (.k (.g (.one (.t F0 135)) F29)
 (.k (.g (.one (.t F0 238)) .none)
 (.k (.g (.one (.t F0 179)) .none)
 (.k (.g (.one (.t F0 171)) .none)
 (.k (.g (.one (.t F0 136)) .none)
 (.k (.g (.one (.t F0 217)) .none)
 (.k (.g (.one (.t F0 81)) .none)
 .n))))))))))))))))))))
noncomputable def jY8:Ys:=(.k (.e .bad)
 .n)
noncomputable def jV2:Ys:=(.k (.e .bad)
 .n)
noncomputable def jK4:Ys:=(.k (.ret (.t F0 51))
 .n)
noncomputable def jV6:Ys:=(.k (.ret (.t F0 254))
 .n)
noncomputable def jX4:Ys:=(.k (.ret (.m (.t F0 222) 205 .n))
 .n)
noncomputable def jV8:Ys:=(.k (.e .bad)
 .n)
noncomputable def jW3:Ys:=(.k (.ret (.m (.t F0 222) 58 (.k (.bin .sub F22 F4) (.k (.bin .sub F27 F4) .n))))
 .n)
noncomputable def jJ0:Ys:=(.k (.g (.one (.t F0 176)) (.bi 1 (.k (.bi 2 (.k F21 (.k (.t F0 51) .n))) (.k (.t F0 254) .n))))
 (.k (.ret (.t F0 176))
 .n))
noncomputable def yS0:Ys:=(.k (.ret (.t F0 231))
 .n)
noncomputable def yO7:Ys:=(.k (.ret (.cmp .lt (.t F0 197) (.t F0 231)))
 .n)
noncomputable def yN2:Ys:=(.k (.ife (.not (.l 115)) (.k (.g (.one (.t F0 197)) (.t F0 231))
 .n) (.k (.ife (.not (.m F0 109 .n)) (.k (.g (.one (.t F0 231)) (.bin .add (.t F0 231) F4))
 .n) .n)
 .n))
 .n)
noncomputable def jW2:Ys:=(.k (.g (.one (.t F0 231)) (.bin .add (.t F0 231) F4))
 (.k (.ife (.l 36) (.k (.g (.one (.t F0 59)) (.t F0 231))
 .n) .n)
 .n))
noncomputable def jX9:Ys:=(.k (.g (.one (.t F0 206)) (.l 206))
 (.k (.g (.one (.t F0 60)) (.l 60))
 (.k (.g (.one (.t F0 211)) (.l 211))
 (.k (.g (.one (.t F0 119)) (.bool true))
 .n))))
noncomputable def yO3:Ys:=(.k (.g (.one (.t F0 55)) F24)
 (.k (.g (.one (.t F0 129)) (.neg F4))
 (.k (.g (.one (.t F0 74)) (.dict [[47]] (.k (.mk 5 (.k (.glob 3) (.k .none (.k F24 .n)))) .n)))
 .n)))
noncomputable def yR4:Ys:=(.k (.ife (.cmp .eq (.t F0 129) F24) (.k .no
 .n) .n)
 (.k (.ife (.cmp .gt (.t F0 129) F24) (.k (.g (.one (.t F0 129)) (.bin .sub (.t F0 129) F4))
 .n) .n)
 (.k (.g (.one (.t F0 55)) (.bin .add (.t F0 55) F4))
 .n)))
noncomputable def yO4:Ys:=(.k (.g (.one (.l 39)) F1)
 (.k (.forr 3 236 (.glob 11) (.k (.g (.one (.l 86)) (.m F0 84 (.k (.l 39) .n)))
 (.k (.ife (.cmp .eq (.l 86) (.str [])) (.k (.ret (.l 39))
 .n) .n)
 (.k (.g (.one (.l 219)) (.t (.sub F33 (.l 86)) 60))
 (.k (.g (.one (.l 39)) (.call 38 (.k (.call 78 (.k (.bin .add (.l 219) (.slice (.l 39) (.bi 0 (.k (.l 86) .n)) .none)) (.k (.call 68 (.k (.l 86) .n)) (.k F12 .n)))) .n)))
 .n)))))
 (.k (.r 10 (.k F2 (.k (.list (.k (.str [84,111,111,32,109,97,110,121,32,108,105,110,107,115]) (.k F1 .n))) .n)))
 .n)))
noncomputable def yT1:Ys:=(.k (.g (.one (.l 72)) (.m F1 83 (.k F12 (.k F4 .n))))
 (.k (.whl 20 (.cmp .gt F27 F24) (.k (.g (.one (.l 87)) (.m F33 90 (.k (.slice F1 .none F27) (.k .none .n))))
 (.k (.ife F26 (.k (.ret (.slice F1 .none F27))
 .n) .n)
 (.k (.g (.one (.l 72)) (.m F1 83 (.k F12 (.k (.bin .add F27 F4) .n))))
 .n))))
 (.k (.g (.one (.l 87)) (.m F33 90 (.k F1 (.k .none .n))))
 (.k (.ret (.ite F26 F1 (.str [])))
 .n))))
noncomputable def jZ0:Ys:=(.k (.ife (.cmp .eq F1 F12) (.k (.ret F1)
 .n) .n)
 (.k (.g (.one (.l 31)) (.m F0 235 (.k (.call 173 (.k F1 .n)) .n)))
 (.k (.ret (.call 121 (.k (.l 31) (.k (.call 127 (.k F1 .n)) .n))))
 .n)))
noncomputable def yR7:Ys:=(.k (.ret (.m F33 90 (.k (.m F0 235 (.k F1 .n)) (.k .none .n))))
 .n)
noncomputable def yO2:Ys:=(.k (.ret (.cmp .isnot (.m F0 75 (.k F1 .n)) .none))
 .n)
noncomputable def jZ2:Ys:=(.k (.g (.one (.l 87)) (.m F0 75 (.k F1 .n)))
 (.k (.ret (.and (.k (.cmp .isnot F17 .none) (.k F25 .n))))
 .n))
noncomputable def yP3:Ys:=(.k (.g (.one (.l 87)) (.m F0 75 (.k F1 .n)))
 (.k (.ret (.and (.k (.cmp .isnot F17 .none) (.k (.cmp .eq (.t F17 206) (.glob 17)) .n))))
 .n))
noncomputable def yU2:Ys:=(.k (.g (.one (.l 87)) (.m F0 75 (.k F1 .n)))
 (.k (.ife (.cmp .is F17 .none) (.k (.r 10 (.k F14 (.k (.list (.k F5 (.k F1 .n))) .n)))
 .n) .n)
 (.k (.ife F25 (.k (.r 10 (.k F2 (.k F11 .n)))
 .n) .n)
 (.k (.ret F17)
 .n))))
noncomputable def yP5:Ys:=(.k (.g (.one (.l 87)) (.m F0 75 (.k F1 .n)))
 (.k (.ife (.cmp .is F17 .none) (.k (.r 10 (.k F14 (.k (.list (.k F5 (.k F1 .n))) .n)))
 .n) .n)
 (.k (.ife (.cmp .ne (.t F17 206) (.glob 3)) (.k (.r 10 (.k F2 (.k (.list (.k (.str [78,111,116,32,97,32,100,105,114,101,99,116,111,114,121]) (.k F1 .n))) .n)))
 .n) .n)
 .n)))
noncomputable def jK0:Ys:=(.k (.ret (.bi 3 (.k (.t (.m F0 156 (.k F1 .n)) 60) .n)))
 .n)
noncomputable def jZ1:Ys:=(.k (.g (.one (.l 87)) (.m F0 75 (.k F1 .n)))
 (.k (.ret (.ite (.cmp .is F17 .none) F24 (.t F17 211)))
 .n))
noncomputable def jJ1:Ys:=(.k (.g (.one (.l 87)) (.m F0 75 (.k F1 .n)))
 (.k (.ife (.cmp .isnot F17 .none) (.k (.ret (.and (.k (.t F17 119) (.k (.cmp .eq (.t F17 206) (.glob 17)) .n))))
 .n) .n)
 (.k (.g (.one (.l 31)) (.m F0 75 (.k (.call 173 (.k (.m F0 235 (.k F1 .n)) .n)) .n)))
 (.k (.ret (.and (.k (.cmp .isnot (.l 31) .none) (.k (.cmp .eq (.t (.l 31) 206) (.glob 3)) (.k (.t (.l 31) 119) .n)))))
 .n))))
noncomputable def jQ0:Ys:=(.k (.g (.one (.l 87)) (.m F33 90 (.k (.m F0 174 (.k F1 .n)) (.k .none .n))))
 (.k (.ret (.ite F26 (.t F17 60) .none))
 .n))
noncomputable def jZ8:Ys:=(.k (.e (.m F0 155 (.k F1 .n)))
 (.k (.g (.one (.l 244)) (.m F0 235 (.k F1 .n)))
 (.k (.g (.one (.l 94)) (.ite (.cmp .eq F30 F12) F12 (.bin .add F30 F12)))
 (.k (.g (.one (.l 87)) F29)
 (.k (.forl 20 170 F33 (.k (.ife (.and (.k (.cmp .ne (.l 170) F12) (.k (.cmp .eq (.slice (.l 170) .none (.bi 0 (.k (.l 94) .n))) (.l 94)) (.k (.cmp .nin F12 (.slice (.l 170) (.bi 0 (.k (.l 94) .n)) .none)) .n)))) (.k (.e (.m F17 35 (.k (.slice (.l 170) (.bi 0 (.k (.l 94) .n)) .none) .n)))
 .n) .n)
 .n))
 (.k (.ret (.bi 4 (.k F17 .n)))
 .n))))))
noncomputable def yU5:Ys:=(.k (.g (.one (.l 31)) (.m F0 75 (.k (.call 173 (.k F1 .n)) .n)))
 (.k (.ife (.cmp .is (.l 31) .none) (.k (.r 10 (.k F14 (.k (.list (.k F5 (.k (.call 173 (.k F1 .n)) .n))) .n)))
 .n) .n)
 (.k (.ife (.cmp .ne (.t (.l 31) 206) (.glob 3)) (.k (.r 10 (.k F2 (.k (.list (.k (.str [78,111,116,32,97,32,100,105,114,101,99,116,111,114,121]) (.k (.call 173 (.k F1 .n)) .n))) .n)))
 .n) .n)
 (.k (.ife (.not (.t (.l 31) 119)) (.k (.r 10 (.k F2 (.k (.list (.k (.str [80,101,114,109,105,115,115,105,111,110,32,100,101,110,105,101,100]) (.k (.call 173 (.k F1 .n)) .n))) .n)))
 .n) .n)
 .n))))
noncomputable def jZ3:Ys:=(.k (.g (.one (.l 244)) (.m F0 235 (.k F1 .n)))
 (.k (.g (.one (.l 87)) (.m F33 90 (.k F30 (.k .none .n))))
 (.k (.ife (.cmp .is F17 .none) (.k (.e (.m F0 157 (.k F30 .n)))
 (.k (.e (.m F0 213 .n))
 (.k (.g (.one (.sub F33 F30)) (.mk 5 (.k (.glob 17) (.k F29 (.k (.t F0 55) .n)))))
 (.k (.e (.m F0 82 (.k (.sub F33 F30) (.k (.l 58) .n))))
 (.k .ret0
 .n))))) .n)
 (.k (.ife F25 (.k (.r 10 (.k F2 (.k F11 .n)))
 .n) .n)
 (.k (.ife (.not (.t F17 119)) (.k (.r 10 (.k F2 (.k (.list (.k (.str [80,101,114,109,105,115,115,105,111,110,32,100,101,110,105,101,100]) (.k F1 .n))) .n)))
 .n) .n)
 (.k (.e (.m F0 213 .n))
 (.k (.g (.one (.t F17 60)) F29)
 (.k (.g (.one (.t F17 211)) (.t F0 55))
 (.k (.e (.m F0 82 (.k F17 (.k (.l 58) .n))))
 .n)))))))))
noncomputable def yR2:Ys:=(.k (.e (.m F0 213 .n))
 (.k (.g (.one (.t (.l 75) 60)) (.bi 3 (.k (.l 58) .n)))
 (.k (.g (.one (.t (.l 75) 211)) (.t F0 55))
 .n)))
noncomputable def jK6:Ys:=(.k (.e (.m F0 250 (.k F1 (.k (.bin .add (.m F0 185 (.k F1 .n)) (.bi 3 (.k (.l 58) .n))) .n))))
 .n)
noncomputable def yT4:Ys:=(.k (.g (.one (.l 244)) (.m F0 174 (.k F1 .n)))
 (.k (.ife (.cmp .cin F30 F33) (.k (.r 10 (.k F18 (.k (.list (.k F19 (.k F1 .n))) .n)))
 .n) .n)
 (.k (.e (.m F0 157 (.k F30 .n)))
 (.k (.e (.m F0 213 .n))
 (.k (.g (.one (.sub F33 F30)) (.mk 5 (.k (.glob 3) (.k .none (.k (.t F0 55) .n)))))
 .n)))))
noncomputable def jK5:Ys:=(.k (.e .bad)
 .n)
noncomputable def jQ6:Ys:=(.k (.g (.one (.l 244)) (.m F0 174 (.k F1 .n)))
 (.k (.g (.one (.l 87)) (.m F33 90 (.k F30 (.k .none .n))))
 (.k (.ife (.cmp .is F17 .none) (.k (.r 10 (.k F14 (.k (.list (.k F5 (.k F1 .n))) .n)))
 .n) .n)
 (.k (.ife F25 (.k (.r 10 (.k F2 (.k F11 .n)))
 .n) .n)
 (.k (.e (.m F0 157 (.k F30 .n)))
 (.k (.e (.m F0 213 .n))
 (.k (.e (.m F33 177 (.k F30 .n)))
 .n)))))))
noncomputable def jY9:Ys:=(.k (.e .bad)
 .n)
noncomputable def yT2:Ys:=(.k (.g (.tup [(.l 244),(.l 170)]) (.tup (.k (.m F0 174 (.k (.l 167) .n)) (.k (.m F0 174 (.k (.l 160) .n)) .n))))
 (.k (.g (.tup [(.l 87),(.l 229)]) (.tup (.k (.m F33 90 (.k F30 (.k .none .n))) (.k (.m F33 90 (.k (.l 170) (.k .none .n))) .n))))
 (.k (.ife (.cmp .is F17 .none) (.k (.r 10 (.k F14 (.k (.list (.k F5 (.k (.l 167) .n))) .n)))
 .n) .n)
 (.k (.ife (.cmp .eq F30 F12) (.k (.r 10 (.k F2 (.k (.list (.k (.str [73,110,118,97,108,105,100,32,97,114,103,117,109,101,110,116]) (.k (.l 167) .n))) .n)))
 .n) .n)
 (.k (.ife (.and (.k (.cmp .isnot (.l 229) .none) (.k (.not (.l 110)) .n))) (.k (.r 10 (.k F18 (.k (.list (.k F19 (.k (.l 160) .n))) .n)))
 .n) .n)
 (.k (.ife (.and (.k (.cmp .isnot (.l 229) .none) (.k (.or (.k (.cmp .eq (.t (.l 229) 206) (.glob 3)) (.k F25 .n))) (.k (.cmp .isnot (.l 229) F17) .n)))) (.k (.r 10 (.k F2 (.k (.list (.k (.str [73,115,32,97,32,100,105,114,101,99,116,111,114,121]) (.k (.l 160) .n))) .n)))
 .n) .n)
 (.k (.ife (.and (.k F25 (.k (.cmp .eq (.slice (.bin .add (.l 170) F12) .none (.bin .add (.bi 0 (.k F30 .n)) F4)) (.bin .add F30 F12)) (.k (.cmp .ne (.l 170) F30) .n)))) (.k (.r 10 (.k F2 (.k (.list (.k (.str [73,110,118,97,108,105,100,32,97,114,103,117,109,101,110,116]) (.k (.l 160) .n))) .n)))
 .n) .n)
 (.k (.e (.m F0 157 (.k F30 .n)))
 (.k (.e (.m F0 157 (.k (.l 170) .n)))
 (.k (.e (.m F0 213 .n))
 (.k (.ife (.cmp .eq F30 (.l 170)) (.k .ret0
 .n) .n)
 (.k (.asgc 152 (.comp false 153 [244] F33 (.k (.or (.k (.cmp .eq F1 F30) (.k (.cmp .eq (.slice F1 .none (.bin .add (.bi 0 (.k F30 .n)) F4)) (.bin .add F30 F12)) .n))) .n) F1))
 (.k (.forl 20 153 (.bi 4 (.k (.l 152) .n)) (.k (.g (.one (.sub F33 (.bin .add (.l 170) (.slice F1 (.bi 0 (.k F30 .n)) .none)))) (.m F33 177 (.k F1 .n)))
 .n))
 .n)))))))))))))
noncomputable def jY0:Ys:=(.k (.g (.one (.l 58)) (.m F0 185 (.k (.l 167) .n)))
 (.k (.ife (.and (.k (.m F0 117 (.k (.l 160) .n)) (.k (.not (.l 110)) .n))) (.k (.r 10 (.k F18 (.k (.list (.k F19 (.k (.l 160) .n))) .n)))
 .n) .n)
 (.k (.e (.m F0 250 (.k (.l 160) (.k (.l 58) .n))))
 .n)))
noncomputable def jA1:Ys:=(.k (.e .bad)
 .n)
noncomputable def jX2:Ys:=(.k (.g (.one (.l 87)) (.call 68 (.k F1 .n)))
 (.k (.ret (.ite (.cmp .eq F17 F12) F12 (.slice F17 .none (.neg F4))))
 .n))
noncomputable def jW8:Ys:=(.k (.ret (.ite (.cmp .eq (.l 67) F12) (.bin .add (.l 67) (.l 213)) (.bin .add (.bin .add (.l 67) F12) (.l 213))))
 .n)
noncomputable def yN7:Ys:=(.k (.ret (.ite (.cmp .ne (.l 63) F29) (.bin .mod (.m (.l 63) 177 (.k F24 .n)) (.l 143)) F24))
 .n)
noncomputable def yS9:Ys:=(.k (.ret (.comp true 237 [63] (.call 23 (.k (.l 63) (.k (.bin .add (.l 150) F4) .n))) .n (.bin .add (.int 97) (.call 23 (.k (.l 63) (.k (.int 3) .n))))))
 .n)
noncomputable def jW6:Ys:=(.k (.g (.tup [(.l 94),(.l 218)]) (.tup (.k F24 (.k F24 .n))))
 (.k (.whs (.and (.k (.cmp .lt (.l 94) (.bi 1 (.k F20 (.k (.bi 0 (.k (.l 160) .n)) .n)))) (.k (.cmp .eq (.sub (.l 167) (.l 94)) (.sub (.l 160) (.l 94))) .n))) (.k (.g (.one (.l 94)) (.bin .add (.l 94) F4))
 .n))
 (.k (.whs (.and (.k (.cmp .lt (.l 218) (.bin .sub (.bi 1 (.k F20 (.k (.bi 0 (.k (.l 160) .n)) .n))) (.l 94))) (.k (.cmp .eq (.sub (.l 167) (.bin .sub (.bin .sub F20 F4) (.l 218))) (.sub (.l 160) (.bin .sub (.bin .sub (.bi 0 (.k (.l 160) .n)) F4) (.l 218)))) .n))) (.k (.g (.one (.l 218)) (.bin .add (.l 218) F4))
 .n))
 (.k (.ife (.cmp .le F21 (.bin .sub (.bin .add F4 F20) (.l 218))) (.k (.ret (.bi 1 (.k F21 (.k (.bin .add F4 (.l 94)) .n))))
 .n) .n)
 (.k (.ret (.bin .sub (.bin .add F21 (.bi 0 (.k (.l 160) .n))) F20))
 .n)))))
noncomputable def yR0:Ys:=(.k (.g (.one (.l 205)) (.bi 0 (.k (.sub F6 F7) .n)))
 (.k (.g (.one (.l 175)) (.bin .add F4 (.call 23 (.k (.l 63) (.k (.bin .add (.l 205) F4) .n)))))
 (.k (.ife (.cmp .lt (.l 243) (.int 2)) (.k (.g (.one (.l 58)) (.bin .mul (.list (.k (.bin .add (.int 97) (.call 23 (.k (.l 63) (.k (.int 4) .n)))) .n)) (.bin .add F4 (.call 23 (.k (.l 63) (.k (.int 2) .n))))))
 (.k (.e (.call 100 (.k F3 (.k F21 (.k (.l 58) .n)))))
 (.k (.g (.one (.sub F6 F7)) (.bin .add (.bin .add (.slice (.sub F6 F7) .none (.bin .sub F21 F4)) (.l 58)) (.slice (.sub F6 F7) (.bin .sub F21 F4) .none)))
 (.k (.g (.one (.sub F6 F9)) (.bin .add (.sub F6 F9) (.ite (.cmp .gt (.sub F6 F9) F21) F8 F24)))
 (.k (.g (.tup [(.sub F6 F10),(.sub F6 F16)]) (.tup (.k (.bool true) (.k (.bool false) .n))))
 .n))))) (.k (.ife (.and (.k (.cmp .eq (.l 243) (.int 2)) (.k (.cmp .le F21 (.l 205)) .n))) (.k (.e (.call 65 (.k F3 (.k F21 (.k (.bin .add F21 F4) .n)))))
 (.k (.g (.one (.sub F6 F7)) (.bin .add (.slice (.sub F6 F7) .none (.bin .sub F21 F4)) (.slice (.sub F6 F7) F21 .none)))
 (.k (.g (.one (.sub F6 F9)) (.bin .sub (.sub F6 F9) (.ite (.cmp .gt (.sub F6 F9) F21) F4 F24)))
 (.k (.g (.tup [(.sub F6 F10),(.sub F6 F16)]) (.tup (.k (.bool true) (.k (.bool false) .n))))
 .n)))) (.k (.ife (.cmp .eq (.l 243) (.int 3)) (.k (.e (.m F3 92 (.k F21 .n)))
 (.k (.g (.one (.sub F6 F9)) F21)
 .n)) .n)
 .n))
 .n))
 .n)))
noncomputable def yT6:Ys:=(.k (.g (.tup [(.l 107),(.l 241)]) (.tup (.k (.cmp .eq (.call 23 (.k (.l 63) (.k (.int 2) .n))) F4) (.k (.cmp .eq (.call 23 (.k (.l 63) (.k (.int 2) .n))) F4) .n))))
 (.k (.g (.one (.l 232)) (.call 28 (.k F13 (.k F3 (.k (.mk 12 (.k (.l 241) (.k (.glob 18) (.k (.bool false) (.k F24 (.k F24 (.k (.bool false) .n))))))) (.k (.l 107) .n))))))
 (.k (.ife (.not (.sub F6 F10)) (.k (.ret (.and (.k (.cmp .isnot (.l 232) .none) (.k (.not (.l 232)) .n))))
 .n) .n)
 (.k (.ife (.and (.k (.sub F6 F28) (.k (.not (.l 107)) .n))) (.k (.ret (.cmp .is (.l 232) .none))
 .n) .n)
 (.k (.ife (.and (.k (.l 241) (.k (.cmp .ne (.sub F6 F7) F29) (.k (.cmp .ne (.sub (.sub F6 F7) (.neg F4)) (.int 10)) .n)))) (.k (.g (.one (.sub F6 F7)) (.bin .add (.sub F6 F7) (.list (.k (.int 10) .n))))
 .n) .n)
 (.k (.ife (.not (.sub F6 (.str [98,97,99,107,101,100]))) (.k (.g (.tup [(.sub F6 (.str [98,97,99,107,117,112])),(.sub F6 (.str [98,97,99,107,101,100]))]) (.tup (.k (.sub F6 F31) (.k (.bool true) .n))))
 .n) .n)
 (.k (.g (.tup [(.sub F6 F31),(.sub F6 F10),(.sub F6 F28)]) (.tup (.k (.sub F6 F7) (.k (.bool false) (.k (.bool false) .n)))))
 (.k (.g (.tup [(.sub F6 F15),(.sub F6 F16)]) (.tup (.k .none (.k (.bool false) .n))))
 (.k (.ret (.and (.k (.cmp .isnot (.l 232) .none) (.k (.l 232) .n))))
 .n)))))))))
noncomputable def yO1:Ys:=(.k (.g (.one (.l 243)) (.call 23 (.k (.l 63) (.k (.int 10) .n))))
 (.k (.ife (.cmp .lt (.l 243) (.int 4)) (.k (.e (.call 24 (.k (.l 63) (.k F3 (.k F6 (.k (.l 243) .n))))))
 .n) (.k (.ife (.cmp .lt (.l 243) (.int 6)) (.k (.ret (.call 27 (.k (.l 63) (.k F13 (.k F3 (.k F6 .n))))))
 .n) (.k (.ife (.cmp .eq (.l 243) (.int 6)) (.k (.g (.one (.l 58)) (.call 29 (.k (.l 63) (.k (.int 4) .n))))
 (.k (.e (.m F13 250 (.k (.str [47,100,47,102]) (.k (.l 58) .n))))
 (.k (.g (.tup [(.sub F6 F31),(.sub F6 F28),(.sub F6 (.str [110,101,119,101,114]))]) (.tup (.k (.l 58) (.k (.bool true) (.k (.bool false) .n)))))
 .n))) (.k (.ife (.cmp .eq (.l 243) (.int 7)) (.k (.g (.one (.sub F6 F9)) (.call 26 (.k (.sub F6 F7) (.k (.sub F6 F31) (.k (.sub F6 F9) .n)))))
 (.k (.e (.call 191 (.k F13 (.k F3 .n))))
 (.k (.g (.tup [(.sub F6 F7),(.sub F6 F10),(.sub F6 F28)]) (.tup (.k (.sub F6 F31) (.k (.bool false) (.k (.bool false) .n)))))
 (.k (.g (.tup [(.sub F6 F15),(.sub F6 F16),(.sub F6 (.str [98,97,99,107,101,100]))]) (.tup (.k .none (.k (.bool false) (.k (.bool false) .n)))))
 .n)))) (.k (.ife (.cmp .eq (.l 243) (.int 8)) (.k (.g (.one (.l 71)) (.and (.k (.sub F6 F10) (.k (.not (.sub F6 F16)) .n))))
 (.k (.ife (.cmp .ne (.call 40 (.k F13 (.k F3 .n))) (.l 71)) (.k (.ret (.bool false))
 .n) .n)
 (.k (.ife (.l 71) (.k (.g (.tup [(.sub F6 F15),(.sub F6 (.str [110,101,119,101,114])),(.sub F6 F16)]) (.tup (.k (.sub F6 F7) (.k (.bool true) (.k (.bool true) .n)))))
 .n) .n)
 .n))) (.k (.g (.one (.l 71)) (.and (.k (.cmp .isnot (.sub F6 F15) .none) (.k (.sub F6 (.str [110,101,119,101,114])) .n))))
 (.k (.ife (.cmp .ne (.call 25 (.k F13 (.k F3 .n))) (.l 71)) (.k (.ret (.bool false))
 .n) .n)
 (.k (.ife (.l 71) (.k (.g (.one (.l 116)) (.and (.k (.cmp .eq (.sub F6 F7) F29) (.k (.cmp .eq (.sub F6 F15) F29) (.k (.sub F6 F10) .n)))))
 (.k (.g (.one (.sub F6 F16)) (.and (.k (.sub F6 F16) (.k (.l 116) .n))))
 (.k (.g (.tup [(.sub F6 F7),(.sub F6 F10),(.sub F6 F9)]) (.tup (.k (.sub F6 F15) (.k (.bool true) (.k F4 .n)))))
 .n))) .n)
 .n))))
 .n))
 .n))
 .n))
 .n))
 (.k (.ret (.bool true))
 .n)))
noncomputable def xG4:Ys:=(.k (.g (.tup [(.l 63),(.l 234),(.l 52)]) (.tup (.k (.comp false 53 [] (.slice (.l 198) .none (.int 50)) .n (.bi 5 (.k (.l 53) .n))) (.k (.mk 7 .n) (.k (.mk 1 (.k F4 (.k (.str [102]) .n))) .n)))))
 (.k (.g (.one (.l 58)) (.call 29 (.k (.l 63) (.k (.int 4) .n))))
 (.k (.e (.m F13 140 (.k (.str [47,100]) .n)))
 (.k (.e (.m F13 250 (.k (.str [47,100,47,102]) (.k (.l 58) .n))))
 (.k (.g (.one (.l 186)) (.dict [[116,101,120,116],[102,105,108,101],[98,97,99,107,117,112],[117,110,115,97,118,101,100],[99,104,97,110,103,101,100],[111,116,104,101,114,115]] (.k (.l 58) (.k (.l 58) (.k .none (.k .none (.k (.bool false) (.k (.bool false) .n))))))))
 (.k (.g (.tup [(.sub F6 F9),(.sub F6 (.str [98,97,99,107,101,100])),(.sub F6 F16),(.sub F6 (.str [110,101,119,101,114]))]) (.tup (.k F4 (.k (.bool false) (.k (.bool false) (.k (.bool false) .n))))))
 (.k (.ife (.not (.call 239 (.k F13 (.k F3 (.k (.str [47,100,47,102]) .n))))) (.k (.ret (.bool false))
 .n) .n)
 .n)))))))
noncomputable def xD7:X:=(.bin .add F4 (.bi 1 (.k (.bin .fdiv (.bi 0 (.k (.l 198) .n)) (.int 3)) (.k (.int 11) .n))))
noncomputable def wN0:Ys:=(.k (.ife (.not (.call 22 (.k (.l 63) (.k F13 (.k F3 (.k F6 .n)))))) (.k (.ret (.bool false))
 .n) .n)
 (.k (.ife (.or (.k (.cmp .ne (.m F3 58 (.k F4 (.k (.bin .add (.m F3 205 .n) F4) .n))) (.sub F6 F7)) (.k (.cmp .ne (.m F13 185 (.k (.str [47,100,47,102]) .n)) (.sub F6 F31)) .n))) (.k (.ret (.bool false))
 .n) .n)
 (.k (.ife (.cmp .ne (.list (.k (.t F3 176) (.k (.m F3 109 .n) (.k (.call 105 (.k F13 (.k F3 .n))) .n)))) (.list (.k (.sub F6 F9) (.k (.sub F6 F10) (.k (.not (.sub F6 F28)) .n))))) (.k (.ret (.bool false))
 .n) .n)
 (.k (.asgc 123 (.comp false 153 [234] (.tup (.k (.str [47,100,47,102,126]) (.k (.str [47,100,47,35,102,35]) .n))) .n (.ite (.m F13 117 (.k F1 .n)) (.m F13 185 (.k F1 .n)) .none)))
 (.k (.ife (.cmp .ne (.l 123) (.list (.k (.sub F6 (.str [98,97,99,107,117,112])) (.k (.sub F6 F15) .n)))) (.k (.ret (.bool false))
 .n) .n)
 .n)))))
end Mine
end
namespace Mine
open PySem PySem.W PySem.Calls PyProof.Rows
section
variable {p:Prop} {dp:Decidable p} {M:Model} {A:Around} {α β:Type} {m1 m2:Sem α} {R:α->Shared->Prop} {R':β->Shared->Prop} {E:Value->Shared->Prop} {s:Shared} {k:α->Sem β}
theorem weq (e:m1=m2) (q:wpAny M A m2 R E s):wpAny M A m1 R E s:=by rw[e];exact q
theorem xJ6 (h:¬p) (q:wpAny M A m2 R E s):wpAny M A (@ite _ p dp m1 m2) R E s:=by rw[if_neg h];exact q
theorem zE3 (h:p) (q:wpAny M A m1 R E s):wpAny M A (@ite _ p dp m1 m2) R E s:=by rw[if_pos h];exact q
theorem wQ5 (h:¬p) (q:wpAny M A (m2>>=k) R' E s):wpAny M A (@ite _ p dp m1 m2>>=k) R' E s:=by rw[if_neg h];exact q
theorem xO9 (h:p) (q:wpAny M A (m1>>=k) R' E s):wpAny M A (@ite _ p dp m1 m2>>=k) R' E s:=by rw[if_pos h];exact q
end
noncomputable def KP (P:Params):Frag:=(List.range 999).zip (hp P)
theorem qN1 {α:Type}:∀{l:List α} {n a:Nat} {o:α},((List.range' n l.length).zip l).lookup a=some o->n<=a/\l[a-n]?=some o:=@fun ξ=>no_implicit_lambda%(match @ξ with
 |[]=>@fun J J2 J3 e=>by injection e
 |x::l=>@fun n a o e=>by
  rw[List.length_cons,List.range'_succ,List.zip_cons_cons,List.lookup_cons]at e
  by_cases h:a=n
  ·subst h
   simp at e
   exact ⟨Nat.le_refl _,by simp[e]⟩
  ·have hb:(a==n)=false:=beq_eq_false_iff_ne.mpr h
   rw[hb]at e
   obtain ⟨h1,h2⟩:=qN1 e
   refine ⟨by exact Nat.not_lt.mp fun gz=>lin [_,_] [] [(1,.nl (.a (.v 0) (.c 1)) (.v 1)),(1,.nl (.a (.v 1) (.c 1)) (.v 0))] rfl h1 gz,?_⟩
   have:a-n=(a-(n+1))+1:=by omega
   rw[this]
   simpa using h2
 )
theorem zZ6 {w:World} {b:Heap} (h:YPp w b):(KP w.params).In b:=by
 intro a o e
 unfold KP at e
 have hl:=wF1 w.params
 rw[List.range_eq_range',<-hl]at e
 have:=(qN1 e).2
 rw[Nat.sub_zero]at this
 exact h a o this
structure yH9 (w:World) (b:Heap):Prop where
 hp:YPp w b
 nl:b.NoLimit
 g:∃ mg,b.Ns mainGlobals mg
 bl:∃ mb,b.Ns builtinsNs mb/\∀ x:Str,x≠"__name__"->mb x=bootBuiltins x
structure zJ5 (A:Around) (n:Nat):Prop where
 depth:A.depth+2*n<=950
 units:A.units+40*n<=9700
 hand:A.handled=none
 grd:A.guards=some []
structure Ok (c:Cx) (A:Around) (n:Nat):Prop where
 base:yH9 c.w c.b
 lb:c.b.get? c.L=none
 lc:∀ y,c.cells.lookup y≠some c.L
 ch:∀ y a,c.cells.lookup y=some a->c.b.get? a=none
 ci:∀ x y a,c.cells.lookup x=some a->c.cells.lookup y=some a->x=y
 frames:A.frames=some c.frs
 room:zJ5 A n
noncomputable abbrev MM (c:Cx):Model:=model pw c.w
inductive qX1 (c:Cx) (φ:FP) (lc:Loc) (K:AV->AH->Prop) (v:Value) (s:Shared):Prop where
 |mk (φ':FP) (H':AH) (av:AV) (x:Ext φ φ') (N:Now c φ' H' lc s) (hv:qQ1 φ' av v) (k:K av H'):qX1 c φ lc K v s
noncomputable abbrev NoE:Value->Shared->Prop:=fun J J=>False
section
variable {c:Cx} {A:Around} {n:Nat} {φ:FP} {H:AH} {lc:Loc} {s:Shared} {K:AV->AH->Prop}
theorem qR7 (N:Now c φ H lc s) {av:AV} {v:Value} (h:qQ1 φ av v) (k:K av H):qX1 c φ lc K v s:=⟨φ,H,av,Ext.refl φ,N,h,k⟩
theorem qV1 {tk:Tok} (N:Now c φ H lc s) {av:AV} {v:Value} (h:qQ1 φ av v) (k:K av H):qX1 c φ lc K v {s with toks:=tk}:=⟨φ,H,av,Ext.refl φ,N.tok rfl rfl rfl,h,k⟩
theorem qX1.up {φ':FP} (x:Ext φ φ') {v:Value} {s':Shared} (g:qX1 c φ' lc K v s'):qX1 c φ lc K v s':=let ⟨φC,H',av,e,N,h,k⟩:=g;⟨φC,H',av,x.trans e,N,h,k⟩
theorem qR9 {vs us:List Value} {xs ys:List Int} (h:IntsAre vs xs) (h':IntsAre us ys):IntsAre (vs++us) (xs++ys):=by
 induction h with
 |nil=>exact h'
 |cons n t J ih=>exact .cons n t ih
theorem yW9 {vs:List Value} {xs:List Int} (h:IntsAre vs xs):vs.length=xs.length:=h.length
theorem qL2 {vs:List Value} {xs:List Int} (h:IntsAre vs xs):∀ k,IntsAre (vs.drop k) (xs.drop k):=by
 induction h with
 |nil=>intro k;simp;exact .nil
 |cons n t r ih=>
  intro k
  cases k with
  |zero=>exact .cons n t r
  |succ k=>simpa using ih k
theorem wW2 {vs:List Value} {xs:List Int} (h:IntsAre vs xs):∀ k,IntsAre (vs.take k) (xs.take k):=by
 induction h with
 |nil=>intro k;simp;exact .nil
 |cons n t r ih=>
  intro k
  cases k with
  |zero=>exact .nil
  |succ k=>simpa using .cons n t (ih k)
theorem qP1 {vs:List Value} {xs:List Int} (h:IntsAre vs xs):∀ k,k<xs.length->∃ t,vs[k]?=some (.int (xs.getD k 0) t):=by
 induction h with
 |nil=>intro k hk;simp at hk
 |cons n t r ih=>
  intro k hk
  cases k with
  |zero=>exact ⟨t,by simp⟩
  |succ k=>
   obtain ⟨u,e⟩:=ih k (by simpa using hk)
   exact ⟨u,by simpa using e⟩
theorem qV2:sizeLine=16777216:=by rw[sizeLine_eq]
theorem Now.newList {c:Cx} {φ:FP} {H:AH} {lc:Loc} {s:Shared} (N:Now c φ H lc s) {its:Array Value} {xs:List Int} (h:IntsAre its.toList xs) (hl:xs.length<=10000) (n:Nat) :
  Now c (φ++[[s.heap.objs.size]]) (H++[.il xs]) lc {s with heap:=s.heap.push (wX2 its n)}:=by
 refine N.add [s.heap.objs.size] (.il xs) (fun a o e=>Heap.get?_push_of_some _ e) (fun a ha=>?_) (by first|exact qQ6 rfl|exact .head _|simp) ⟨_,its,n,rfl,Heap.get?_push_size _ rfl,h,hl⟩ rfl rfl
 simp at ha
 subst ha
 refine ⟨?_,_,Heap.get?_push_size _ rfl⟩
 cases e:s.heap.get? s.heap.objs.size with
 |none=>rfl
 |some o=>exact absurd (Heap.lt_size e) (Nat.lt_irrefl _)
theorem qV6 {φ:FP} {H:AH} {P:Params} {b h:Heap} (R:Rel P b φ H h) (a:Addr) (l:List Addr):qQ1 (φ++[a::l]) (.obj H.length) (.ref a):=by
 refine ⟨a,l,?_,rfl⟩
 rw[<-R.len,List.getElem?_append_right (Nat.le_refl _)]
 simp
theorem qO5 {i:Int} {t:Tok}:qQ1 φ (.int i) (.int i t):=⟨t,rfl⟩
theorem zX2 {x:List Nat} {t:Tok}:qQ1 φ (.str x) (.str ⟨x.toArray⟩ t):=⟨t,rfl⟩
theorem wJ6 {b:Bool}:qQ1 φ (.bool b) (.bool b):=rfl
theorem qM6:qQ1 φ .none .none:=rfl
theorem zJ4 (x y:List Nat):(⟨x.toArray⟩++⟨y.toArray⟩:Str)=⟨(x++y).toArray⟩:=by
 apply Str.ext'
 rw[Str.cps_append]
 simp
theorem yD5 {i j:Int} {t u:Tok} (N:Now c φ H lc s) (k:K (.int (i+j)) H):wpAny (MM c) A (binaryOp .Add (.int i t) (.int j u)) (qX1 c φ lc K) NoE s:=
 PySem.P.add_int (qV1 N qO5 k)
theorem yV6 {i j:Int} {t u:Tok} (N:Now c φ H lc s) (k:K (.int (i-j)) H):wpAny (MM c) A (binaryOp .Sub (.int i t) (.int j u)) (qX1 c φ lc K) NoE s:=
 PySem.P.sub_int (qV1 N qO5 k)
theorem yV3 {i j:Int} {t u:Tok} (N:Now c φ H lc s) (hj:0<j) (k:K (.int (i % j)) H):wpAny (MM c) A (binaryOp .Mod (.int i t) (.int j u)) (qX1 c φ lc K) NoE s:=by
 refine PyProof.Rows.mod_int' (by omega) ?_
 rw[Int.fmod_eq_emod_of_nonneg _ (by exact Int.not_lt.mp fun gz=>lin [] [_] [(1,.il (.a (.c (0)) (.c 1)) (.v 0)),(1,.il (.a (.v 0) (.c 1)) (.c (0)))] rfl hj gz)]
 exact qV1 N qO5 k
set_option tactic.hygienic true in
theorem yB7 {x y:List Nat} {t u:Tok} (N:Now c φ H lc s) (hl:x.length+y.length<=1000) (k:K (.str (x++y)) H):wpAny (MM c) A (binaryOp .Add (.str ⟨x.toArray⟩ t) (.str ⟨y.toArray⟩ u)) (qX1 c φ lc K) NoE s:=by
 refine PySem.P.add_str ?_
 split
 ·rename_i h
  have:x=[]:=by simpa [Str.length] using h
  subst this
  exact qR7 N zX2 (by simpa using k)
 ·split
  ·rename_i h
   have:y=[]:=by simpa [Str.length] using h
   subst this
   exact qR7 N zX2 (by simpa using k)
  ·rw[zJ4]
   refine ⟨by rw[qV2];simp[Str.length];exact Nat.not_lt.mp fun gz=>lin [_,_] [] [(1,.nl (.a (.v 0) (.v 1)) (.c 1000)),(1,.nl (.a (.c 16777216) (.c 1)) (.a (.v 0) (.v 1)))] rfl hl gz,qV1 N zX2 k⟩
theorem qQ7 {h:Heap}:h.get? h.objs.size=none:=by
 cases e:h.get? h.objs.size with
 |none=>rfl
 |some o=>exact absurd (Heap.lt_size e) (Nat.lt_irrefl _)
inductive yN0 (φ:FP) (h:Heap) (k:Nat) (xs:List Int) (v:Value):Prop where
 |mk (x:Addr) (its:Array Value) (m:Nat) (e:v=.ref x) (hf:φ[k]?=some [x]) (h1:h.get? x=some (wX2 its m)) (h2:IntsAre its.toList xs) (h3:xs.length<=10000)
theorem qV7 {k:Nat} {xs:List Int} {v:Value} (N:Now c φ H lc s) (e:qQ0 H k=.il xs) (hv:qQ1 φ (.obj k) v):yN0 φ s.heap k xs v:=by
 obtain ⟨f,hf,x,its,m,rfl,h1,h2,h3⟩:=N.at e (qQ6 rfl)
 obtain ⟨a,l,h4,rfl⟩:=hv
 rw[hf]at h4
 cases h4
 exact ⟨_,its,m,rfl,hf,h1,h2,h3⟩
theorem xZ5 {k:Nat} {xs:List Int} {v:Value} (N:Now c φ H lc s) (e:qQ0 H k=.il xs∨qQ0 H k=.fl xs) (hv:qQ1 φ (.obj k) v) :
  ∃ x its,v=.ref x/\s.heap.IsList x its/\IntsAre its.toList xs/\xs.length<=10000:=by
 rcases e with e|e
 ·obtain ⟨x,its,m,e1,J,h1,h2,h3⟩:=qV7 N e hv
  exact ⟨x,its,e1,⟨_,h1,rfl,m,rfl⟩,h2,h3⟩
 ·obtain ⟨f,hf,x,its,rfl,h1,h2,h3⟩:=N.at e (qQ6 rfl)
  obtain ⟨a,l,h4,rfl⟩:=hv
  rw[hf]at h4
  cases h4
  exact ⟨_,its,rfl,h1,h2,h3⟩
theorem zP8 {k l:Nat} {xs ys:List Int} {v u:Value} (N:Now c φ H lc s) (e:qQ0 H k=.il xs) (e':qQ0 H l=.il ys) (hv:qQ1 φ (.obj k) v) (hu:qQ1 φ (.obj l) u) (hl:xs.length+ys.length<=10000)
  (kk:K (.obj H.length) (H++[.il (xs++ys)])):wpAny (MM c) A (binaryOp .Add v u) (qX1 c φ lc K) NoE s:=by
 obtain ⟨x,its,m,rfl,hf,h1,h2,J⟩:=qV7 N e hv
 obtain ⟨y,its',m',rfl,hf',h1',h2',J⟩:=qV7 N e' hu
 refine PySem.P.add_list h1 h1' ⟨_,_,_,Ext.app _ _,N.newList (its:=its++its') (xs:=xs++ys) (by rw[Array.toList_append];exact qR9 h2 h2') (by simpa using hl) 0,qV6 N.rel _ _,kk⟩ ?_
 have q1:=h2.length
 have q2:=h2'.length
 rw[qV2]
 simp only[Array.length_toList]at q1 q2
 omega
theorem yG1 {i:Int} {t:Tok} (N:Now c φ H lc s) (k:K (.int (-i)) H):wpAny (MM c) A (unaryOp .USub (.int i t)) (qX1 c φ lc K) NoE s:=
 PySem.P.neg_int (qV1 N qO5 k)
theorem jV1 {i j:Int} {t u:Tok} (N:Now c φ H lc s) (k:K (.bool (decide (i<j))) H):wpAny (MM c) A (compareOp .Lt (.int i t) (.int j u)) (qX1 c φ lc K) NoE s:=PySem.P.lt_int (qR7 N wJ6 k)
theorem jV4 {i j:Int} {t u:Tok} (N:Now c φ H lc s) (k:K (.bool (decide (i<=j))) H):wpAny (MM c) A (compareOp .LtE (.int i t) (.int j u)) (qX1 c φ lc K) NoE s:=PySem.P.le_int (qR7 N wJ6 k)
theorem jK8 {i j:Int} {t u:Tok} (N:Now c φ H lc s) (k:K (.bool (decide (j<i))) H):wpAny (MM c) A (compareOp .Gt (.int i t) (.int j u)) (qX1 c φ lc K) NoE s:=PySem.P.gt_int (qR7 N wJ6 k)
theorem jA4 {i j:Int} {t u:Tok} (N:Now c φ H lc s) (k:K (.bool (decide (j<=i))) H):wpAny (MM c) A (compareOp .GtE (.int i t) (.int j u)) (qX1 c φ lc K) NoE s:=PySem.P.ge_int (qR7 N wJ6 k)
noncomputable def dat (H:AH):AV->Option PyData
 |.none=>some .none
 |.bool b=>some (.bool b)
 |.int i=>some (.int i)
 |.str J=>none
 |.obj k=>match qQ0 H k with|.il xs=>some (.list (xs.map .int))|J=>none
noncomputable def xV7 (H:AH):List AV->Option (List PyData)
 |[]=>some []
 |a::r=>match dat H a,xV7 H r with|some d,some l=>some (d::l)|J,J2=>none
theorem xZ8 {k:Nat} {d:PyData} (e:dat H (.obj k)=some d):∃ xs,qQ0 H k=.il xs/\d=.list (xs.map .int):=by
 have key:∀{o:AO},(match o with|.il xs=>some (PyData.list (xs.map .int))|_=>none)=some d->∃ xs,o=.il xs/\d=.list (xs.map .int):=fun {o} h=>by
  cases o<;>first|(injection h;done)|exact ⟨_,rfl,(Option.some.inj h).symm⟩
 exact key e
theorem wW7 {a:AV} {r:List AV} {ds:List PyData} (e:xV7 H (a::r)=some ds):∃ d l,dat H a=some d/\xV7 H r=some l/\ds=d::l:=by
 have key:∀{o:Option PyData} {o':Option (List PyData)},(match o,o' with|some d,some l=>some (d::l)|J,J2=>none)=some ds->∃ d l,o=some d/\o'=some l/\ds=d::l:=fun {o o'} h=>by
  cases o<;>first|(injection h;done)|skip
  cases o'<;>first|(injection h;done)|exact ⟨_,_,rfl,rfl,(Option.some.inj h).symm⟩
 exact key e
theorem qL9 {a:AV} {d:PyData} (e:dat H a=some d):d.canLay0=true/\d.depth<=2:=by
 cases a with
 |none=>obtain rfl:=Option.some.inj e;exact ⟨rfl,by simp[PyData.depth]⟩
 |bool b=>obtain rfl:=Option.some.inj e;exact ⟨rfl,by simp[PyData.depth]⟩
 |int i=>obtain rfl:=Option.some.inj e;exact ⟨rfl,by simp[PyData.depth]⟩
 |str J=>injection e
 |obj k=>
  obtain ⟨xs,J,rfl⟩:=xZ8 e
  refine ⟨by simp only[PyData.canLay0];exact W.canLayAll0_ints _,?_⟩
  simp only[PyData.depth]
  have h:=W.depthAll_ints xs
  omega
theorem qO1:∀{l:List AV} {ds:List PyData},xV7 H l=some ds->PyData.canLayAll0 ds=true/\PyData.depthAll ds<=2:=@fun ξ=>no_implicit_lambda%(match @ξ with
 |[]=>@fun J e=>by obtain rfl:=Option.some.inj e;simp[PyData.canLayAll0,PyData.depthAll]
 |a::r=>@fun ds e=>by
  obtain ⟨d,l,e1,e2,rfl⟩:=wW7 e
  obtain ⟨h1,h2⟩:=qL9 e1
  obtain ⟨h3,h4⟩:=qO1 e2
  simp only[PyData.canLayAll0,PyData.depthAll,h1,h3,Bool.and_self,true_and]
  exact Nat.max_le.mpr ⟨h2,h4⟩
 )
theorem wC1 {a b:AV} {r:Bool} (e:vEq H a b=some r) (ha:∀ x,a≠.str x):∃ d d',dat H a=some d/\dat H b=some d'/\Spec.same d d'=r/\SeqAt.noMix d d'=true:=by
 refine xV3 e (fun e1 e2 e3=>?_) (fun i j e1 e2 e3=>?_) (fun i j e1 e2 e3=>?_) (fun x J e1 J J=>absurd e1 (ha x)) fun k l xs ys e1 e2 h h' e3=>?_
 all_goals subst e1 e2 e3
 ·exact ⟨.none,.none,rfl,rfl,by simp[Spec.same],by simp[SeqAt.noMix]⟩
 ·exact ⟨.int i,.int j,rfl,rfl,by simp only[Spec.same];rw[Bool.eq_iff_iff];simp,by simp[SeqAt.noMix]⟩
 ·exact ⟨.bool i,.bool j,rfl,rfl,by cases i<;>cases j<;>simp[Spec.same],by simp[SeqAt.noMix]⟩
 ·refine ⟨.list (xs.map .int),.list (ys.map .int),?_,?_,?_,?_⟩
  ·show (match qQ0 H k with|.il xs=>some (PyData.list (xs.map .int))|_=>none)=_
   rw[h]
  ·show (match qQ0 H l with|.il xs=>some (PyData.list (xs.map .int))|_=>none)=_
   rw[h']
  ·simp only[Spec.same];exact W.same_ints _ _
  ·simp only[SeqAt.noMix];exact W.noMix_ints _ _
theorem wQ0:∀{x y:List AV} {r:Bool},wO8 H x y=some r->(∀ a∈x,∀ t,a≠.str t)->∃ d d',xV7 H x=some d/\xV7 H y=some d'/\Spec.sameAll d d'=r/\SeqAt.noMixAll d d'=true:=@fun ξ ξ2=>no_implicit_lambda%(match @ξ,@ξ2 with
 |[],[]=>@fun r e J=>by obtain rfl:=Option.some.inj e;exact ⟨[],[],rfl,rfl,by simp[Spec.sameAll],by simp[SeqAt.noMixAll]⟩
 |[],J::J2=>@fun J3 e J4=>by injection e
 |J::J2,[]=>@fun J3 e J4=>by injection e
 |a::x,b::y=>@fun r e ha=>xT5 e fun p q e1 e2 e3=>by
  obtain ⟨d,d',h1,h2,h3,h4⟩:=wC1 e1 (ha a (.head _))
  obtain ⟨l,l',k1,k2,k3,k4⟩:=wQ0 e2 fun z hz=>ha z (.tail _ hz)
  refine ⟨d::l,d'::l',?_,?_,?_,by simp[SeqAt.noMixAll,h4,k4]⟩
  ·show (match dat H a,xV7 H x with|some d,some l=>some (d::l)|J,J2=>none)=_
   rw[h1,k1]
  ·show (match dat H b,xV7 H y with|some d,some l=>some (d::l)|J,J2=>none)=_
   rw[h2,k2]
  ·subst e3
   simp only[Spec.sameAll,h3,k3]
   cases p<;>rfl
 )
theorem qI7 {a:AV} {d:PyData} {v:Value} (N:Now c φ H lc s) (e:dat H a=some d) (h:qQ1 φ a v):∃ as,Reads s.heap v d as:=by
 cases a with
 |none=>obtain rfl:=Option.some.inj e;subst h;exact ⟨_,.none⟩
 |bool b=>obtain rfl:=Option.some.inj e;subst h;exact ⟨_,.bool b⟩
 |int i=>obtain rfl:=Option.some.inj e;obtain ⟨t,rfl⟩:=h;exact ⟨_,.int i t⟩
 |str J=>injection e
 |obj k=>
  obtain ⟨xs,hx,rfl⟩:=xZ8 e
  obtain ⟨x,its,m,rfl,hf,h1,h2,J⟩:=qV7 N hx h
  exact ⟨_,W.reads_of_ints (vs:=its.toList) ⟨_,h1,rfl,m,rfl⟩ h2⟩
theorem qE0:∀{l:List AV} {ds:List PyData} {vs:List Value},Now c φ H lc s->xV7 H l=some ds->qQ4 φ l vs->∃ as,ReadsAll s.heap vs ds as:=@fun ξ=>no_implicit_lambda%(match @ξ with
 |[]=>@fun J J2 J3 e h=>by obtain rfl:=Option.some.inj e;subst h;exact ⟨_,.nil⟩
 |a::r=>@fun ds vs N e h=>by
  obtain ⟨d,l,e1,e2,rfl⟩:=wW7 e
  obtain ⟨v,us,rfl,h1,h2⟩:=h
  obtain ⟨as,q⟩:=qI7 N e1 h1
  obtain ⟨bs,q'⟩:=qE0 N e2 h2
  exact ⟨_,.cons q q'⟩
 )
inductive yT9 (φ:FP) (h:Heap) (k:Nat) (xs:List AV) (v:Value):Prop where
 |mk (x:Addr) (its:Array Value) (m:Nat) (e:v=.ref x) (hf:φ[k]?=some [x]) (h1:h.get? x=some (wX2 its m)) (h2:qQ4 φ xs its.toList) (h3:xs.length<=10000)
theorem qP6 {k:Nat} {xs:List AV} {v:Value} (N:Now c φ H lc s) (e:qQ0 H k=.vl xs) (hv:qQ1 φ (.obj k) v):yT9 φ s.heap k xs v:=by
 obtain ⟨f,hf,x,its,m,rfl,h1,h2,h3⟩:=N.at e (qQ6 rfl)
 obtain ⟨a,l,h4,rfl⟩:=hv
 rw[hf]at h4
 cases h4
 exact ⟨_,its,m,rfl,hf,h1,h2,h3⟩
end
noncomputable def yW8 (K:Frag) (C:Addr) (x:Str):Bool:=
 plainGet K C x&&(hasDictIn K C&&((match findIn K (.ref C) x with|some a=>noGet K a|none=>false) &&
  (findIn K (.ref C) "__setattr__"==some (some (.builtin "object.__setattr__"))&&(plainOver K C&&(takerIn K C x==some none)))))
noncomputable def yZ0 (K:Frag) (C:Addr) (x:Str) (f:Addr):Bool:=
 plainGet K C x&&(findIn K (.ref C) x==some (some (.ref f))&&isFn K (.ref f))
noncomputable def yK3 (K:Frag) (C:Addr) (f:Addr):Bool:=
 makesIn K C&&(findIn K (.ref C) "__init__"==some (some (.ref f))&&(isFn K (.ref f)&&keepIn K (.ref C)))
theorem qC4 {l:List Nat} {x:Nat} (h:qJ3 l x=true):x∈l:=by
 induction l with
 |nil=>exact nf h
 |cons y r ih=>
  have h':(match Nat.beq y x with|true=>true|false=>qJ3 r x)=true:=h
  cases e:Nat.beq y x with
  |true=>rw[Nat.eq_of_beq_eq_true e];exact .head _
  |false=>rw[e]at h';exact .tail _ (ih h')
theorem qX4 {α:Type} {l:List (Nat×α)} {x:Nat} {v:α} (h:qW8 l x=some v):(x,v)∈l:=by
 induction l with
 |nil=>injection h
 |cons p r ih=>
  obtain ⟨y,u⟩:=p
  have h':(match Nat.beq y x with|true=>some u|false=>qW8 r x)=some v:=h
  cases e:Nat.beq y x with
  |true=>rw[e]at h';rw[Nat.eq_of_beq_eq_true e,Option.some.inj h'];exact .head _
  |false=>rw[e]at h';exact .tail _ (ih h')
theorem jQ3 (P:Params):((List.range 8).all fun c=>(okA c).all fun a=>yW8 (KP P) (qH5 c) (nm a))=true:=by kernel_rfl!
theorem yO8 (P:Params):((List.range 8).all fun c=>(mtL c).all fun p=>yZ0 (KP P) (qH5 c) (nm p.1) p.2)=true:=by kernel_rfl!
theorem yI3 (P:Params):(clT.all fun p=>yK3 (KP P) (qH5 p.2.1) p.2.2&&nsIn (KP P) mainGlobals (nm p.1)==some (some (.ref (qH5 p.2.1))))=true:=by kernel_rfl!
theorem yI6 (P:Params):(gfT.all fun p=>keepIn (KP P) (.ref p.2)&&nsIn (KP P) mainGlobals (nm p.1)==some (some (.ref p.2)))=true:=by kernel_rfl!
noncomputable def xT1 (v:Option (Option Value)) (i:Int):Bool:=match v with|some (some (.int j J))=>decide (i=j)|J=>false
theorem jW5 (P:Params):(gcT.all fun p=>xT1 (nsIn (KP P) mainGlobals (nm p.1)) p.2)=true:=by kernel_rfl!
theorem wS5 {c a:Nat} (P:Params) (h:qJ3 (okA c) a=true):yW8 (KP P) (qH5 c) (nm a)=true:=by
 have hc:c<8:=Nat.lt_of_not_le fun g=>by
  obtain ⟨d,rfl⟩:=Nat.exists_eq_add_of_le' g
  exact nf h
 exact List.all_eq_true.mp (List.all_eq_true.mp (jQ3 P) c (List.mem_range.mpr hc)) a (qC4 h)
theorem zG3 {c a:Nat} {f:Addr} (h:mt c a=some f):c<8:=Nat.lt_of_not_le fun g=>by
 obtain ⟨d,rfl⟩:=Nat.exists_eq_add_of_le' g
 have e:(none:Option Addr)=some f:=h
 cases e
theorem xQ9 {c a:Nat} {f:Addr} (P:Params) (h:mt c a=some f):yZ0 (KP P) (qH5 c) (nm a) f=true:=by
 exact List.all_eq_true.mp (List.all_eq_true.mp (yO8 P) c (List.mem_range.mpr (zG3 h))) (a,f) (qX4 h)
section
variable {c:Cx} {A:Around} {n:Nat} {φ:FP} {H:AH} {lc:Loc} {s:Shared} {K:AV->AH->Prop}
theorem Ok.kp (O:Ok c A n):(KP c.w.params).In c.b:=zZ6 O.base.hp
theorem Ok.here (O:Ok c A n) (N:Now c φ H lc s):(KP c.w.params).In s.heap:=O.kp.keeps N.rel.stays
theorem wV4 {k cl:Nat} {fs:Loc} {v:Value} (N:Now c φ H lc s) (e:qQ0 H k=.inst cl fs) (hv:qQ1 φ (.obj k) v) :
  ∃ x d m,v=.ref x/\φ[k]?=some [x,d]/\s.heap.get? x=some (xM6 (qH5 cl) d)/\s.heap.Ns1 d m/\wH4 φ m fs:=by
 obtain ⟨f,hf,x,d,m,rfl,h1,h2,h3⟩:=N.at e (qQ6 rfl)
 obtain ⟨a,l,h4,rfl⟩:=hv
 rw[hf]at h4
 cases h4
 exact ⟨_,d,m,rfl,hf,h1,h2,h3⟩
set_option tactic.hygienic true in
theorem zQ7 {h:Heap} {d:Addr} {m:Str->Option Value} (x:h.Ns1 d m) (name:Str):∃ o,h.get? d=some o/\lookIn name o=some (m name):=by
 obtain ⟨o,es,ep,e,hd,hk,J,hf⟩:=x
 refine ⟨o,e,?_⟩
 unfold lookIn
 rw[hd]
 have hn:=hf name
 unfold nsFind findBy at hn
 rw[<-Array.find?_toList]at hn
 dsimp only
 split
 ·rename_i en he
  rw[he]at hn
  exact congrArg some hn
 ·rename_i he
  rw[he]at hn
  have:es.toList.any (·.refKey)=false:=by
   cases q:es.toList.any (·.refKey) with
   |false=>rfl
   |true=>
    obtain ⟨en,h1,h2⟩:=List.any_eq_true.mp q
    have:=hk en (Array.mem_toList_iff.mp h1)
    revert h2 this
    obtain ⟨J,key,J⟩:=en
    cases key<;>simp[DictEntry.refKey]
  rw[this]
  simp only[Bool.false_eq_true,if_false]
  exact congrArg some hn
end
section
variable {c:Cx} {A:Around} {n:Nat} {φ:FP} {H:AH} {lc:Loc} {s:Shared} {K:AV->AH->Prop}
theorem xY4 {a:AV} {v:Value} (h:qQ1 φ a v):handedIn v=true:=by
 cases a with
 |none=>subst h;rfl
 |bool b=>subst h;rfl
 |int i=>obtain ⟨t,rfl⟩:=h;rfl
 |str x=>obtain ⟨t,rfl⟩:=h;rfl
 |obj k=>obtain ⟨a,l,J,rfl⟩:=h;rfl
theorem wA8 {k cl:Nat} {fs:Loc} {x d:Addr} {m:Str->Option Value} {h:Heap} (h1:h.get? x=some (xM6 (qH5 cl) d)) (h2:h.Ns1 d m) (name:Str) :
  ∃ od,W.InstAt h x (xM6 (qH5 cl) d) (qH5 cl) (some od)/\lookIn name od=some (m name):=by
 obtain ⟨o,e,r⟩:=zQ7 h2 name
 exact ⟨o,⟨h1,rfl,rfl,e⟩,r⟩
set_option tactic.hygienic true in
theorem xI5 (O:Ok c A n) (N:Now c φ H lc s) {k cl a:Nat} {fs:Loc} {u:AV} {v:Value} {ex:Bool} (e:qQ0 H k=.inst cl fs) (hm:qJ3 (okA cl) a=true) (hl:lk fs a=some u) (hv:qQ1 φ (.obj k) v) (kk:K u H) :
  wpAny (MM c) A (getAttr v (nm a) ex) (qX1 c φ lc K) NoE s:=by
 obtain ⟨x,d,m,rfl,hf,h1,h2,h3⟩:=wV4 N e hv
 obtain ⟨w,e1,e2⟩:=h3.val a u hl
 obtain ⟨od,I,q⟩:=wA8 (k:=k) (fs:=fs) h1 h2 (nm a)
 rw[e1]at q
 have ck:=wS5 c.w.params hm
 simp only[yW8,Bool.and_eq_true]at ck
 obtain ⟨c1,c2,c3,J⟩:=ck
 split at c3
 ·rename_i at_ hat
  exact get_value (O.here N) I (plainGet_of c1).1 (findObj_own c2 hat c3 q) (xY4 e2) (qV1 N e2 kk)
 ·exact nf c3
set_option tactic.hygienic true in
theorem yD8 (O:Ok c A n) (N:Now c φ H lc s) {k cl a:Nat} {fs:Loc} {u:AV} {v w:Value} (e:qQ0 H k=.inst cl fs) (hm:qJ3 (okA cl) a=true) (hv:qQ1 φ (.obj k) v) (hw:qQ1 φ u w) (hlen:fs.length<=40)
  {Q:Unit->Shared->Prop} (kk:∀ s',Now c φ (qX7 H k (.inst cl (st fs a u))) lc s'->Q () s') :
  wpAny (MM c) A (setAttr v (nm a) w) Q NoE s:=by
 obtain ⟨x,d,m,rfl,hf,h1,h2,h3⟩:=wV4 N e hv
 obtain ⟨od,I,q⟩:=wA8 (k:=k) (fs:=fs) h1 h2 (nm a)
 have ck:=wS5 c.w.params hm
 simp only[yW8,Bool.and_eq_true,beq_iff_eq]at ck
 obtain ⟨c1,c2,c3,c4,c5,c6⟩:=ck
 have X:=O.here N
 have ne:x≠d:=by
  intro z
  subst z
  obtain ⟨o,es,ep,e1,e2,J⟩:=h2
  rw[h1]at e1
  obtain rfl:=Option.some.inj e1
  injection e2
 refine set_plain X I c4 (osa_open (s:={s with toks:=s.toks+1}) X I c5 c6 fun b=>?_)
 obtain ⟨cd,hc,hd'⟩:=any_some c2
 refine wpAny_bind (wpAny_pure (wpAny_bind (wpAny_bind (wpAny_loadPart h1 (wpAny_bind ((looks_clsIn X hc).here (s:={s with toks:=s.toks+1}) ?_))))))
 rw[hd']
 refine wpAny_pure (a:=some d) (wpAny_bind (wpAny_pure (wpAny_bind (wpAny_nsSet1 h2 fun h' hn hs=>?_))))
 have wi:Within (fun y=>if y=nm a then some w else m y) (nm a::fs.map fun p=>nm p.1):=by
  intro y hy
  by_cases z:y=nm a
  ·exact z▸.head _
  ·simp only[if_neg z]at hy
   obtain ⟨b',hb,rfl⟩:=h3.only y (by cases q':m y with|none=>exact absurd q' hy|some J=>rfl)
   refine .tail _ (List.mem_map.mpr ?_)
   obtain ⟨u',hu'⟩:=Option.isSome_iff_exists.mp hb
   have:∀{l:Loc} {z:Nat} {r:AV},lk l z=some r->∃ p∈l,p.1=z:=by
    intro l z r
    induction l with
    |nil=>intro e;injection e
    |cons p l ih=>
     intro e
     obtain ⟨y',v'⟩:=p
     exact qC5 e (fun e' J=>⟨_,.head _,e'⟩) fun J e=>let ⟨p',h1,h2⟩:=ih e;⟨p',.tail _ h1,h2⟩
   obtain ⟨p,hp1,hp2⟩:=this hu'
   exact ⟨p,hp1,by rw[hp2]⟩
 obtain ⟨oD,esD,epD,hoD,hdD,hcD⟩:=hn.count wi
 refine wpAny_bind (wpAny_lookBehind hoD (by rw[hdD];exact pastItsLine_dict (by rw[List.length_cons,List.length_map]at hcD;rw[qV2];exact Nat.not_lt.mp fun gz=>lin [_,_] [] [(1,.nl (.v 0) (.c 40)),(1,.nl (.v 1) (.a (.v 0) (.c 1))),(1,.nl (.a (.a (.c 16777216) (.c 1)) (.c 1)) (.v 1))] rfl hlen hcD gz)) ?_)
 refine wpAny_pure (kk _ (N.upd (s':={s with heap:=h',toks:=s.toks+1+1}) hf (by rw[e];rfl) (.inst cl (st fs a u)) (fun b o nb e=>?_) (fun b hb=>?_) ?_ rfl rfl))
 ·exact (hs.2 b fun z=>nb (by rw[z];simp)).trans e
 ·simp at hb
  rcases hb with rfl|rfl
  ·exact ⟨_,(hs.2 b ne).trans h1⟩
  ·exact ⟨_,hoD⟩
 ·exact ⟨x,d,_,rfl,(hs.2 x ne).trans h1,hn,h3.st hw⟩
theorem xP3 (O:Ok c A n) (N:Now c φ H lc s) {k cl a:Nat} {fs:Loc} {f:Addr} {v:Value} {pl:Sem Bool} (e:qQ0 H k=.inst cl fs) (hm:mt cl a=some f) (hl:lk fs a=none) (hv:qQ1 φ (.obj k) v)
  {Q:Value×List Value->Shared->Prop} (kk:Q (.ref f,[v]) s):wpAny (MM c) A (getMethod v (nm a) pl) Q NoE s:=by
 obtain ⟨x,d,m,rfl,hf,h1,h2,h3⟩:=wV4 N e hv
 obtain ⟨od,I,q⟩:=wA8 (k:=k) (fs:=fs) h1 h2 (nm a)
 have hn:m (nm a)=none:=by
  cases z:m (nm a) with
  |none=>rfl
  |some u=>
   obtain ⟨b,hb,e⟩:=h3.only (nm a) (by rw[z];rfl)
   rw[<-qK6 e,hl]at hb
   exact nf hb
 rw[hn]at q
 have ck:=xQ9 c.w.params hm
 simp only[yZ0,Bool.and_eq_true,beq_iff_eq]at ck
 obtain ⟨c1,c2,c3⟩:=ck
 exact method_fn (O.here N) I (plainGet_of c1).1 (plainGet_of c1).2 c2 (beq_iff_eq.mp c3) (by show (lookIn (nm a) od).map _=_;rw[q];rfl) kk
inductive yP9 (φ:FP) (h:Heap) (k:Nat) (v:Value):Prop
 |mk (x d:Addr) (m:Str->Option Value) (g:Addr) (gs ge:Nat) (tr t1 t2:Tok) (e:v=.ref x) (hf:φ[k]?=some [x,d,g]) (h1:h.get? x=some (xM6 (qH5 3) d)) (h2:h.Ns1 d m)
  (h3:∀ y,m y=if y=Str.ofString "room" then some (.int 8 tr) else if y=Str.ofString "cells" then some (.ref g) else if y=Str.ofString "gap_start" then some (.int (gs:Nat) t1) else if y=Str.ofString "gap_end" then some (.int (ge:Nat) t2) else none)
theorem yE2 {k:Nat} {xs:List Int} {v:Value} (N:Now c φ H lc s) (e:qQ0 H k=.gp xs) (hv:qQ1 φ (.obj k) v):yP9 φ s.heap k v:=by
 obtain ⟨f,hf,x,d,m,g,its,n,cells,gs,ge,tr,t1,t2,e0,h1,h2,h3,h4,h5,h6,h7,h8,h9,h10⟩:=N.at e (qQ6 rfl)
 obtain ⟨a,l,h4,rfl⟩:=hv
 rw[hf,e0]at h4
 cases h4
 exact ⟨_,d,m,g,gs,ge,tr,t1,t2,rfl,e0▸hf,h1,h2,h3⟩
noncomputable def jZ9:List Nat:=(mt3.map (·.1))
theorem wS8:((jZ9.all fun a=>!(nm a==Str.ofString "room")&&!(nm a==Str.ofString "cells")&&!(nm a==Str.ofString "gap_start")&&!(nm a==Str.ofString "gap_end")))=true:=by decide +kernel
theorem zK3 (O:Ok c A n) (N:Now c φ H lc s) {k a:Nat} {xs:List Int} {f:Addr} {v:Value} {pl:Sem Bool} (e:qQ0 H k=.gp xs) (hm:mt 3 a=some f) (hv:qQ1 φ (.obj k) v)
  {Q:Value×List Value->Shared->Prop} (kk:Q (.ref f,[v]) s):wpAny (MM c) A (getMethod v (nm a) pl) Q NoE s:=by
 obtain ⟨x,d,m,g,gs,ge,tr,t1,t2,rfl,hf,h1,h2,h3⟩:=yE2 N e hv
 obtain ⟨od,I,q⟩:=wA8 (k:=k) (fs:=[]) h1 h2 (nm a)
 have hn:m (nm a)=none:=by
  have z:=List.all_eq_true.mp wS8 a (List.mem_map_of_mem (f:=(·.1)) (qX4 (show qW8 mt3 a=some f from hm)))
  simp only[Bool.and_eq_true,Bool.not_eq_true',beq_eq_false_iff_ne]at z
  obtain ⟨⟨⟨z1,z2⟩,z3⟩,z4⟩:=z
  rw[h3,if_neg z1,if_neg z2,if_neg z3,if_neg z4]
 rw[hn]at q
 have ck:=xQ9 c.w.params hm
 simp only[yZ0,Bool.and_eq_true,beq_iff_eq]at ck
 obtain ⟨c1,c2,c3⟩:=ck
 exact method_fn (O.here N) I (plainGet_of c1).1 (plainGet_of c1).2 c2 (beq_iff_eq.mp c3) (by show (lookIn (nm a) od).map _=_;rw[q];rfl) kk
end
noncomputable def qX8 (sc:Scope) (x:Str) (k:NameKind):Bool:=match sc.names.lookup x with|some j=>decide (j=k)|none=>false
noncomputable def yY0 (s:List Nat) (t:Str):Bool:=decide ((⟨s.toArray⟩:Str)=t)
noncomputable def qI2:Expr->Bool
 |.Name ..=>true
 |.Attribute ..=>true
 |.Subscript ..=>true
 |.Call J (J2::J3) J4 J5=>true
 |J=>false
theorem tt2 {a b:Bool} (h:(a&&b)=true):a=true/\b=true:=(Bool.and_eq_true a b).mp h
theorem ttd {p:Prop} [Decidable p] (h:decide p=true):p:=of_decide_eq_true h
theorem ttn {a:Bool} (h:(!a)=true):a=false:=by cases a with|true=>exact nf h|false=>rfl
theorem tto {a b:Bool} (h:(a || b)=true):a=true∨b=true:=(Bool.or_eq_true a b).mp h
section
variable {P:Prop}
noncomputable def dB (p:Prop) [Decidable p] (f:p->Bool):Bool:=if h:p then f h else false
theorem qH3 {p:Prop} [Decidable p] {f:p->Bool} (h:dB p f=true) (q:∀ h:p,f h=true->P):P:=by
 have h':(if h:p then f h else false)=true:=h
 by_cases c:p
 ·rw[dif_pos c]at h'
  exact q c h'
 ·rw[dif_neg c]at h'
  exact nf h'
noncomputable def zB0 (t:Expr) (k:Const->Nat->Pos->Bool):Bool:=dB (t.ctorIdx=19) fun h=>Expr.Constant.elim (motive_1:=fun J=>Bool) t h k
theorem wX1 {t:Expr} {k:Const->Nat->Pos->Bool} (h:zB0 t k=true) (q:∀ a b c,t=.Constant a b c->k a b c=true->P):P:=qH3 h fun h0 g=>Expr.Constant.elim (motive_1:=fun t=>∀ h:t.ctorIdx=19,Expr.Constant.elim (motive_1:=fun J=>Bool) t h k=true->(∀ a b c,t=.Constant a b c->k a b c=true->P)->P) t h0 (fun a b c J g q=>q a b c rfl g) h0 g q
noncomputable def xV5 (t:Expr) (k:Str->Pos->Bool):Bool:=dB (t.ctorIdx=23) fun h=>Expr.Name.elim (motive_1:=fun J=>Bool) t h k
theorem qF0 {t:Expr} {k:Str->Pos->Bool} (h:xV5 t k=true) (q:∀ a b,t=.Name a b->k a b=true->P):P:=qH3 h fun h0 g=>Expr.Name.elim (motive_1:=fun t=>∀ h:t.ctorIdx=23,Expr.Name.elim (motive_1:=fun J=>Bool) t h k=true->(∀ a b,t=.Name a b->k a b=true->P)->P) t h0 (fun a b J g q=>q a b rfl g) h0 g q
noncomputable def yZ8 (t:Expr) (k:Expr->Str->Pos->Bool):Bool:=dB (t.ctorIdx=20) fun h=>Expr.Attribute.elim (motive_1:=fun J=>Bool) t h k
theorem wN6 {t:Expr} {k:Expr->Str->Pos->Bool} (h:yZ8 t k=true) (q:∀ a b c,t=.Attribute a b c->k a b c=true->P):P:=qH3 h fun h0 g=>Expr.Attribute.elim (motive_1:=fun t=>∀ h:t.ctorIdx=20,Expr.Attribute.elim (motive_1:=fun J=>Bool) t h k=true->(∀ a b c,t=.Attribute a b c->k a b c=true->P)->P) t h0 (fun a b c J g q=>q a b c rfl g) h0 g q
noncomputable def yI8 (t:Expr) (k:Expr->Operator->Expr->Pos->Bool):Bool:=dB (t.ctorIdx=2) fun h=>Expr.BinOp.elim (motive_1:=fun J=>Bool) t h k
theorem zL6 {t:Expr} {k:Expr->Operator->Expr->Pos->Bool} (h:yI8 t k=true) (q:∀ a b c d,t=.BinOp a b c d->k a b c d=true->P):P:=qH3 h fun h0 g=>Expr.BinOp.elim (motive_1:=fun t=>∀ h:t.ctorIdx=2,Expr.BinOp.elim (motive_1:=fun J=>Bool) t h k=true->(∀ a b c d,t=.BinOp a b c d->k a b c d=true->P)->P) t h0 (fun a b c d J g q=>q a b c d rfl g) h0 g q
noncomputable def wUn (t:Expr) (k:UnaryOp->Expr->Pos->Bool):Bool:=dB (t.ctorIdx=3) fun h=>Expr.UnaryOp.elim (motive_1:=fun J=>Bool) t h k
theorem zC7 {t:Expr} {k:UnaryOp->Expr->Pos->Bool} (h:wUn t k=true) (q:∀ a b c,t=.UnaryOp a b c->k a b c=true->P):P:=qH3 h fun h0 g=>Expr.UnaryOp.elim (motive_1:=fun t=>∀ h:t.ctorIdx=3,Expr.UnaryOp.elim (motive_1:=fun J=>Bool) t h k=true->(∀ a b c,t=.UnaryOp a b c->k a b c=true->P)->P) t h0 (fun a b c J g q=>q a b c rfl g) h0 g q
noncomputable def yK7 (t:Expr) (k:BoolOp->List Expr->Pos->Bool):Bool:=dB (t.ctorIdx=0) fun h=>Expr.BoolOp.elim (motive_1:=fun J=>Bool) t h k
theorem xP5 {t:Expr} {k:BoolOp->List Expr->Pos->Bool} (h:yK7 t k=true) (q:∀ a b c,t=.BoolOp a b c->k a b c=true->P):P:=qH3 h fun h0 g=>Expr.BoolOp.elim (motive_1:=fun t=>∀ h:t.ctorIdx=0,Expr.BoolOp.elim (motive_1:=fun J=>Bool) t h k=true->(∀ a b c,t=.BoolOp a b c->k a b c=true->P)->P) t h0 (fun a b c J g q=>q a b c rfl g) h0 g q
noncomputable def yL6 (t:Expr) (k:Expr->List CmpOp->List Expr->Pos->Bool):Bool:=dB (t.ctorIdx=15) fun h=>Expr.Compare.elim (motive_1:=fun J=>Bool) t h k
theorem zC9 {t:Expr} {k:Expr->List CmpOp->List Expr->Pos->Bool} (h:yL6 t k=true) (q:∀ a b c d,t=.Compare a b c d->k a b c d=true->P):P:=qH3 h fun h0 g=>Expr.Compare.elim (motive_1:=fun t=>∀ h:t.ctorIdx=15,Expr.Compare.elim (motive_1:=fun J=>Bool) t h k=true->(∀ a b c d,t=.Compare a b c d->k a b c d=true->P)->P) t h0 (fun a b c d J g q=>q a b c d rfl g) h0 g q
noncomputable def wIf (t:Expr) (k:Expr->Expr->Expr->Pos->Bool):Bool:=dB (t.ctorIdx=5) fun h=>Expr.IfExp.elim (motive_1:=fun J=>Bool) t h k
theorem yY2 {t:Expr} {k:Expr->Expr->Expr->Pos->Bool} (h:wIf t k=true) (q:∀ a b c d,t=.IfExp a b c d->k a b c d=true->P):P:=qH3 h fun h0 g=>Expr.IfExp.elim (motive_1:=fun t=>∀ h:t.ctorIdx=5,Expr.IfExp.elim (motive_1:=fun J=>Bool) t h k=true->(∀ a b c d,t=.IfExp a b c d->k a b c d=true->P)->P) t h0 (fun a b c d J g q=>q a b c d rfl g) h0 g q
noncomputable def yY3 (t:Expr) (k:Expr->List Expr->List Keyword->Pos->Bool):Bool:=dB (t.ctorIdx=16) fun h=>Expr.Call.elim (motive_1:=fun J=>Bool) t h k
theorem xI3 {t:Expr} {k:Expr->List Expr->List Keyword->Pos->Bool} (h:yY3 t k=true) (q:∀ a b c d,t=.Call a b c d->k a b c d=true->P):P:=qH3 h fun h0 g=>Expr.Call.elim (motive_1:=fun t=>∀ h:t.ctorIdx=16,Expr.Call.elim (motive_1:=fun J=>Bool) t h k=true->(∀ a b c d,t=.Call a b c d->k a b c d=true->P)->P) t h0 (fun a b c d J g q=>q a b c d rfl g) h0 g q
noncomputable def zM8 (t:Expr) (k:Expr->Expr->Pos->Bool):Bool:=dB (t.ctorIdx=21) fun h=>Expr.Subscript.elim (motive_1:=fun J=>Bool) t h k
theorem wG1 {t:Expr} {k:Expr->Expr->Pos->Bool} (h:zM8 t k=true) (q:∀ a b c,t=.Subscript a b c->k a b c=true->P):P:=qH3 h fun h0 g=>Expr.Subscript.elim (motive_1:=fun t=>∀ h:t.ctorIdx=21,Expr.Subscript.elim (motive_1:=fun J=>Bool) t h k=true->(∀ a b c,t=.Subscript a b c->k a b c=true->P)->P) t h0 (fun a b c J g q=>q a b c rfl g) h0 g q
noncomputable def yD0 (t:Expr) (k:Option Expr->Option Expr->Option Expr->Pos->Bool):Bool:=dB (t.ctorIdx=26) fun h=>Expr.Slice.elim (motive_1:=fun J=>Bool) t h k
theorem xP6 {t:Expr} {k:Option Expr->Option Expr->Option Expr->Pos->Bool} (h:yD0 t k=true) (q:∀ a b c d,t=.Slice a b c d->k a b c d=true->P):P:=qH3 h fun h0 g=>Expr.Slice.elim (motive_1:=fun t=>∀ h:t.ctorIdx=26,Expr.Slice.elim (motive_1:=fun J=>Bool) t h k=true->(∀ a b c d,t=.Slice a b c d->k a b c d=true->P)->P) t h0 (fun a b c d J g q=>q a b c d rfl g) h0 g q
noncomputable def yL7 (t:Expr) (k:List Expr->Pos->Bool):Bool:=dB (t.ctorIdx=24) fun h=>Expr.List.elim (motive_1:=fun J=>Bool) t h k
theorem zO5 {t:Expr} {k:List Expr->Pos->Bool} (h:yL7 t k=true) (q:∀ a b,t=.List a b->k a b=true->P):P:=qH3 h fun h0 g=>Expr.List.elim (motive_1:=fun t=>∀ h:t.ctorIdx=24,Expr.List.elim (motive_1:=fun J=>Bool) t h k=true->(∀ a b,t=.List a b->k a b=true->P)->P) t h0 (fun a b J g q=>q a b rfl g) h0 g q
noncomputable def yF0 (t:Expr) (k:List Expr->Nat->Pos->Bool):Bool:=dB (t.ctorIdx=25) fun h=>Expr.Tuple.elim (motive_1:=fun J=>Bool) t h k
theorem xM7 {t:Expr} {k:List Expr->Nat->Pos->Bool} (h:yF0 t k=true) (q:∀ a b c,t=.Tuple a b c->k a b c=true->P):P:=qH3 h fun h0 g=>Expr.Tuple.elim (motive_1:=fun t=>∀ h:t.ctorIdx=25,Expr.Tuple.elim (motive_1:=fun J=>Bool) t h k=true->(∀ a b c,t=.Tuple a b c->k a b c=true->P)->P) t h0 (fun a b c J g q=>q a b c rfl g) h0 g q
noncomputable def yL3 (t:Expr) (k:List (Option Expr)->List Expr->Pos->Bool):Bool:=dB (t.ctorIdx=6) fun h=>Expr.Dict.elim (motive_1:=fun J=>Bool) t h k
theorem yQ5 {t:Expr} {k:List (Option Expr)->List Expr->Pos->Bool} (h:yL3 t k=true) (q:∀ a b c,t=.Dict a b c->k a b c=true->P):P:=qH3 h fun h0 g=>Expr.Dict.elim (motive_1:=fun t=>∀ h:t.ctorIdx=6,Expr.Dict.elim (motive_1:=fun J=>Bool) t h k=true->(∀ a b c,t=.Dict a b c->k a b c=true->P)->P) t h0 (fun a b c J g q=>q a b c rfl g) h0 g q
noncomputable def wLc (t:Expr) (k:Expr->List Comprehension->Scope->Pos->Bool):Bool:=dB (t.ctorIdx=8) fun h=>Expr.ListComp.elim (motive_1:=fun J=>Bool) t h k
theorem zC1 {t:Expr} {k:Expr->List Comprehension->Scope->Pos->Bool} (h:wLc t k=true) (q:∀ a b c d,t=.ListComp a b c d->k a b c d=true->P):P:=qH3 h fun h0 g=>Expr.ListComp.elim (motive_1:=fun t=>∀ h:t.ctorIdx=8,Expr.ListComp.elim (motive_1:=fun J=>Bool) t h k=true->(∀ a b c d,t=.ListComp a b c d->k a b c d=true->P)->P) t h0 (fun a b c d J g q=>q a b c d rfl g) h0 g q
noncomputable def zEx (t:Stmt) (k:Expr->Pos->Bool):Bool:=dB (t.ctorIdx=24) fun h=>Stmt.Expr.elim (motive_2:=fun J=>Bool) t h k
theorem zT2 {t:Stmt} {k:Expr->Pos->Bool} (h:zEx t k=true) (q:∀ a b,t=.Expr a b->k a b=true->P):P:=qH3 h fun h0 g=>Stmt.Expr.elim (motive_2:=fun t=>∀ h:t.ctorIdx=24,Stmt.Expr.elim (motive_2:=fun J=>Bool) t h k=true->(∀ a b,t=.Expr a b->k a b=true->P)->P) t h0 (fun a b J g q=>q a b rfl g) h0 g q
noncomputable def zAs (t:Stmt) (k:List Expr->Expr->Pos->Bool):Bool:=dB (t.ctorIdx=5) fun h=>Stmt.Assign.elim (motive_2:=fun J=>Bool) t h k
theorem zI4 {t:Stmt} {k:List Expr->Expr->Pos->Bool} (h:zAs t k=true) (q:∀ a b c,t=.Assign a b c->k a b c=true->P):P:=qH3 h fun h0 g=>Stmt.Assign.elim (motive_2:=fun t=>∀ h:t.ctorIdx=5,Stmt.Assign.elim (motive_2:=fun J=>Bool) t h k=true->(∀ a b c,t=.Assign a b c->k a b c=true->P)->P) t h0 (fun a b c J g q=>q a b c rfl g) h0 g q
noncomputable def zRe (t:Stmt) (k:Option Expr->Pos->Bool):Bool:=dB (t.ctorIdx=3) fun h=>Stmt.Return.elim (motive_2:=fun J=>Bool) t h k
theorem zW8 {t:Stmt} {k:Option Expr->Pos->Bool} (h:zRe t k=true) (q:∀ a b,t=.Return a b->k a b=true->P):P:=qH3 h fun h0 g=>Stmt.Return.elim (motive_2:=fun t=>∀ h:t.ctorIdx=3,Stmt.Return.elim (motive_2:=fun J=>Bool) t h k=true->(∀ a b,t=.Return a b->k a b=true->P)->P) t h0 (fun a b J g q=>q a b rfl g) h0 g q
noncomputable def zIf (t:Stmt) (k:Expr->List Stmt->List Stmt->Pos->Bool):Bool:=dB (t.ctorIdx=12) fun h=>Stmt.If.elim (motive_2:=fun J=>Bool) t h k
theorem yB2 {t:Stmt} {k:Expr->List Stmt->List Stmt->Pos->Bool} (h:zIf t k=true) (q:∀ a b c d,t=.If a b c d->k a b c d=true->P):P:=qH3 h fun h0 g=>Stmt.If.elim (motive_2:=fun t=>∀ h:t.ctorIdx=12,Stmt.If.elim (motive_2:=fun J=>Bool) t h k=true->(∀ a b c d,t=.If a b c d->k a b c d=true->P)->P) t h0 (fun a b c d J g q=>q a b c d rfl g) h0 g q
noncomputable def zFo (t:Stmt) (k:Expr->Expr->List Stmt->List Stmt->Pos->Bool):Bool:=dB (t.ctorIdx=9) fun h=>Stmt.For.elim (motive_2:=fun J=>Bool) t h k
theorem yC8 {t:Stmt} {k:Expr->Expr->List Stmt->List Stmt->Pos->Bool} (h:zFo t k=true) (q:∀ a b c d e,t=.For a b c d e->k a b c d e=true->P):P:=qH3 h fun h0 g=>Stmt.For.elim (motive_2:=fun t=>∀ h:t.ctorIdx=9,Stmt.For.elim (motive_2:=fun J=>Bool) t h k=true->(∀ a b c d e,t=.For a b c d e->k a b c d e=true->P)->P) t h0 (fun a b c d e J g q=>q a b c d e rfl g) h0 g q
noncomputable def zWh (t:Stmt) (k:Expr->List Stmt->List Stmt->Pos->Bool):Bool:=dB (t.ctorIdx=11) fun h=>Stmt.While.elim (motive_2:=fun J=>Bool) t h k
theorem yE7 {t:Stmt} {k:Expr->List Stmt->List Stmt->Pos->Bool} (h:zWh t k=true) (q:∀ a b c d,t=.While a b c d->k a b c d=true->P):P:=qH3 h fun h0 g=>Stmt.While.elim (motive_2:=fun t=>∀ h:t.ctorIdx=11,Stmt.While.elim (motive_2:=fun J=>Bool) t h k=true->(∀ a b c d,t=.While a b c d->k a b c d=true->P)->P) t h0 (fun a b c d J g q=>q a b c d rfl g) h0 g q
noncomputable def zRa (t:Stmt) (k:Option Expr->Option Expr->Pos->Bool):Bool:=dB (t.ctorIdx=16) fun h=>Stmt.Raise.elim (motive_2:=fun J=>Bool) t h k
theorem yG5 {t:Stmt} {k:Option Expr->Option Expr->Pos->Bool} (h:zRa t k=true) (q:∀ a b c,t=.Raise a b c->k a b c=true->P):P:=qH3 h fun h0 g=>Stmt.Raise.elim (motive_2:=fun t=>∀ h:t.ctorIdx=16,Stmt.Raise.elim (motive_2:=fun J=>Bool) t h k=true->(∀ a b c,t=.Raise a b c->k a b c=true->P)->P) t h0 (fun a b c J g q=>q a b c rfl g) h0 g q
noncomputable def zTr (t:Stmt) (k:List Stmt->List ExceptHandler->List Stmt->List Stmt->Pos->Bool):Bool:=dB (t.ctorIdx=17) fun h=>Stmt.Try.elim (motive_2:=fun J=>Bool) t h k
theorem yY9 {t:Stmt} {k:List Stmt->List ExceptHandler->List Stmt->List Stmt->Pos->Bool} (h:zTr t k=true) (q:∀ a b c d e,t=.Try a b c d e->k a b c d e=true->P):P:=qH3 h fun h0 g=>Stmt.Try.elim (motive_2:=fun t=>∀ h:t.ctorIdx=17,Stmt.Try.elim (motive_2:=fun J=>Bool) t h k=true->(∀ a b c d e,t=.Try a b c d e->k a b c d e=true->P)->P) t h0 (fun a b c d e J g q=>q a b c d e rfl g) h0 g q
noncomputable def wJ0 {α:Type} (l:List α) (k:α->Bool):Bool:=match l with|[]=>false|a::r=>(match r with|[]=>k a|J::J2=>false)
theorem qY2 {α:Type} {l:List α} {k:α->Bool} (h:wJ0 l k=true) (q:∀ a,l=[a]->k a=true->P):P:=
 match l,h,q with|[],h,J=>nf h|[a],h,q=>q a rfl h|J::J2::J3,h,J4=>nf h
noncomputable def wR7 {α:Type} (l:List α):Bool:=match l with|[]=>true|J::J2=>false
theorem qC0 {α:Type} {l:List α} (h:wR7 l=true):l=[]:=match l,h with|[],J=>rfl|J::J2,h=>nf h
noncomputable def wSo {α:Type} (l:Option α) (k:α->Bool):Bool:=match l with|none=>false|some a=>k a
theorem wV7 {α:Type} {l:Option α} {k:α->Bool} (h:wSo l k=true) (q:∀ a,l=some a->k a=true->P):P:=match l,h,q with|none,h,J=>nf h|some a,h,q=>q a rfl h
noncomputable def wNo {α:Type} (l:Option α):Bool:=match l with|none=>true|some J=>false
theorem xV2 {α:Type} {l:Option α} (h:wNo l=true):l=none:=match l,h with|none,J=>rfl|some J,h=>nf h
noncomputable def wNC (e:Expr) (k:Str->List Expr->Bool):Bool:=yY3 e fun f es ks J=>wR7 ks&&xV5 f fun y J=>k y es
theorem wI3 {e:Expr} {k:Str->List Expr->Bool} (h:wNC e k=true) (q:∀ y np es p,e=.Call (.Name y np) es [] p->k y es=true->P):P:=
 xI3 h fun f es ks p e1 h=>qF0 (tt2 h).2 fun y np e2 h'=>q y np es p (by rw[e1,e2,qC0 (tt2 h).1]) h'
noncomputable def yD2 (t:Stmt) (k:Str->Expr->List Stmt->Bool):Bool:=zFo t fun y it b r J=>wR7 r&&xV5 y fun y J=>k y it b
theorem xO6 {t:Stmt} {k:Str->Expr->List Stmt->Bool} (h:yD2 t k=true) (q:∀ y yp it b p,t=.For (.Name y yp) it b [] p->k y it b=true->P):P:=
 yC8 h fun y it b r p e1 h=>qF0 (tt2 h).2 fun y' yp e2 h'=>q y' yp it b p (by rw[e1,e2,qC0 (tt2 h).1]) h'
noncomputable def wWh (t:Stmt) (k:Expr->List Stmt->Bool):Bool:=zWh t fun e b r J=>wR7 r&&k e b
theorem zG0 {t:Stmt} {k:Expr->List Stmt->Bool} (h:wWh t k=true) (q:∀ e b p,t=.While e b [] p->k e b=true->P):P:=
 yE7 h fun e b r p e1 h=>q e b p (by rw[e1,qC0 (tt2 h).1]) (tt2 h).2
end
noncomputable def kNo (c:Const):Bool:=match c with|.none=>true|J=>false
noncomputable def kBo (b:Bool) (c:Const):Bool:=match c with|.bool d=>decide (b=d)|J=>false
noncomputable def kIn (i:Int) (c:Const):Bool:=match c with|.int d=>decide (i=d)|J=>false
noncomputable def kSt (s:List Nat) (c:Const):Bool:=match c with|.str d=>yY0 s d|J=>false
noncomputable def yB1:Bop->Operator
 |.add=>.Add|.sub=>.Sub|.mul=>.Mult|.mod=>.Mod|.fdiv=>.FloorDiv
noncomputable def xC6:Cop->CmpOp
 |.eq=>.Eq|.ne=>.NotEq|.lt=>.Lt|.le=>.LtE|.gt=>.Gt|.ge=>.GtE|.is=>.Is|.isnot=>.IsNot|.cin=>.In|.nin=>.NotIn
noncomputable def biN:Nat->String
 |0=>"len"|1=>"min"|2=>"max"|3=>"list"|4=>"sorted"|J=>"abs"
noncomputable def qZ5:Expr->Bool
 |.Starred ..=>false
 |J=>true
noncomputable def rlb (scope sc:Scope):Scope:={scope with names:=scope.names.map fun(n,k)=>if (k==.free&&sc.kind==.function&&sc.names.lookup n==some .cell) then (n,.cell) else (n,k)}
noncomputable def qT0 (l:List (Str×NameKind)):List Str:=(l.filter fun p=>p.2==.free).map (·.1)
noncomputable def qP9:List (Str×NameKind)->Bool
 |[]=>true
 |p::r=>!(decide (p.2=.cell))&&qP9 r
noncomputable def qL6 (scope sc:Scope) (x:Nat) (fv:List Nat):Bool:=
 decide (scope.kind=.function)&&(qP9 scope.names&&(qX8 scope (nm x) .local&&(decide (qT0 scope.names=fv.map nm)&&((scope.names.all fun p=>(p.2 != .local || scope.names.lookup p.1==some .local)&&(p.2 != .free || scope.names.lookup p.1==some .free)) &&
 (fv.all fun y=>qX8 sc (nm y) .cell&&qX8 (rlb scope sc) (nm y) .cell)))))
noncomputable def xY9:Expr->Bool
 |.Set ..=>false
 |J=>true
noncomputable def zD0:Expr->Bool
 |.Slice ..=>false
 |J=>true
noncomputable def zE6:X->Bool
 |.none=>true
 |J=>false
noncomputable def wX4 (sc:Scope) (y:Str) (z:Str) (es:List Expr) (r:Bool):Bool:=decide (y=z)&&(!(y=="__debug__")&&(qX8 sc y .globalImplicit&&(decide (es.length<=20)&&r)))
noncomputable def mKs:List (List Nat)->List (Option Expr)->Bool
 |[],es=>wR7 es
 |k::ks,es=>(match es with|[]=>false|o::es=>(wSo o fun e=>zB0 e fun c J J=>kSt k c)&&mKs ks es)
noncomputable def mPB (nx:Bool) (l:Option Expr) (k:Expr->Bool):Bool:=match l with|none=>nx|some e=>!nx&&k e
mutual
noncomputable def mX (sc:Scope):X->Expr->Bool
 |.bad,e=>qZ5 e
 |.none,e=>zB0 e fun c J J=>kNo c
 |.bool b,e=>zB0 e fun c J J=>kBo b c
 |.int i,e=>zB0 e fun c J J=>kIn i c
 |.str s,e=>zB0 e fun c J J=>kSt s c
 |.loc x,e=>xV5 e fun y J=>decide (y=nm x)&&(!(y=="__debug__")&&(qX8 sc y .local || qX8 sc y .cell))
 |.glob g,e=>xV5 e fun y J=>decide (y=nm g)&&(!(y=="__debug__")&&qX8 sc y .globalImplicit)
 |.attr o a,e=>yZ8 e fun v at_ J=>decide (at_=nm a)&&(qI2 v&&mX sc o v)
 |.bin op a b,e=>yI8 e fun l o r J=>decide (o=yB1 op)&&(mX sc a l&&mX sc b r)
 |.neg a,e=>wUn e fun o v J=>decide (o=.USub)&&mX sc a v
 |.not a,e=>wUn e fun o v J=>decide (o=.Not)&&mX sc a v
 |.and xs,e=>yK7 e fun o es J=>decide (o=.And)&&mXs sc xs es
 |.or xs,e=>yK7 e fun o es J=>decide (o=.Or)&&mXs sc xs es
 |.cmp op a b,e=>yL6 e fun l os rs J=>wJ0 os fun o=>wJ0 rs fun r=>decide (o=xC6 op)&&(!behindInMarks o r&&(mX sc a l&&mX sc b r))
 |.ite t a b,e=>wIf e fun e e1 e2 J=>mX sc t e&&(mX sc a e1&&mX sc b e2)
 |.call g args,e=>wNC e fun y es=>wX4 sc y (nm g) es (mXs sc args es)
 |.mk g args,e=>wNC e fun y es=>wX4 sc y (nm g) es (mXs sc args es)
 |.bi g args,e=>wNC e fun y es=>wX4 sc y (Str.ofString (biN g)) es (mXs sc args es)
 |.meth o a args,e=>yY3 e fun f es ks pos=>wR7 ks&&yZ8 f fun v at_ apos=>decide (at_=nm a)&&(qI2 v&&(decide (apos.endLine=pos.line)&&(decide (es.length<=20)&&(mX sc o v&&mXs sc args es))))
 |.sub o i,e=>zM8 e fun v j J=>zD0 j&&(mX sc o v&&mX sc i j)
 |.slice o lo hi,e=>zM8 e fun v j J=>yD0 j fun l u st J=>wNo st&&(mX sc o v&&(mPB (zE6 lo) l (fun e=>mX sc lo e)&&mPB (zE6 hi) u (fun e=>mX sc hi e)))
 |.list args,e=>yL7 e fun es J=>decide (es.length<=20)&&mXs sc args es
 |.tup args,e=>yF0 e fun es J J=>decide (es.length<=20)&&mXs sc args es
 |.dict ks args,e=>yL3 e fun keys vals J=>mKs ks keys&&(decide (ks.length<=8)&&(decide (keys.length=vals.length)&&mXs sc args vals))
 |.comp rng x fv src ifs elt,e=>wLc e fun el gs scope J=>wJ0 gs fun g=>decide (g.is_async=0)&&xV5 g.target fun y J=>decide (y=nm x)&&(qL6 scope sc x fv &&
  ((match rng with
   |true=>wNC g.iter fun r ms=>wJ0 ms fun m=>decide (r=Str.ofString "range")&&(qX8 sc r .globalImplicit&&(qZ5 m&&mX sc src m))
   |false=>xY9 g.iter&&mX sc src g.iter)&&(decide (g.ifs.length<=1)&&(mXs (rlb scope sc) ifs g.ifs&&mX (rlb scope sc) elt el))))
noncomputable def mXs (sc:Scope):Xs->List Expr->Bool
 |.nil,es=>wR7 es
 |.cons x xs,es=>(match es with|[]=>false|e::es=>qZ5 e&&(mX sc x e&&mXs sc xs es))
end
noncomputable def mT1 (sc:Scope):T1->Expr->Bool
 |.loc x,e=>xV5 e fun y J=>decide (y=nm x)&&(qX8 sc y .local || qX8 sc y .cell)
 |.attr o a,e=>yZ8 e fun v at_ J=>decide (at_=nm a)&&mX sc o v
 |.sub o i,e=>zM8 e fun v j J=>zD0 j&&(mX sc o v&&mX sc i j)
noncomputable def mTs (sc:Scope):List T1->List Expr->Bool
 |[],es=>wR7 es
 |t::ts,es=>(match es with|[]=>false|e::es=>qZ5 e&&(mT1 sc t e&&mTs sc ts es))
noncomputable def qN4:List T1->List Nat
 |[]=>[]
 |.loc x::r=>x::qN4 r
 |J::r=>qN4 r
noncomputable def mT (sc:Scope):T->Expr->Bool
 |.one t,e=>mT1 sc t e
 |.slice o lo hi,e=>zM8 e fun v j J=>yD0 j fun l u st J=>wNo st&&(wSo l fun l=>wSo u fun u=>mX sc o v&&(mX sc lo l&&mX sc hi u))
 |.tup ts,e=>yF0 e fun es J J=>mTs sc ts es&&qH0 (qN4 ts)
noncomputable def wA6:Expr->Bool
 |.ListComp ..=>false
 |.SetComp ..=>false
 |.DictComp ..=>false
 |J=>true
noncomputable def zG5:Expr->Bool
 |.Call ..=>true
 |.Constant ..=>true
 |J=>false
noncomputable def xY3 (t e:Expr):Bool:=match t with
 |.Tuple ts J J2=>(match e with
  |.Tuple vs J J2=>(decide (ts.length<=8)&&!(decide (ts.length≥2)&&(vs.all (constantsAlone 8)&&!(vs.all (foldedForSure 8)))))
  |J=>decide (ts.length<=8))
 |J=>true
noncomputable def wA5:X->Bool
 |.comp ..=>true
 |J=>false
noncomputable def yJ5 (p:Pos) (t:Str) (e:Expr):Bool:=wLc e fun J J s pos=>p.line==pos.line&&!(s.names.any fun(n,k)=>n==t&&(k==.local || k==.cell))
noncomputable def yL9:Expr->Bool
 |.Set ..=>false
 |J=>true
noncomputable def zF0 (e:X):Bool:=match e with|.bad=>true|J=>false
mutual
noncomputable def mY (sc:Scope):Y->Stmt->Bool
 |.no,J=>true
 |.expr e,t=>zEx t fun v J=>zG5 v&&mX sc e v
 |.asgn tt e,t=>zAs t fun ts v J=>wJ0 ts fun tg=>mT sc tt tg&&((wA6 v || zF0 e)&&(xY3 tg v&&mX sc e v))
 |.asgc x e,t=>zAs t fun ts v J=>wJ0 ts fun tg=>xV5 tg fun y p=>decide (y=nm x)&&(qX8 sc y .local&&(wA5 e&&(yJ5 p y v&&mX sc e v)))
 |.ret e,t=>zRe t fun v J=>wSo v fun v=>mX sc e v
 |.ret0,t=>zRe t fun v J=>wNo v
 |.ife c a b,t=>zIf t fun t x y J=>mX sc c t&&(mYs sc a x&&mYs sc b y)
 |.forl J x e body,t=>yD2 t fun y it b=>decide (y=nm x)&&(qX8 sc y .local&&(yL9 it&&(mX sc e it&&mYs sc body b)))
 |.forr J x e body,t=>yD2 t fun y it b=>wNC it fun r ns=>wJ0 ns fun n=>decide (y=nm x)&&(decide (r=Str.ofString "range")&&(qX8 sc y .local&&(qX8 sc r .globalImplicit&&(qZ5 n&&(mX sc e n&&mYs sc body b)))))
 |.whl J c body,t=>wWh t fun e b=>mX sc c e&&mYs sc body b
 |.whs c body,t=>wWh t fun e b=>mX sc c e&&mYs sc body b
 |.raise g args,t=>zRa t fun o f J=>wNo f&&wSo o fun e=>wNC e fun y es=>decide (y=nm g)&&(decide (g=qK9)&&(qX8 sc y .globalImplicit&&(decide (es.length=2)&&mXs sc args es)))
noncomputable def mYs (sc:Scope):Ys->List Stmt->Bool
 |.nil,ts=>wR7 ts
 |.cons y ys,ts=>(match ts with|[]=>false|st::sts=>mY sc y st&&mYs sc ys sts)
end
noncomputable def mF (st:Stmt) (ps:List Nat) (body:Ys):Bool:=match st with
 |.FunctionDef J args b J2 J3 J4 sc J5 J6 J7=>mYs sc body b&&decide (args.args.map (·.arg)=ps.map nm)
 |J=>false
theorem zZ4 {sc:Scope} {y z:Str} {es:List Expr} {r:Bool} (h:wX4 sc y z es r=true):y=z/\(z==("__debug__":Str))=false/\qX8 sc z .globalImplicit=true/\es.length<=20/\r=true:=by
 obtain ⟨h1,h⟩:=tt2 h
 obtain ⟨h2,h⟩:=tt2 h
 obtain ⟨h3,h4⟩:=tt2 h
 obtain rfl:=ttd h1
 exact ⟨rfl,ttn h2,h3,ttd (tt2 h4).1,(tt2 h4).2⟩
theorem zF7 {c:Const} (h:kNo c=true):c=.none:=by cases c<;>first|rfl|exact nf h
theorem yQ0 {b:Bool} {c:Const} (h:kBo b c=true):c=.bool b:=by cases c<;>first|exact nf h|exact congrArg _ (ttd h).symm
theorem zM9 {b:Int} {c:Const} (h:kIn b c=true):c=.int b:=by cases c<;>first|exact nf h|exact congrArg _ (ttd h).symm
theorem xN6 {b:List Nat} {c:Const} (h:kSt b c=true):c=.str ⟨b.toArray⟩:=by cases c<;>first|exact nf h|exact congrArg _ (ttd h).symm
section
variable {sc:Scope} {e:Expr}
theorem wE7 (h:mX sc .none e=true):∃ k p,e=.Constant .none k p:=wX1 h fun J k p e1 h=>⟨k,p,zF7 h▸e1⟩
theorem qF9 {b:Bool} (h:mX sc (.bool b) e=true):∃ k p,e=.Constant (.bool b) k p:=wX1 h fun J k p e1 h=>⟨k,p,yQ0 h▸e1⟩
theorem xS7 {i:Int} (h:mX sc (.int i) e=true):∃ k p,e=.Constant (.int i) k p:=wX1 h fun J k p e1 h=>⟨k,p,zM9 h▸e1⟩
theorem zW3 {x:List Nat} (h:mX sc (.str x) e=true):∃ k p,e=.Constant (.str ⟨x.toArray⟩) k p:=wX1 h fun J k p e1 h=>⟨k,p,xN6 h▸e1⟩
theorem wB8 {o:X} {a:Nat} (h:mX sc (.attr o a) e=true):∃ v p,e=.Attribute v (nm a) p/\qI2 v=true/\mX sc o v=true:=
 wN6 h fun v J p e1 h=>⟨v,p,ttd (tt2 h).1▸e1,tt2 (tt2 h).2⟩
theorem qO8 {x:Nat} (h:mX sc (.loc x) e=true):∃ p,e=.Name (nm x) p/\(nm x==("__debug__":Str))=false/\(qX8 sc (nm x) .local=true∨qX8 sc (nm x) .cell=true):=
 qF0 h fun y p e1 h=>by
  obtain rfl:=ttd (tt2 h).1
  exact ⟨p,e1,ttn (tt2 (tt2 h).2).1,tto (tt2 (tt2 h).2).2⟩
theorem xD0 {x:Nat} (h:mX sc (.glob x) e=true):∃ p,e=.Name (nm x) p/\(nm x==("__debug__":Str))=false/\qX8 sc (nm x) .globalImplicit=true:=
 qF0 h fun y p e1 h=>by
  obtain rfl:=ttd (tt2 h).1
  exact ⟨p,e1,ttn (tt2 (tt2 h).2).1,(tt2 (tt2 h).2).2⟩
theorem xT8 {op:Bop} {a b:X} (h:mX sc (.bin op a b) e=true):∃ l r p,e=.BinOp l (yB1 op) r p/\mX sc a l=true/\mX sc b r=true:=
 zL6 h fun l J r p e1 h=>⟨l,r,p,ttd (tt2 h).1▸e1,tt2 (tt2 h).2⟩
theorem zV8 {a:X} (h:mX sc (.neg a) e=true):∃ v p,e=.UnaryOp .USub v p/\mX sc a v=true:=zC7 h fun J v p e1 h=>⟨v,p,ttd (tt2 h).1▸e1,(tt2 h).2⟩
theorem wT8 {a:X} (h:mX sc (.not a) e=true):∃ v p,e=.UnaryOp .Not v p/\mX sc a v=true:=zC7 h fun J v p e1 h=>⟨v,p,ttd (tt2 h).1▸e1,(tt2 h).2⟩
theorem xX1 {xs:Xs} (h:mX sc (.and xs) e=true):∃ es p,e=.BoolOp .And es p/\mXs sc xs es=true:=xP5 h fun J v p e1 h=>⟨v,p,ttd (tt2 h).1▸e1,(tt2 h).2⟩
theorem xI2 {xs:Xs} (h:mX sc (.or xs) e=true):∃ es p,e=.BoolOp .Or es p/\mXs sc xs es=true:=xP5 h fun J v p e1 h=>⟨v,p,ttd (tt2 h).1▸e1,(tt2 h).2⟩
theorem xV0 {op:Cop} {a b:X} (h:mX sc (.cmp op a b) e=true):∃ l r p,e=.Compare l [xC6 op] [r] p/\behindInMarks (xC6 op) r=false/\mX sc a l=true/\mX sc b r=true:=
 zC9 h fun l os rs p e1 h=>qY2 h fun o e2 h=>qY2 h fun r e3 h=>by
  subst e2 e3
  obtain rfl:=ttd (tt2 h).1
  exact ⟨l,r,p,e1,ttn (tt2 (tt2 h).2).1,tt2 (tt2 (tt2 h).2).2⟩
theorem zY3 {t a b:X} (h:mX sc (.ite t a b) e=true):∃ e1 e2 e3 p,e=.IfExp e1 e2 e3 p/\mX sc t e1=true/\mX sc a e2=true/\mX sc b e3=true:=
 yY2 h fun a b c p e1 h=>⟨a,b,c,p,e1,(tt2 h).1,tt2 (tt2 h).2⟩
theorem yY5 {z:Str} {r:List Expr->Bool} (h:wNC e (fun y es=>wX4 sc y z es (r es))=true):∃ np es p,e=.Call (.Name z np) es [] p/\(z==("__debug__":Str))=false/\qX8 sc z .globalImplicit=true/\es.length<=20/\r es=true:=
 wI3 h fun y np es p e1 h=>by
  obtain ⟨rfl,h⟩:=zZ4 h
  exact ⟨np,es,p,e1,h⟩
theorem wY2 {g:Nat} {args:Xs} (h:mX sc (.call g args) e=true):∃ np es p,e=.Call (.Name (nm g) np) es [] p/\(nm g==("__debug__":Str))=false/\qX8 sc (nm g) .globalImplicit=true/\es.length<=20/\mXs sc args es=true:=yY5 h
theorem zE9 {g:Nat} {args:Xs} (h:mX sc (.mk g args) e=true):∃ np es p,e=.Call (.Name (nm g) np) es [] p/\(nm g==("__debug__":Str))=false/\qX8 sc (nm g) .globalImplicit=true/\es.length<=20/\mXs sc args es=true:=yY5 h
theorem zP1 {g:Nat} {args:Xs} (h:mX sc (.bi g args) e=true):∃ np es p,e=.Call (.Name (Str.ofString (biN g)) np) es [] p/\(Str.ofString (biN g)==("__debug__":Str))=false/\qX8 sc (Str.ofString (biN g)) .globalImplicit=true/\es.length<=20/\mXs sc args es=true:=yY5 h
theorem wF5 {o:X} {a:Nat} {args:Xs} (h:mX sc (.meth o a args) e=true):∃ v ap p es,e=.Call (.Attribute v (nm a) ap) es [] p/\qI2 v=true/\ap.endLine=p.line/\es.length<=20/\mX sc o v=true/\mXs sc args es=true:=
 xI3 h fun f es ks p e1 h=>wN6 (tt2 h).2 fun v y ap e2 h'=>by
  obtain rfl:=qC0 (tt2 h).1
  obtain ⟨h1,h⟩:=tt2 h'
  obtain ⟨h2,h⟩:=tt2 h
  obtain ⟨h3,h⟩:=tt2 h
  exact ⟨v,ap,p,es,ttd h1▸e2▸e1,h2,ttd h3,ttd (tt2 h).1,tt2 (tt2 h).2⟩
theorem wR0 {o i:X} (h:mX sc (.sub o i) e=true):∃ v j p,e=.Subscript v j p/\mX sc o v=true/\mX sc i j=true:=wG1 h fun v j p e1 h=>⟨v,j,p,e1,tt2 (tt2 h).2⟩
theorem xU7 {x:X} (h:zE6 x=true):x=.none:=by cases x<;>first|rfl|exact nf h
noncomputable abbrev mP (sc:Scope) (x:X) (o:Option Expr):Bool:=mPB (zE6 x) o fun e=>mX sc x e
theorem xZ9 {o lo hi:X} (h:mX sc (.slice o lo hi) e=true):∃ v l u sp p,e=.Subscript v (.Slice l u none sp) p/\mX sc o v=true/\mP sc lo l=true/\mP sc hi u=true:=
 wG1 h fun v j p e1 h=>xP6 h fun l u st sp e2 h=>⟨v,l,u,sp,p,xV2 (tt2 h).1▸e2▸e1,(tt2 (tt2 h).2).1,tt2 (tt2 (tt2 h).2).2⟩
theorem xF7 {args:Xs} (h:mX sc (.list args) e=true):∃ es p,e=.List es p/\es.length<=20/\mXs sc args es=true:=zO5 h fun es p e1 h=>⟨es,p,e1,ttd (tt2 h).1,(tt2 h).2⟩
theorem xU9 {args:Xs} (h:mX sc (.tup args) e=true):∃ es k p,e=.Tuple es k p/\es.length<=20/\mXs sc args es=true:=xM7 h fun es k p e1 h=>⟨es,k,p,e1,ttd (tt2 h).1,(tt2 h).2⟩
inductive yC9 (sc:Scope) (ks:List (List Nat)) (args:Xs) (e:Expr):Prop
 |mk (keys:List (Option Expr)) (vals:List Expr) (p:Pos) (e0:e=.Dict keys vals p) (h1:mKs ks keys=true) (h2:ks.length<=8) (h3:keys.length=vals.length) (h4:mXs sc args vals=true)
theorem xY6 {ks:List (List Nat)} {args:Xs} (h:mX sc (.dict ks args) e=true):yC9 sc ks args e:=
 yQ5 h fun a b p e1 h=>⟨a,b,p,e1,(tt2 h).1,ttd (tt2 (tt2 h).2).1,ttd (tt2 (tt2 (tt2 h).2).2).1,(tt2 (tt2 (tt2 h).2).2).2⟩
theorem xJ2 {P:Prop} {x:Nat} {fv:List Nat} {f:Expr->Bool} {ifs:Xs} {elt:X} (h:wLc e (fun el gs scope J=>wJ0 gs fun g=>decide (g.is_async=0)&&xV5 g.target fun y J=>decide (y=nm x)&&(qL6 scope sc x fv&&(f g.iter&&(decide (g.ifs.length<=1)&&(mXs (rlb scope sc) ifs g.ifs&&mX (rlb scope sc) elt el)))))=true)
  (q:∀ el px it cs scope pos,e=.ListComp el [⟨.Name (nm x) px,it,cs,0⟩] scope pos->qL6 scope sc x fv=true->f it=true->cs.length<=1->mXs (rlb scope sc) ifs cs=true->mX (rlb scope sc) elt el=true->P):P:=
 zC1 h fun el gs scope p e1 h=>qY2 h fun g e2 h=>qF0 (tt2 h).2 fun y px e3 h'=>by
  obtain ⟨tg,it,cs,a⟩:=g
  obtain rfl:a=0:=ttd (tt2 h).1
  obtain rfl:tg=_:=e3
  have h':=tt2 h'
  obtain rfl:=ttd h'.1
  have h2:=tt2 h'.2
  have h3:=tt2 h2.2
  have h4:=tt2 h3.2
  have h5:=tt2 h4.2
  exact q el px it cs scope p (e2▸e1) h2.1 h3.1 (ttd h4.1) h5.1 h5.2
inductive yC6 (sc:Scope) (x:Nat) (fv:List Nat) (src:X) (ifs:Xs) (elt:X) (e:Expr):Prop
 |mk (el:Expr) (px rp:Pos) (m:Expr) (p:Pos) (cs:List Expr) (scope:Scope) (pos:Pos) (e0:e=.ListComp el [⟨.Name (nm x) px,.Call (.Name (Str.ofString "range") rp) [m] [] p,cs,0⟩] scope pos) (h1:qL6 scope sc x fv=true) (h2:qX8 sc (Str.ofString "range") .globalImplicit=true) (h3:qZ5 m=true) (h4:mX sc src m=true) (h5:cs.length<=1) (h6:mXs (rlb scope sc) ifs cs=true) (h7:mX (rlb scope sc) elt el=true)
theorem qU6 {x:Nat} {fv:List Nat} {src:X} {ifs:Xs} {elt:X} (h:mX sc (.comp true x fv src ifs elt) e=true):yC6 sc x fv src ifs elt e:=
 xJ2 (f:=fun it=>wNC it fun r ms=>wJ0 ms fun m=>decide (r=Str.ofString "range")&&(qX8 sc r .globalImplicit&&(qZ5 m&&mX sc src m))) h fun el px it cs scope pos e0 h1 h2 h5 h6 h7=>
  wI3 h2 fun r rp ms p e1 h2=>qY2 h2 fun m e2 h2=>by
   have h3:=tt2 h2
   obtain rfl:=ttd h3.1
   have h4:=tt2 h3.2
   exact ⟨el,px,rp,m,p,cs,scope,pos,by rw[e0,e1,e2],h1,h4.1,(tt2 h4.2).1,(tt2 h4.2).2,h5,h6,h7⟩
inductive yK1 (sc:Scope) (x:Nat) (fv:List Nat) (src:X) (ifs:Xs) (elt:X) (e:Expr):Prop
 |mk (el:Expr) (px:Pos) (it:Expr) (cs:List Expr) (scope:Scope) (pos:Pos) (e0:e=.ListComp el [⟨.Name (nm x) px,it,cs,0⟩] scope pos) (h1:qL6 scope sc x fv=true) (h2:xY9 it=true) (h4:mX sc src it=true) (h5:cs.length<=1) (h6:mXs (rlb scope sc) ifs cs=true) (h7:mX (rlb scope sc) elt el=true)
theorem wX6 {x:Nat} {fv:List Nat} {src:X} {ifs:Xs} {elt:X} (h:mX sc (.comp false x fv src ifs elt) e=true):yK1 sc x fv src ifs elt e:=
 xJ2 (f:=fun it=>xY9 it&&mX sc src it) h fun el px it cs scope pos e0 h1 h2 h5 h6 h7=>⟨el,px,it,cs,scope,pos,e0,h1,(tt2 h2).1,(tt2 h2).2,h5,h6,h7⟩
theorem qK1 {x:X} {xs:Xs} {es:List Expr} (h:mXs sc (.cons x xs) es=true):∃ e r,es=e::r/\qZ5 e=true/\mX sc x e=true/\mXs sc xs r=true:=
 match es,h with
 |[],h=>nf h
 |e::r,h=>⟨e,r,rfl,(tt2 h).1,tt2 (tt2 h).2⟩
theorem qI9 {es:List Expr} (h:mXs sc .nil es=true):es=[]:=qC0 h
theorem xX3 {k:List Nat} {ks:List (List Nat)} {keys:List (Option Expr)} (h:mKs (k::ks) keys=true):∃ kk p r,keys=some (.Constant (.str ⟨k.toArray⟩) kk p)::r/\mKs ks r=true:=
 match keys,h with
 |[],h=>nf h
 |o::r,h=>wV7 (tt2 h).1 fun e e1 h'=>wX1 h' fun c kk p e2 h'=>⟨kk,p,r,by rw[e1,e2,xN6 h'],(tt2 h).2⟩
theorem qG6 {x:Nat} (h:mT1 sc (.loc x) e=true):∃ p,e=.Name (nm x) p/\(qX8 sc (nm x) .local=true∨qX8 sc (nm x) .cell=true):=
 qF0 h fun y p e1 h=>by
  obtain rfl:=ttd (tt2 h).1
  exact ⟨p,e1,tto (tt2 h).2⟩
theorem qY8 {o:X} {a:Nat} (h:mT1 sc (.attr o a) e=true):∃ v p,e=.Attribute v (nm a) p/\mX sc o v=true:=wN6 h fun v J p e1 h=>⟨v,p,ttd (tt2 h).1▸e1,(tt2 h).2⟩
theorem qG7 {o i:X} (h:mT1 sc (.sub o i) e=true):∃ v j p,e=.Subscript v j p/\mX sc o v=true/\mX sc i j=true:=wG1 h fun v j p e1 h=>⟨v,j,p,e1,tt2 (tt2 h).2⟩
theorem qL4 {t:T1} {ts:List T1} {es:List Expr} (h:mTs sc (t::ts) es=true):∃ e r,es=e::r/\qZ5 e=true/\mT1 sc t e=true/\mTs sc ts r=true:=
 match es,h with
 |[],h=>nf h
 |e::r,h=>⟨e,r,rfl,(tt2 h).1,tt2 (tt2 h).2⟩
theorem qR5 {es:List Expr} (h:mTs sc [] es=true):es=[]:=qC0 h
theorem xZ4 {o lo hi:X} (h:mT sc (.slice o lo hi) e=true):∃ v l u sp p,e=.Subscript v (.Slice (some l) (some u) none sp) p/\mX sc o v=true/\mX sc lo l=true/\mX sc hi u=true:=
 wG1 h fun v j p e1 h=>xP6 h fun l u st sp e2 h=>wV7 (tt2 h).2 fun l' e3 h'=>wV7 h' fun u' e4 h'=>⟨v,l',u',sp,p,by rw[e1,e2,e3,e4,xV2 (tt2 h).1],(tt2 h').1,tt2 (tt2 h').2⟩
theorem wG2 {ts:List T1} (h:mT sc (.tup ts) e=true):∃ es k p,e=.Tuple es k p/\mTs sc ts es=true/\qH0 (qN4 ts)=true:=xM7 h fun es k p e1 h=>⟨es,k,p,e1,tt2 h⟩
end
section
variable {sc:Scope} {t:Stmt}
theorem xA4 {e:X} (h:zF0 e=true):e=.bad:=by cases e<;>first|rfl|exact nf h
theorem xJ1 {e:X} (h:mY sc (.expr e) t=true):∃ v p,t=.Expr v p/\zG5 v=true/\mX sc e v=true:=zT2 h fun v p e1 h=>⟨v,p,e1,tt2 h⟩
theorem wQ3 {tt:T} {e:X} (h:mY sc (.asgn tt e) t=true):∃ tg v p,t=.Assign [tg] v p/\mT sc tt tg=true/\(wA6 v=true∨e=.bad)/\xY3 tg v=true/\mX sc e v=true:=
 zI4 h fun ts v p e1 h=>qY2 h fun tg e2 h=>⟨tg,v,p,e2▸e1,(tt2 h).1,(tto (tt2 (tt2 h).2).1).imp id xA4,tt2 (tt2 (tt2 h).2).2⟩
theorem wO3 {x:Nat} {e:X} (h:mY sc (.asgc x e) t=true):∃ p v pos,t=.Assign [.Name (nm x) p] v pos/\qX8 sc (nm x) .local=true/\wA5 e=true/\yJ5 p (nm x) v=true/\mX sc e v=true:=
 zI4 h fun ts v pos e1 h=>qY2 h fun tg e2 h=>qF0 h fun y p e3 h=>by
  obtain rfl:=ttd (tt2 h).1
  obtain ⟨h1,h⟩:=tt2 (tt2 h).2
  exact ⟨p,v,pos,e3▸e2▸e1,h1,(tt2 h).1,tt2 (tt2 h).2⟩
theorem xB6 {e:X} (h:mY sc (.ret e) t=true):∃ v p,t=.Return (some v) p/\mX sc e v=true:=zW8 h fun o p e1 h=>wV7 h fun v e2 h=>⟨v,p,e2▸e1,h⟩
theorem wN2 (h:mY sc .ret0 t=true):∃ p,t=.Return none p:=zW8 h fun o p e1 h=>⟨p,xV2 h▸e1⟩
theorem zY9 {e:X} {a b:Ys} (h:mY sc (.ife e a b) t=true):∃ v x y p,t=.If v x y p/\mX sc e v=true/\mYs sc a x=true/\mYs sc b y=true:=yB2 h fun v x y p e1 h=>⟨v,x,y,p,e1,(tt2 h).1,tt2 (tt2 h).2⟩
theorem xW2 {m x:Nat} {e:X} {b:Ys} (h:mY sc (.forl m x e b) t=true):∃ px it bd p,t=.For (.Name (nm x) px) it bd [] p/\qX8 sc (nm x) .local=true/\yL9 it=true/\mX sc e it=true/\mYs sc b bd=true:=
 xO6 h fun y px it bd p e1 h=>by
  obtain rfl:=ttd (tt2 h).1
  obtain ⟨h1,h⟩:=tt2 (tt2 h).2
  exact ⟨px,it,bd,p,e1,h1,(tt2 h).1,tt2 (tt2 h).2⟩
theorem wX3 {m x:Nat} {e:X} {b:Ys} (h:mY sc (.forr m x e b) t=true):∃ px np ne p bd pos,t=.For (.Name (nm x) px) (.Call (.Name (Str.ofString "range") np) [ne] [] p) bd [] pos/\qX8 sc (nm x) .local=true/\qX8 sc (Str.ofString "range") .globalImplicit=true/\qZ5 ne=true/\mX sc e ne=true/\mYs sc b bd=true:=
 xO6 h fun y px it bd pos e1 h=>wI3 h fun r np ns p e2 h=>qY2 h fun ne e3 h=>by
  obtain rfl:=ttd (tt2 h).1
  obtain ⟨h1,h⟩:=tt2 (tt2 h).2
  obtain rfl:=ttd h1
  obtain ⟨h2,h⟩:=tt2 h
  obtain ⟨h3,h⟩:=tt2 h
  exact ⟨px,np,ne,p,bd,pos,e3▸e2▸e1,h2,h3,(tt2 h).1,tt2 (tt2 h).2⟩
theorem xE7 {m:Nat} {e:X} {b:Ys} (h:mY sc (.whl m e b) t=true):∃ v bd p,t=.While v bd [] p/\mX sc e v=true/\mYs sc b bd=true:=zG0 h fun v bd p e1 h=>⟨v,bd,p,e1,tt2 h⟩
theorem xG1 {e:X} {b:Ys} (h:mY sc (.whs e b) t=true):∃ v bd p,t=.While v bd [] p/\mX sc e v=true/\mYs sc b bd=true:=zG0 h fun v bd p e1 h=>⟨v,bd,p,e1,tt2 h⟩
theorem wH0 {g:Nat} {xs:Xs} (h:mY sc (.raise g xs) t=true):∃ np es p pos,t=.Raise (some (.Call (.Name (nm qK9) np) es [] p)) none pos/\qX8 sc (nm qK9) .globalImplicit=true/\es.length=2/\mXs sc xs es=true:=
 yG5 h fun o f pos e1 h=>wV7 (tt2 h).2 fun e e2 h'=>wI3 h' fun y np es p e3 h'=>by
  obtain rfl:=ttd (tt2 h').1
  obtain ⟨h1,h'⟩:=tt2 (tt2 h').2
  obtain rfl:=ttd h1
  obtain ⟨h2,h'⟩:=tt2 h'
  exact ⟨np,es,p,pos,by rw[e1,e2,e3,xV2 (tt2 h).1],h2,ttd (tt2 h').1,(tt2 h').2⟩
theorem qK5 {y:Y} {ys:Ys} {ts:List Stmt} (h:mYs sc (.cons y ys) ts=true):∃ t r,ts=t::r/\mY sc y t=true/\mYs sc ys r=true:=
 match ts,h with
 |[],h=>nf h
 |t::r,h=>⟨t,r,rfl,tt2 h⟩
theorem qT3 {ts:List Stmt} (h:mYs sc .nil ts=true):ts=[]:=qC0 h
end
section
variable {c:Cx} {A:Around} {n:Nat} {φ:FP} {H:AH} {lc:Loc} {s:Shared} {K:AV->AH->Prop}
theorem wA4 (O:Ok c A n):A.units+64<cLine:=by
 have:=O.room.units
 have e:cLine=9900:=rfl
 omega
theorem wF8 (x y:List Nat):((⟨x.toArray⟩:Str).cps.toList==(⟨y.toArray⟩:Str).cps.toList)=eqL x y:=by
 simp only
 cases e:eqL x y with
 |true=>rw[qJ7.mp e];simp
 |false=>
  apply beq_eq_false_iff_ne.mpr
  intro h
  rw[qJ7.mpr h]at e
  exact nt e
theorem wY1:∀{xs:List AV},qM0 xs=true->∀ a∈xs,∀ t,a≠.str t:=@fun ξ=>no_implicit_lambda%(match @ξ with
 |[]=>@fun J J2 h J3=>nomatch h
 |x::r=>@fun e a h t=>by
  cases x<;>first|exact nf e|skip
  all_goals
   rcases List.mem_cons.mp h with rfl|h
   ·intro q;injection q
   ·exact wY1 (show qM0 r=true from e) a h t
 )
theorem wB4 {d:PyData} (h:d.canLay0=true/\d.depth<=2):SeqAt.shaped d=true:=by
 unfold SeqAt.shaped
 rw[h.1]
 simp only[Bool.true_and,decide_eq_true_eq]
 exact Nat.not_lt.mp fun gz=>lin [_] [] [(1,.nl (.v 0) (.c 2)),(1,.nl (.a (.c 64) (.c 1)) (.v 0))] rfl h.2 gz
noncomputable def EqR (s:Shared) (a b:AV) (v u:Value) (r:Bool):Prop:=(∃ x y t t',a=.str x/\b=.str y/\v=.str ⟨x.toArray⟩ t/\u=.str ⟨y.toArray⟩ t'/\r=eqL x y)∨
  ∃ d d' as bs,Reads s.heap v d as/\Reads s.heap u d' bs/\SeqAt.shaped d=true/\SeqAt.shaped d'=true/\SeqAt.noMix d d'=true/\Spec.same d d'=r
theorem wO6 {a b:AV} {v u:Value} {r:Bool} (N:Now c φ H lc s) (e:vEq H a b=some r) (hv:qQ1 φ a v) (hu:qQ1 φ b u):EqR s a b v u r:=by
 have gen:(∀ x,a≠.str x)->EqR s a b v u r:=by
  intro ha
  obtain ⟨d,d',h1,h2,h3,h4⟩:=wC1 e ha
  obtain ⟨as,q1⟩:=qI7 N h1 hv
  obtain ⟨bs,q2⟩:=qI7 N h2 hu
  exact .inr ⟨d,d',as,bs,q1,q2,wB4 (qL9 h1),wB4 (qL9 h2),h4,h3⟩
 refine xV3 e (fun e1 J J=>?_) (fun i j e1 J J=>?_) (fun i j e1 J J=>?_) (fun x y e1 e2 e3=>?_) fun k l xs ys e1 J J J J=>?_
 rotate_left 3
 ·subst e1 e2
  obtain ⟨t,rfl⟩:=hv
  obtain ⟨t',rfl⟩:=hu
  exact .inl ⟨x,y,t,t',rfl,rfl,rfl,rfl,e3.symm⟩
 all_goals exact gen fun x q=>by rw[e1]at q;injection q
theorem wY3 {a b:AV} {v u:Value} {r:Bool} (N:Now c φ H lc s) (e:sEq H a b=some r) (hv:qQ1 φ a v) (hu:qQ1 φ b u):EqR s a b v u r:=by
 refine zV2 e (fun k l xs ys e1 e2 h1 h2 hn e5=>?_) fun e=>wO6 N e hv hu
 subst e1 e2
 obtain ⟨x,its,m,rfl,hf,g1,g2,g3⟩:=qP6 N h1 hv
 obtain ⟨y,its',m',rfl,hf',g1',g2',g3'⟩:=qP6 N h2 hu
 obtain ⟨d,d',q1,q2,q3,q4⟩:=wQ0 e5 (wY1 hn)
 obtain ⟨as,r1⟩:=qE0 N q1 g2
 obtain ⟨bs,r2⟩:=qE0 N q2 g2'
 have sh:∀{x:List AV} {d:List PyData},xV7 H x=some d->SeqAt.shaped (.list d)=true:=fun q=>by
  have:=qO1 q
  unfold SeqAt.shaped
  simp only[PyData.canLay0,this.1,PyData.depth,Bool.true_and]
  exact decide_eq_true (by exact Nat.not_lt.mp fun gz=>lin [_] [] [(1,.nl (.v 0) (.c 2)),(1,.nl (.a (.c 64) (.c 1)) (.a (.v 0) (.c 1)))] rfl this.2 gz)
 refine .inr ⟨.list d,.list d',_,_,Reads.list g1 rfl rfl r1,Reads.list g1' rfl rfl r2,sh q1,sh q2,?_,?_⟩
 ·simpa [SeqAt.noMix] using q4
 ·simpa [Spec.same] using q3
theorem jQ2 {a b:AV} {v u:Value} {r:Bool} (O:Ok c A n) (N:Now c φ H lc s) (e:sEq H a b=some r) (hv:qQ1 φ a v) (hu:qQ1 φ b u) {Q:Value->Shared->Prop} (k:Q (.bool r) s) :
  wpAny (MM c) A (compareOp .Eq v u) Q NoE s:=by
 rcases wY3 N e hv hu with ⟨x,y,t,t',rfl,rfl,rfl,rfl,rfl⟩|⟨d,d',as,bs,h1,h2,h3,h4,h5,h6⟩
 ·refine PySem.P.eq_str ?_
  rw[wF8]
  exact k
 ·refine eq_dataH_same h1 h2 h3 h4 (wA4 O) h5 ?_
  rw[h6]
  exact k
theorem jQ5 {a b:AV} {v u:Value} {r:Bool} (O:Ok c A n) (N:Now c φ H lc s) (e:sEq H a b=some r) (hv:qQ1 φ a v) (hu:qQ1 φ b u) {Q:Value->Shared->Prop} (k:Q (.bool (!r)) s) :
  wpAny (MM c) A (compareOp .NotEq v u) Q NoE s:=by
 rcases wY3 N e hv hu with ⟨x,y,t,t',rfl,rfl,rfl,rfl,rfl⟩|⟨d,d',as,bs,h1,h2,h3,h4,h5,h6⟩
 ·refine PySem.P.ne_str ?_
  rw[bne,wF8]
  exact k
 ·refine ne_dataH_same h1 h2 h3 h4 (wA4 O) h5 ?_
  rw[h6]
  exact k
theorem xH4 {φ:FP} {a:AV} {v:Value} {x:Bool} (hv:qQ1 φ a v) (h:x=true↔a=.none):(v==Value.none)=x:=by
 cases a with
 |none=>subst hv;exact (h.mpr rfl).symm
 |_=>cases x with
  |true=>injection h.mp rfl
  |false=>first|(obtain ⟨t,rfl⟩:=hv;rfl)|(subst hv;rfl)|(obtain ⟨a,l,J,rfl⟩:=hv;rfl)
theorem yJ1 {φ:FP} {a:AV} {v:Value} (hv:qQ1 φ a v) (ha:a≠.none):(v==Value.none)=false:=by
 cases a with
 |none=>exact absurd rfl ha
 |bool b=>subst hv;rfl
 |int i=>obtain ⟨t,rfl⟩:=hv;rfl
 |str x=>obtain ⟨t,rfl⟩:=hv;rfl
 |obj k=>obtain ⟨a,l,J,rfl⟩:=hv;rfl
end
noncomputable abbrev SK (w:World):=PySem.strKind pw w
noncomputable def KR (φ:FP):List (List Nat×AV)->List (Str×Value)->Prop
 |[],kv=>kv=[]
 |(k,av)::l,kv=>∃ v r,kv=(⟨k.toArray⟩,v)::r/\qQ1 φ av v/\KR φ l r
theorem qL3 {x y:List Nat} (h:(⟨x.toArray⟩:Str)=⟨y.toArray⟩):x=y:=by simpa using h
theorem KR.len {φ:FP}:∀{es:List (List Nat×AV)} {kv:List (Str×Value)},KR φ es kv->kv.length=es.length:=@fun ξ ξ2 ξ3=>match @ξ,@ξ2,@ξ3 with
 |[],J,h=>by subst h;rfl
 |(J,J2)::J3,J4,⟨J5,J6,e,J7,h⟩=>by subst e;simp[h.len]
theorem KR.keys {φ:FP}:∀{es:List (List Nat×AV)} {kv:List (Str×Value)},KR φ es kv->kv.map (·.1)=es.map (fun e=>(⟨e.1.toArray⟩:Str)):=@fun ξ ξ2 ξ3=>match @ξ,@ξ2,@ξ3 with
 |[],J,h=>by subst h;rfl
 |(J,J2)::J3,J4,⟨J5,J6,e,J7,h⟩=>by subst e;simp[h.keys]
theorem KR.nodup {φ:FP} {es:List (List Nat×AV)} {kv:List (Str×Value)} (h:KR φ es kv):(kv.map (·.1)).Nodup↔(es.map (·.1)).Nodup:=by
 rw[h.keys]
 have:es.map (fun e=>(⟨e.1.toArray⟩:Str))=(es.map (·.1)).map (fun k=>(⟨k.toArray⟩:Str)):=by simp
 rw[this]
 constructor
 ·exact fun h=>List.Pairwise.of_map _ (fun a b q e=>q (e▸rfl)) h
 ·exact fun h=>h.map _ (fun a b q e=>q (qL3 e))
theorem KR.at {φ:FP}:∀{es:List (List Nat×AV)} {kv:List (Str×Value)} (k:List Nat),KR φ es kv->
  (lkS es k=none/\valueAt kv (⟨k.toArray⟩:Str)=none)∨∃ av v,lkS es k=some av/\valueAt kv (⟨k.toArray⟩:Str)=some v/\qQ1 φ av v:=@fun ξ ξ2 ξ3 ξ4=>match @ξ,@ξ2,@ξ3,@ξ4 with
 |[],J,J2,h=>by subst h;exact .inl ⟨rfl,rfl⟩
 |(y,u)::l,J,k,⟨v,r,e,hv,h⟩=>by
  subst e
  by_cases q:y=k
  ·subst q
   refine .inr ⟨u,v,?_,?_,hv⟩
   ·exact yE1 _ _ _
   ·simp[valueAt]
  ·have z:=KR.at k h
   have e1:eqL y k=false:=qY9 q
   have e2:¬ ((⟨y.toArray⟩:Str)=⟨k.toArray⟩):=fun e=>q (qL3 e)
   rw[zH4 q]
   simp only[valueAt,List.find?_cons,e2,decide_false]
   exact z
theorem wZ0 {kv:List (Str×Value)} {a b:Str} {v u:Value} (h:b≠a):stored ((b,u)::kv) a v=(b,u)::stored kv a v:=by
 unfold stored
 simp only[List.any_cons,decide_eq_false h,Bool.false_or,List.map_cons,if_neg h]
 split<;>rfl
theorem KR.no {φ:FP} {es:List (List Nat×AV)} {kv:List (Str×Value)} {k:List Nat} (h:KR φ es kv) (n:k∉es.map (·.1)):∀ p∈kv,p.1≠(⟨k.toArray⟩:Str):=by
 intro p hp e
 have:(⟨k.toArray⟩:Str)∈kv.map (·.1):=List.mem_map.mpr ⟨p,hp,e⟩
 rw[h.keys]at this
 obtain ⟨q,hq,e'⟩:=List.mem_map.mp this
 exact n (List.mem_map.mpr ⟨q,hq,qL3 e'⟩)
theorem xG6 {kv:List (Str×Value)} {a:Str} {v:Value} (h:∀ p∈kv,p.1≠a):kv.map (fun p=>if p.1=a then (p.1,v) else p)=kv:=by
 induction kv with
 |nil=>rfl
 |cons p r ih=>
  rw[List.map_cons,if_neg (h p (.head _)),ih fun q hq=>h q (.tail _ hq)]
theorem KR.store {φ:FP} {av:AV} {v:Value} (hv:qQ1 φ av v):∀{es:List (List Nat×AV)} {kv:List (Str×Value)} (k:List Nat),(es.map (·.1)).Nodup->KR φ es kv->KR φ (stS es k av) (stored kv (⟨k.toArray⟩:Str) v):=@fun ξ ξ2 ξ3 ξ4 ξ5=>match @ξ,@ξ2,@ξ3,@ξ4,@ξ5 with
 |[],J,k,J2,h=>by subst h;exact ⟨v,[],rfl,hv,rfl⟩
 |(y,u)::l,J,k,nd,⟨v',r,e,hv',h⟩=>by
  subst e
  by_cases q:y=k
  ·subst q
   have nd':y∉l.map (·.1):=(List.nodup_cons.mp nd).1
   rw[yW0]
   refine ⟨v,r,?_,hv,h⟩
   unfold stored
   simp only[List.any_cons,decide_true,Bool.true_or,if_true,List.map_cons]
   rw[xG6 (h.no nd')]
  ·have e1:eqL y k=false:=qY9 q
   have e2:¬ ((⟨y.toArray⟩:Str)=⟨k.toArray⟩):=fun e=>q (qL3 e)
   rw[xR0 q]
   rw[wZ0 e2]
   exact ⟨v',_,rfl,hv',KR.store hv k (List.nodup_cons.mp nd).2 h⟩
theorem KR.drop {φ:FP}:∀{es:List (List Nat×AV)} {kv:List (Str×Value)} (k:List Nat),KR φ es kv->KR φ (es.filter fun e=>!eqL e.1 k) (without kv (⟨k.toArray⟩:Str)):=@fun ξ ξ2 ξ3 ξ4=>match @ξ,@ξ2,@ξ3,@ξ4 with
 |[],J,k,h=>by subst h;exact rfl
 |(y,u)::l,J,k,⟨v,r,e,hv,h⟩=>by
  subst e
  have ih:=KR.drop k h
  unfold without at ih ⊢
  by_cases q:y=k
  ·subst q
   simpa [List.filter_cons,qJ7.mpr rfl] using ih
  ·have e1:eqL y k=false:=qY9 q
   have e2:¬ ((⟨y.toArray⟩:Str)=⟨k.toArray⟩):=fun e=>q (qL3 e)
   simp only[List.filter_cons,e1,Bool.not_false,if_true,ne_eq,e2,not_false_eq_true,decide_true]
   exact ⟨v,_,rfl,hv,ih⟩
theorem wK5.pairs {w:World} {φ:FP}:∀{es:List (List Nat×AV)} {ents:List DictEntry},wK5 w.params φ es ents->∃ kv,Pairs (SK w) ents kv/\KR φ es kv/\∀ e∈ents,∃ k,(SK w).is k e.key=true/\e.hash=(SK w).hash k:=@fun ξ ξ2 ξ3=>match @ξ,@ξ2,@ξ3 with
 |[],J,h=>by subst h;exact ⟨[],.nil,rfl,fun J h=>nomatch h⟩
 |(k,av)::l,J,⟨t,v,r,e,hv,h⟩=>by
  subst e
  obtain ⟨kv,h1,h2,h3⟩:=wK5.pairs h
  refine ⟨(⟨k.toArray⟩,v)::kv,.cons (strKind_is pw w _ _) rfl h1,⟨v,kv,rfl,hv,h2⟩,fun e he=>?_⟩
  rcases List.mem_cons.mp he with rfl|he
  ·exact ⟨⟨k.toArray⟩,strKind_is pw w _ _,rfl⟩
  ·exact h3 e he
theorem wK5.of {w:World} {φ:FP}:∀{es:List (List Nat×AV)} {ents:List DictEntry} {kv:List (Str×Value)},Pairs (SK w) ents kv->KR φ es kv->(∀ e∈ents,∃ k,(SK w).is k e.key=true/\e.hash=(SK w).hash k)->wK5 w.params φ es ents:=@fun ξ ξ2 ξ3 ξ4 ξ5 ξ6=>match @ξ,@ξ2,@ξ3,@ξ4,@ξ5,@ξ6 with
 |[],J,J2,hp,h,J3=>by subst h;cases hp;rfl
 |(k,av)::l,J,J2,hp,⟨v,r,e,hv,h⟩,hk=>by
  subst e
  cases hp with
  |@cons en J es' J2 h1 h2 h3=>
   obtain ⟨t,ht⟩:=Value.isStrOf_shape h1
   obtain ⟨k',hk1,hk2⟩:=hk en (.head _)
   have:k'=⟨k.toArray⟩:=(SK w).inj _ _ _ hk1 h1
   subst this
   refine ⟨t,v,es',?_,hv,wK5.of h3 h fun e he=>hk e (.tail _ he)⟩
   obtain ⟨hh,key,val⟩:=en
   dsimp only at ht h2 hk2
   subst ht h2 hk2
   rfl
section
variable {c:Cx} {A:Around} {n:Nat} {φ:FP} {H:AH} {lc:Loc} {s:Shared} {K:AV->AH->Prop}
inductive yO9 (w:World) (φ:FP) (h:Heap) (k:Nat) (es:List (List Nat×AV)) (v:Value):Prop where
 |mk (x:Addr) (kv:List (Str×Value)) (e:v=.ref x) (hf:φ[k]?=some [x]) (h1:h.DictOf (SK w) x kv) (h2:KR φ es kv) (h3:(es.map (·.1)).Nodup) (h4:es.length<=100)
theorem qI1 {k:Nat} {es:List (List Nat×AV)} {v:Value} (N:Now c φ H lc s) (e:qQ0 H k=.sd es) (hv:qQ1 φ (.obj k) v):yO9 c.w φ s.heap k es v:=by
 obtain ⟨f,hf,x,ents,m,rfl,h1,h2,h3,h4⟩:=N.at e (qQ6 rfl)
 obtain ⟨a,l,h5,rfl⟩:=hv
 rw[hf]at h5
 cases h5
 obtain ⟨kv,p1,p2,p3⟩:=h2.pairs
 exact ⟨_,kv,rfl,hf,⟨_,ents,m,h1,⟨rfl,rfl,rfl⟩,rfl,fun e he=>p3 e (Array.mem_toList_iff.mpr he),p1,p2.nodup.mpr h3⟩,p2,h3,h4⟩
theorem wA2 {w:World} {h:Heap} {x:Addr} {es:List (List Nat×AV)} {kv:List (Str×Value)} (hd:h.DictOf (SK w) x kv) (hk:KR φ es kv) (nd:(es.map (·.1)).Nodup) (hl:es.length<=100):Cov w.params h φ (.sd es) [x]:=by
 obtain ⟨o,ents,m,h1,⟨q1,q2,q3⟩,h2,h3,h4,h5⟩:=hd
 obtain ⟨cls,dict,data,slots⟩:=o
 dsimp only at q1 q2 q3 h2
 subst q1 q2 q3 h2
 exact ⟨x,ents,m,rfl,h1,wK5.of h4 hk (fun e he=>h3 e (Array.mem_toList_iff.mp he)),nd,hl⟩
theorem xD4 (w:World) {b:Heap} (h:YPp w b):∃ o,b.get? sysModules=some o:=by
 have hl:1<(hp w.params).length:=by rw[wF1];exact Nat.not_le.mp fun gz=>lin [] [] [(1,.nl (.c 999) (.c 1))] rfl gz
 exact ⟨(hp w.params)[1],h 1 _ (List.getElem?_eq_getElem hl)⟩
theorem qM1 (O:Ok c A n) (N:Now c φ H lc s) {k:Nat} {x:Addr} {l:List Addr} (h:φ[k]?=some (x::l)):(x==sysModules)=false:=by
 refine beq_eq_false_iff_ne.mpr fun e=>?_
 obtain ⟨o,ho⟩:=xD4 c.w O.base.hp
 rw[<-e,(N.rel.fresh x (qQ5 h (.head _))).1]at ho
 injection ho
theorem yP6 (O:Ok c A n) (N:Now c φ H lc s) {k:Nat} {es:List (List Nat×AV)} {x:List Nat} {t:Tok} {v:Value} (e:qQ0 H k=.sd es) (hv:qQ1 φ (.obj k) v)
  {Q:Value->Shared->Prop} (kk:Q (.bool (match lkS es x with|some J=>true|none=>false)) {s with toks:=s.toks+1}):wpAny (MM c) A (compareOp .In (.str ⟨x.toArray⟩ t) v) Q NoE s:=by
 obtain ⟨d,kv,rfl,hf,h1,h2,h3,h4⟩:=qI1 N e hv
 refine wpAny_in_of (knd:=SK c.w) (k:=⟨x.toArray⟩) (strKind_is pw c.w _ _) (qM1 O N hf) h1.mapOf ?_
 rcases h2.at x with ⟨q1,q2⟩|⟨av,v,q1,q2,J⟩
 ·rw[q1]at kk;rw[q2];exact kk
 ·rw[q1]at kk;rw[q2];exact kk
theorem xB9 (N:Now c φ H lc s) {k:Nat} {es:List (List Nat×AV)} {x:List Nat} {t:Tok} {v:Value} {u:AV} (e:qQ0 H k=.sd es) (hv:qQ1 φ (.obj k) v) (hl:lkS es x=some u) (kk:K u H) :
  wpAny (MM c) A (getItem v (.str ⟨x.toArray⟩ t)) (qX1 c φ lc K) NoE s:=by
 obtain ⟨d,kv,rfl,hf,h1,h2,h3,h4⟩:=qI1 N e hv
 rcases h2.at x with ⟨q1,q2⟩|⟨av,v,q1,q2,q3⟩
 ·rw[q1]at hl;injection hl
 ·rw[q1]at hl
  obtain rfl:=Option.some.inj hl
  exact wpAny_getItem_of (knd:=SK c.w) (k:=⟨x.toArray⟩) (strKind_is pw c.w _ _) h1.mapOf q2 (qV1 N q3 kk)
theorem xT7 (N:Now c φ H lc s) {k:Nat} {es:List (List Nat×AV)} {x:List Nat} {t:Tok} {v w:Value} {u:AV} (e:qQ0 H k=.sd es) (hv:qQ1 φ (.obj k) v) (hw:qQ1 φ u w) (hlen:es.length<50)
  {Q:Unit->Shared->Prop} (kk:∀ s',Now c φ (qX7 H k (.sd (stS es x u))) lc s'->Q () s') :
  wpAny (MM c) A (setItem v (.str ⟨x.toArray⟩ t) w) Q NoE s:=by
 obtain ⟨d,kv,rfl,hf,h1,h2,h3,h4⟩:=qI1 N e hv
 refine wpAny_setItem_pairs (knd:=SK c.w) (k:=⟨x.toArray⟩) (strKind_is pw c.w _ _) h1 (fun h' hd' hs=>kk _ ?_) (by rw[h2.len,qV2];exact Nat.not_lt.mp fun gz=>lin [_] [] [(1,.nl (.v 0) (.c 100)),(1,.nl (.a (.c 16777216) (.c 1)) (.v 0))] rfl h4 gz)
 have k2:=KR.store hw x h3 h2
 have nd:((stS es x u).map (·.1)).Nodup:=by
  refine k2.nodup.mp ?_
  obtain ⟨J,J,J,J,J,J,J,J,q⟩:=hd'
  exact q
 have ln:=wR1 x u es
 refine N.upd (s':={s with heap:=h',toks:=s.toks+1}) hf (by rw[e];rfl) _ (fun a o na ea=>(hs.2 a fun z=>na (by simp[z])).trans ea) (fun a ha=>?_) (wA2 hd' k2 nd (by exact Nat.not_lt.mp fun gz=>lin [_,_] [] [(1,.nl (.a (.v 0) (.c 1)) (.c 50)),(1,.nl (.v 1) (.a (.v 0) (.c 1))),(1,.nl (.a (.c 100) (.c 1)) (.v 1))] rfl hlen ln gz)) rfl rfl
 simp at ha
 subst ha
 obtain ⟨o,J,J,q,J⟩:=hd'
 exact ⟨o,q⟩
theorem xU1 (O:Ok c A n) (N:Now c φ H lc s) {k:Nat} {es:List (List Nat×AV)} {x:List Nat} {t:Tok} {v:Value} (e:qQ0 H k=.sd es) (hv:qQ1 φ (.obj k) v)
  (kk:K (match lkS es x with|some u=>u|none=>.none) H) :
  wpAny (MM c) A (call (.builtin "dict.get") [v,.str ⟨x.toArray⟩ t,.none]) (qX1 c φ lc K) NoE s:=by
 obtain ⟨d,kv,rfl,hf,h1,h2,h3,h4⟩:=qI1 N e hv
 refine call_meetsIn PySem.F.slot_dict_get h1.typeIs PySem.F.entry_dict_get (PySem.F.args_dict_get_3 _ _ _) (meets_dict_get_default (SK c.w) (k:=⟨x.toArray⟩) d (strKind_is pw c.w _ _) (qM1 O N hf) .none) ⟨_,h1.mapOf,?_⟩
 rcases h2.at x with ⟨q1,q2⟩|⟨av,v,q1,q2,q3⟩
 ·rw[q1]at kk;rw[q2];exact qV1 N qM6 kk
 ·rw[q1]at kk;rw[q2];exact qV1 N q3 kk
theorem zZ9 (N:Now c φ H lc s) {k:Nat} {es:List (List Nat×AV)} {x:List Nat} {t:Tok} {v:Value} {u:AV} (e:qQ0 H k=.sd es) (hv:qQ1 φ (.obj k) v) (hl:lkS es x=some u)
  (kk:K u (qX7 H k (.sd (es.filter fun e=>!eqL e.1 x)))) :
  wpAny (MM c) A (call (.builtin "dict.pop") [v,.str ⟨x.toArray⟩ t]) (qX1 c φ lc K) NoE s:=by
 obtain ⟨d,kv,rfl,hf,h1,h2,h3,h4⟩:=qI1 N e hv
 rcases h2.at x with ⟨q1,q2⟩|⟨av,v,q1,q2,q3⟩
 ·rw[q1]at hl;injection hl
 rw[q1]at hl
 cases hl
 refine call_meetsIn PySem.F.slot_dict_pop h1.typeIs PySem.F.entry_dict_pop (PySem.F.args_dict_pop_2 _ _) (meets_dict_pop_there (SK c.w) (k:=⟨x.toArray⟩) d (strKind_is pw c.w _ _) [] (.inl rfl) rfl) ⟨kv,v,h1,by rw[h2.len,qV2];exact Nat.not_lt.mp fun gz=>lin [_] [] [(1,.nl (.v 0) (.c 100)),(1,.nl (.a (.c 16777216) (.c 1)) (.v 0))] rfl h4 gz,q2,fun h' hd' hs=>?_⟩
 show qX1 c φ lc K v _
 refine ⟨φ,_,u,Ext.refl φ,N.upd (s':={s with heap:=h',toks:=s.toks+1}) hf (by rw[e];rfl) _ (fun a o na ea=>(hs.2 a fun z=>na (by simp[z])).trans ea) (fun a ha=>?_) (wA2 hd' (h2.drop x) ?_ ?_) rfl rfl,q3,kk⟩
 ·simp at ha
  subst ha
  obtain ⟨o,J,J,q,J⟩:=hd'
  exact ⟨o,q⟩
 ·exact (List.filter_sublist.map _).nodup h3
 ·exact Nat.le_trans (List.length_filter_le _ _) h4
end
theorem qQ4.len {φ:FP}:∀{xs:List AV} {vs:List Value},qQ4 φ xs vs->vs.length=xs.length:=@fun ξ ξ2 ξ3=>match @ξ,@ξ2,@ξ3 with
 |[],J,h=>by subst h;rfl
 |J::J2,J3,⟨J4,J5,e,J6,h⟩=>by subst e;simp[h.len]
theorem qQ4.app {φ:FP}:∀{xs ys:List AV} {vs us:List Value},qQ4 φ xs vs->qQ4 φ ys us->qQ4 φ (xs++ys) (vs++us):=@fun ξ ξ2 ξ3 ξ4 ξ5 ξ6=>match @ξ,@ξ2,@ξ3,@ξ4,@ξ5,@ξ6 with
 |[],J,J2,J3,h,h'=>by subst h;exact h'
 |J::J2,J3,J4,J5,⟨v,r,e,hv,h⟩,h'=>by subst e;exact ⟨v,_,rfl,hv,h.app h'⟩
section
variable {c:Cx} {A:Around} {n:Nat} {φ:FP} {H:AH} {lc:Loc} {s:Shared} {K:AV->AH->Prop}
theorem xA8 {k:Nat} {xs:List Int} {v:Value} (N:Now c φ H lc s) (e:qQ0 H k=.il xs∨qQ0 H k=.fl xs) (hv:qQ1 φ (.obj k) v) (kk:K (.int xs.length) H) :
  wpAny (MM c) A (call (.builtin "len") [v]) (qX1 c φ lc K) NoE s:=by
 obtain ⟨x,its,rfl,h1,h2,h3⟩:=xZ5 N e hv
 have hl:=h2.length
 simp only[Array.length_toList]at hl
 refine call_len_list h1 (by omega) ?_
 rw[hl]
 exact qV1 N qO5 kk
theorem xY5 {k:Nat} {xs:List AV} {v:Value} (N:Now c φ H lc s) (e:qQ0 H k=.vl xs) (hv:qQ1 φ (.obj k) v) (kk:K (.int xs.length) H) :
  wpAny (MM c) A (call (.builtin "len") [v]) (qX1 c φ lc K) NoE s:=by
 obtain ⟨x,its,m,rfl,hf,h1,h2,h3⟩:=qP6 N e hv
 have hl:=h2.len
 simp only[Array.length_toList]at hl
 refine call_len_list ⟨_,h1,rfl,m,rfl⟩ (by omega) ?_
 rw[hl]
 exact qV1 N qO5 kk
theorem xZ3 {x:List Nat} {t:Tok} (N:Now c φ H lc s) (hl:x.length<=10000) (kk:K (.int x.length) H) :
  wpAny (MM c) A (call (.builtin "len") [.str ⟨x.toArray⟩ t]) (qX1 c φ lc K) NoE s:=by
 have e:(⟨x.toArray⟩:Str).length=x.length:=by simp[Str.length]
 refine PySem.P.len_str (by rw[e];omega) ?_
 rw[e]
 exact qV1 N qO5 kk
theorem yE8 (O:Ok c A n) {i j:Int} {t u:Tok} (N:Now c φ H lc s) (kk:K (.int (min i j)) H):wpAny (MM c) A (call (.builtin "min") [.int i t,.int j u]) (qX1 c φ lc K) NoE s:=by
 refine min_two_ints O.room.hand fun h' tk hk=>?_
 have N':=N.keep (s':={s with heap:=h',toks:=tk}) hk rfl rfl
 have:(if j<i then Value.int j u else .int i t)=.int (min i j) (if j<i then u else t):=by
  split
  ·rw[Int.min_eq_right (by omega)]
  ·rw[Int.min_eq_left (by omega)]
 rw[this]
 exact qR7 N' qO5 kk
theorem yC1 (O:Ok c A n) {i j:Int} {t u:Tok} (N:Now c φ H lc s) (kk:K (.int (max i j)) H):wpAny (MM c) A (call (.builtin "max") [.int i t,.int j u]) (qX1 c φ lc K) NoE s:=by
 refine max_two_ints O.room.hand fun h' tk hk=>?_
 have N':=N.keep (s':={s with heap:=h',toks:=tk}) hk rfl rfl
 have:(if j > i then Value.int j u else .int i t)=.int (max i j) (if j > i then u else t):=by
  split
  ·rw[Int.max_eq_right (by omega)]
  ·rw[Int.max_eq_left (by omega)]
 rw[this]
 exact qR7 N' qO5 kk
theorem xH9 (N:Now c φ H lc s) {a:Addr} {o:AO} {its:Array Value} {m tk:Nat} {h':Heap} (hk:∀ b o',s.heap.get? b=some o'->h'.get? b=some o') (hn:s.heap.get? a=none) (ha:h'.get? a=some (wX2 its m))
  (cov:∀ φ',Ext φ φ'->Cov c.w.params h' φ' o [a]) (kk:K (.obj H.length) (H++[o])):qX1 c φ lc K (.ref a) {s with heap:=h',toks:=tk}:=by
 refine ⟨φ++[[a]],_,_,Ext.app _ _,N.add (s':={s with heap:=h',toks:=tk}) [a] o hk (fun b hb=>?_) (by first|exact qQ6 rfl|exact .head _|simp) (cov _ (Ext.app _ _)) rfl rfl,qV6 N.rel _ _,kk⟩
 simp at hb
 subst hb
 exact ⟨hn,_,ha⟩
theorem xJ9 {k:Nat} {xs:List Int} {v:Value} (N:Now c φ H lc s) (e:qQ0 H k=.il xs) (hv:qQ1 φ (.obj k) v) (kk:K (.obj H.length) (H++[.il xs])) :
  wpAny (MM c) A (call (.type "list") [v]) (qX1 c φ lc K) NoE s:=by
 obtain ⟨x,its,m,rfl,hf,h1,h2,h3⟩:=qV7 N e hv
 have hl:=h2.length
 simp only[Array.length_toList]at hl
 refine call_list_seq x (.inl rfl) h1 rfl rfl (fun h' c' hk ha=>?_) (by rw[qV2];exact Nat.not_lt.mp fun gz=>lin [_,_] [] [(1,.nl (.v 0) (.c 10000)),(1,.nl (.v 1) (.v 0)),(1,.nl (.a (.c 16777216) (.c 1)) (.v 1))] rfl h3 (Nat.le_of_eq hl) gz)
 exact xH9 (o:=.il xs) (tk:=s.toks) N hk qQ7 ha (fun φ' x=>⟨_,its,c',rfl,ha,h2,h3⟩) kk
theorem xQ4 {k:Nat} {xs:List AV} {v:Value} (N:Now c φ H lc s) (e:qQ0 H k=.vl xs) (hv:qQ1 φ (.obj k) v) (kk:K (.obj H.length) (H++[.vl xs])) :
  wpAny (MM c) A (call (.type "list") [v]) (qX1 c φ lc K) NoE s:=by
 obtain ⟨x,its,m,rfl,hf,h1,h2,h3⟩:=qP6 N e hv
 have hl:=h2.len
 simp only[Array.length_toList]at hl
 refine call_list_seq x (.inl rfl) h1 rfl rfl (fun h' c' hk ha=>?_) (by rw[qV2];exact Nat.not_lt.mp fun gz=>lin [_,_] [] [(1,.nl (.v 0) (.c 10000)),(1,.nl (.v 1) (.v 0)),(1,.nl (.a (.c 16777216) (.c 1)) (.v 1))] rfl h3 (Nat.le_of_eq hl) gz)
 exact xH9 (o:=.vl xs) (tk:=s.toks) N hk qQ7 ha (fun φ' x=>⟨_,its,c',rfl,ha,h2.mono x,h3⟩) kk
theorem sup (N:Now c φ H lc s) {k:Nat} {x:Addr} (hf:φ[k]?=some [x]) (hfd:frz (qQ0 H k)=false) {o:Obj} (ho:s.heap.get? x=some o) {g:Obj->Obj} {tk:Nat} {o':AO} (fr:(g o).isFreed=false) (cov:Cov c.w.params (s.heap.update x g) φ o' [x]) :
  Now c φ (qX7 H k o') lc {s with heap:=s.heap.update x g,toks:=tk}:=by
 refine N.upd (s':={s with heap:=s.heap.update x g,toks:=tk}) hf hfd o' (fun b ob nb e=>?_) (fun b hb=>?_) cov rfl rfl
 ·exact (Heap.get?_update_other _ _ fun q:x=b=>nb (by simp[q])).trans e
 ·simp at hb
  subst hb
  exact ⟨_,Heap.get?_update_self g ho fr⟩
theorem yE6 {k:Nat} {xs:List Int} {y:Int} {v:Value} {t:Tok} (N:Now c φ H lc s) (e:qQ0 H k=.il (y::xs)) (hv:qQ1 φ (.obj k) v) (kk:K (.int y) (qX7 H k (.il xs))) :
  wpAny (MM c) A (call (.builtin "list.pop") [v,.int 0 t]) (qX1 c φ lc K) NoE s:=by
 obtain ⟨x,its,m,rfl,hf,h1,h2,h3⟩:=qV7 N e hv
 have hl:=h2.length
 simp only[Array.length_toList,List.length_cons]at hl h3
 obtain ⟨ts,e0⟩:∃ t,its[0]?=some (.int y t):=by
  obtain ⟨t,q⟩:=qP1 h2 0 (by first|exact qQ6 rfl|exact .head _|simp)
  exact ⟨t,by simpa using q⟩
 refine call_meets PySem.F.slot_list_pop ⟨_,h1,rfl⟩ PySem.F.entry_list_pop (PySem.F.args_list_pop_2 _ _) (MeetsSeq.list_pop_at x its m 0 t 0 (.int y ts) (by decide) ?_ e0 (by rw[qV2];exact Nat.not_lt.mp fun gz=>lin [_,_] [] [(1,.nl (.a (.v 0) (.c 1)) (.c 10000)),(1,.nl (.v 1) (.a (.v 0) (.c 1))),(1,.nl (.a (.c 16777216) (.c 1)) (.v 1))] rfl h3 (Nat.le_of_eq hl) gz)) ⟨h1,?_⟩
 ·unfold seqIndex?
  rw[hl]
  simp
 show qX1 c φ lc K _ _
 have hup:=Heap.get?_update_self (Obj.mapSeq fun xs=>xs.eraseIdxIfInBounds 0) h1 rfl
 have ee:(its.eraseIdxIfInBounds 0).toList=its.toList.drop 1:=by
  unfold Array.eraseIdxIfInBounds
  rw[dif_pos (by exact Nat.not_le.mp fun gz=>lin [_,_] [] [(1,.nl (.a (.v 0) (.c 1)) (.v 1)),(1,.nl (.v 1) (.c 0))] rfl (Nat.le_of_eq hl.symm) gz)]
  simp
 refine ⟨φ,_,_,Ext.refl φ,sup (o':=.il xs) (tk:=s.toks) N hf (by rw[e];rfl) h1 rfl ⟨x,its.eraseIdxIfInBounds 0,_,rfl,hup,?_,by exact Nat.not_lt.mp fun gz=>lin [_] [] [(1,.nl (.a (.v 0) (.c 1)) (.c 10000)),(1,.nl (.a (.c 10000) (.c 1)) (.v 0))] rfl h3 gz⟩,qO5,kk⟩
 rw[ee]
 exact qL2 h2 1
theorem xE6 {k:Nat} {xs:List AV} {u:AV} {v w:Value} (N:Now c φ H lc s) (e:qQ0 H k=.vl xs) (hv:qQ1 φ (.obj k) v) (hw:qQ1 φ u w) (hl:xs.length<=100) (kk:K .none (qX7 H k (.vl (xs++[u])))) :
  wpAny (MM c) A (call (.builtin "list.append") [v,w]) (qX1 c φ lc K) NoE s:=by
 obtain ⟨x,its,m,rfl,hf,h1,h2,h3⟩:=qP6 N e hv
 have hl':=h2.len
 simp only[Array.length_toList]at hl'
 refine call_meets PySem.F.slot_list_append ⟨_,h1,rfl⟩ PySem.F.entry_list_append (PySem.F.args_list_append_2 _ _) (AutoListH.list_append_list_val_0 x its m w (by rw[qV2];exact Nat.not_lt.mp fun gz=>lin [_,_] [] [(1,.nl (.v 0) (.c 100)),(1,.nl (.v 1) (.v 0)),(1,.nl (.a (.c 16777216) (.c 1)) (.v 1))] rfl hl (Nat.le_of_eq hl') gz)) ⟨h1,?_⟩
 show qX1 c φ lc K _ _
 have hup:=Heap.get?_update_self (Obj.mapSeq fun xs=>xs.push w) h1 rfl
 refine ⟨φ,_,_,Ext.refl φ,sup (o':=.vl (xs++[u])) (tk:=s.toks) N hf (by rw[e];rfl) h1 rfl ⟨x,its.push w,_,rfl,hup,?_,by simp;exact Nat.not_lt.mp fun gz=>lin [_] [] [(1,.nl (.v 0) (.c 100)),(1,.nl (.a (.c 9999) (.c 1)) (.v 0))] rfl hl gz⟩,qM6,kk⟩
 rw[Array.toList_push]
 exact h2.app ⟨w,[],rfl,hw,rfl⟩
theorem qL7 {P:Prop} {a:AV} {r:List AV} {l:List Int} (h:qJ0 (a::r)=some l) (q:∀ i l',a=.int i->qJ0 r=some l'->i::l'=l->P):P:=by
 cases a<;>first|exact nn h|skip
 have h':(match qJ0 r with|some l=>some (_::l)|none=>none)=some l:=h
 cases e:qJ0 r with
 |none=>rw[e]at h';exact nn h'
 |some l'=>rw[e]at h';exact q _ l' rfl e (Option.some.inj h')
theorem qO6:∀{vs:List AV} {l:List Int} {us:List Value},qJ0 vs=some l->qQ4 φ vs us->IntsAre us l:=@fun ξ ξ2 ξ3 ξ4 ξ5=>match @ξ,@ξ2,@ξ3,@ξ4,@ξ5 with
 |[],J,J2,e,h=>by obtain rfl:=Option.some.inj e;subst h;exact .nil
 |a::r,l,J,e,⟨v,us,e',hv,h⟩=>by
  subst e'
  refine qL7 e fun i l' e0 e1 e2=>?_
  subst e0
  subst e2
  obtain ⟨t,rfl⟩:=hv
  exact .cons _ t (qO6 e1 h)
theorem qI8:∀{vs:List AV} {l:List Int},qJ0 vs=some l->l.length=vs.length:=@fun ξ=>no_implicit_lambda%(match @ξ with
 |[]=>@fun J e=>by obtain rfl:=Option.some.inj e;rfl
 |a::r=>@fun l e=>qL7 e fun i l' e0 e1 e2=>by rw[<-e2];exact congrArg (·+1) (qI8 e1)
 )
set_option tactic.hygienic true in
theorem wK4 {P:Params} {h:Heap} {a:Addr} {its:Array Value} {m:Nat} {vs:List AV} (ha:h.get? a=some (wX2 its m)) (hv:qQ4 φ vs its.toList) (hl:vs.length<=10000):Cov P h φ (mkL vs) [a]:=by
 unfold mkL
 split
 ·rename_i l e
  exact ⟨a,its,m,rfl,ha,qO6 e hv,by rw[qI8 e];exact hl⟩
 ·exact ⟨a,its,m,rfl,ha,hv,hl⟩
theorem xQ5 {k:Nat} {u:AV} {v w:Value} (N:Now c φ H lc s) (e:qQ0 H k=.il []) (hv:qQ1 φ (.obj k) v) (hw:qQ1 φ u w) (kk:K .none (qX7 H k (mkL [u]))) :
  wpAny (MM c) A (call (.builtin "list.append") [v,w]) (qX1 c φ lc K) NoE s:=by
 obtain ⟨x,its,m,rfl,hf,h1,h2,h3⟩:=qV7 N e hv
 have hl':=h2.length
 have e0:its=#[]:=Array.eq_empty_of_size_eq_zero hl'
 subst e0
 refine call_meets PySem.F.slot_list_append ⟨_,h1,rfl⟩ PySem.F.entry_list_append (PySem.F.args_list_append_2 _ _) (AutoListH.list_append_list_val_0 x #[] m w (by rw[qV2];simp)) ⟨h1,?_⟩
 show qX1 c φ lc K _ _
 have hup:=Heap.get?_update_self (Obj.mapSeq fun xs=>xs.push w) h1 rfl
 exact ⟨φ,_,_,Ext.refl φ,sup (tk:=s.toks) N hf (by rw[e];rfl) h1 rfl (wK4 (vs:=[u]) hup ⟨w,[],rfl,hw,rfl⟩ (by first|exact qQ6 rfl|exact .head _|simp)),qM6,kk⟩
theorem xT0 {x:List Nat} {cc:Nat} {t u:Tok} (N:Now c φ H lc s) (kk:K (.int (wQ7 cc x)) H):wpAny (MM c) A (call (.builtin "str.rfind") [.str ⟨x.toArray⟩ t,.str ⟨[cc].toArray⟩ u]) (qX1 c φ lc K) NoE s:=by
 exact PySem.SC.rfind (qV1 N qO5 kk)
theorem zR6 {x:List Nat} {cc:Nat} {i:Int} {t u w:Tok} (N:Now c φ H lc s) (kk:K (.int (xK8 cc x i)) H):wpAny (MM c) A (call (.builtin "str.find") [.str ⟨x.toArray⟩ t,.str ⟨[cc].toArray⟩ u,.int i w]) (qX1 c φ lc K) NoE s:=by
 exact PySem.SC.find3 (qV1 N qO5 kk)
theorem yB9 {x:List Nat} {cc:Nat} {t u:Tok} {Q:Value->Shared->Prop} (k:Q (.bool (noC cc x)) s):wpAny (MM c) A (compareOp .NotIn (.str ⟨[cc].toArray⟩ u) (.str ⟨x.toArray⟩ t)) Q NoE s:=by
 exact PySem.P.notIn_str k
end
section
variable {c:Cx} {A:Around} {n:Nat} {φ:FP} {H:AH} {lc:Loc} {s:Shared} {K:AV->AH->Prop}
theorem xC4 {k:Nat} {xs:List Int} {i:Int} {t:Tok} {v:Value} (N:Now c φ H lc s) (e:qQ0 H k=.il xs) (hv:qQ1 φ (.obj k) v) (h1:-(xs.length:Int)<=i) (h2:i<xs.length)
  (kk:K (.int (xs.getD (if i<0 then (i+xs.length).toNat else i.toNat) 0)) H):wpAny (MM c) A (getItem v (.int i t)) (qX1 c φ lc K) NoE s:=by
 obtain ⟨x,its,m,rfl,hf,g1,g2,g3⟩:=qV7 N e hv
 have hl:=g2.length
 simp only[Array.length_toList]at hl
 by_cases hi:i<0
 ·rw[if_pos hi]at kk
  obtain ⟨u,hu⟩:=qP1 g2 (i+xs.length).toNat (by omega)
  refine wpAny_getItem_list_neg ⟨_,g1,rfl,m,rfl⟩ hi (by exact Int.not_lt.mp fun gz=>lin [_,_] [_] [(1,.il (.g (.n (.v 0))) (.v 0)),(1,.nl (.v 0) (.v 1)),(1,.il (.a (.v 0) (.c 1)) (.g (.n (.v 1))))] rfl h1 (Nat.le_of_eq hl.symm) gz) (by omega) (x:=.int _ u) ?_ (qR7 N qO5 kk)
  rw[hl]
  simpa using hu
 ·rw[if_neg hi]at kk
  obtain ⟨u,hu⟩:=qP1 g2 i.toNat (by omega)
  exact wpAny_getItem_list ⟨_,g1,rfl,m,rfl⟩ (by exact Int.not_lt.mp fun gz=>lin [] [_] [(1,.il (.c (0)) (.v 0)),(1,.il (.a (.v 0) (.c 1)) (.c (0)))] rfl (Int.not_lt.mp hi) gz) (by omega) (x:=.int _ u) (by simpa using hu) (qR7 N qO5 kk)
theorem xW0 {m:Nat} {a:AV} {d r:Nat} (h:zS4 m a d=some r):∃ o,pOf a=some o/\r=o.elim d (clipAt m):=by
 cases a<;>first|obtain rfl:=Option.some.inj h|exact nn h
 ·exact ⟨none,rfl,rfl⟩
 ·exact ⟨some _,rfl,rfl⟩
theorem xZ1 {a:AV} {o:Option Int} {v:Value} (h:pOf a=some o) (hv:qQ1 φ a v):IsPart v o:=by
 cases a<;>first|obtain rfl:=Option.some.inj h|exact nn h
 ·subst hv;exact .none
 ·obtain ⟨t,rfl⟩:=hv;exact .int _ t
theorem zF6 {α:Type} {xs ys:List α} {a b:AV} (h:cut xs a b=some ys):∃ lo hi,pOf a=some lo/\pOf b=some hi/\ys=(xs.drop (lo.elim 0 (clipAt xs.length))).take (hi.elim xs.length (clipAt xs.length)-lo.elim 0 (clipAt xs.length)):=by
 unfold cut at h
 cases h1:zS4 xs.length a 0<;>rw[h1]at h<;>first|exact nn h|skip
 cases h2:zS4 xs.length b xs.length<;>rw[h2]at h<;>first|exact nn h|skip
 obtain rfl:=Option.some.inj h
 obtain ⟨lo,e1,rfl⟩:=xW0 h1
 obtain ⟨hi,e2,rfl⟩:=xW0 h2
 exact ⟨lo,hi,e1,e2,rfl⟩
theorem wI1 {k:Nat} {xs ys:List Int} {a b:AV} {v va vb:Value} (N:Now c φ H lc s) (e:qQ0 H k=.il xs∨qQ0 H k=.fl xs) (hv:qQ1 φ (.obj k) v) (ha:qQ1 φ a va) (hb:qQ1 φ b vb) (hc:cut xs a b=some ys)
  (kk:K (.obj H.length) (H++[.il ys])):wpAny (MM c) A (getItem v (.ref s.heap.objs.size)) (qX1 c φ lc K) NoE {s with heap:=s.heap.push {cls:=.type "slice", data:=.fields #[va,vb,.none]}}:=by
 obtain ⟨x,its,rfl,g1,g2,g3⟩:=xZ5 N e hv
 have hl:=g2.length
 simp only[Array.length_toList]at hl
 obtain ⟨lo,hi,e1,e2,rfl⟩:=zF6 hc
 have N':=N.push {cls:=.type "slice", data:=.fields #[va,vb,.none]}
 refine wpAny_getItem_list_slice (s:={s with heap:=s.heap.push _}) (IsList.push' g1) (Heap.IsSliceOf.new _ _ _ _) (xZ1 e1 ha) (xZ1 e2 hb) .none (by first|exact qQ6 rfl|exact .head _|simp) ?_ (by rw[hl,qV2];exact Nat.not_lt.mp fun gz=>lin [_] [] [(1,.nl (.v 0) (.c 10000)),(1,.nl (.a (.c 16777216) (.c 1)) (.v 0))] rfl g3 gz)
 refine xH9 (o:=.il _) (tk:=s.toks) N' (fun b o e=>Heap.get?_push_of_some _ e) qQ7 (Heap.get?_push_size _ rfl) (fun φ' J=>⟨_,_,0,rfl,Heap.get?_push_size _ rfl,?_,?_⟩) kk
 ·rw[slicePick_plain,hl]
  exact wW2 (qL2 g2 _) _
 ·simp only[List.length_take,List.length_drop]
  exact Nat.not_lt.mp fun gz=>lin [_,_,_] [] [(1,.nl (.v 0) (.c 10000)),(1,.nl (.v 1) (.v 0)),(1,.nl (.v 2) (.v 1)),(1,.nl (.a (.c 10000) (.c 1)) (.v 2))] rfl g3 (Nat.sub_le (xs.length) (lo.elim 0 (clipAt xs.length))) (Nat.min_le_right (hi.elim xs.length (clipAt xs.length)-lo.elim 0 (clipAt xs.length)) (xs.length-lo.elim 0 (clipAt xs.length))) gz
where
 IsList.push' {h:Heap} {x:Addr} {its:Array Value} {o:Obj} (g:h.IsList x its):(h.push o).IsList x its:=let ⟨ob,e,r⟩:=g;⟨ob,Heap.get?_push_of_some _ e,r⟩
theorem xA0 {P:Prop} {x y:List Nat} {a b:AV} (h:xA1 x a b=some y) (q:∀ lo hi,pOf a=some lo->pOf b=some hi->yJ3 x lo hi=some y->P):P:=by
 unfold xA1 at h
 cases e1:pOf a<;>rw[e1]at h<;>first|exact nn h|skip
 cases e2:pOf b<;>rw[e2]at h<;>first|exact nn h|skip
 exact q _ _ e1 e2 h
theorem xG9 {P:Prop} {x y:List Nat} {lo hi:Option Int} (h:yJ3 x lo hi=some y) (q1:(xL9 x lo hi).length=(⟨x.toArray⟩:Str).length->y=x->P)
  (q2:(xL9 x lo hi).length≠(⟨x.toArray⟩:Str).length->y.length<=1000->y=(xL9 x lo hi).filterMap ((⟨x.toArray⟩:Str).cps[·]?)->P):P:=by
 unfold yJ3 at h
 cases e1:Nat.beq (xL9 x lo hi).length (⟨x.toArray⟩:Str).length with
 |true=>rw[e1]at h;exact q1 (Nat.eq_of_beq_eq_true e1) (Option.some.inj h).symm
 |false=>
  rw[e1]at h
  cases e2:Nat.ble ((xL9 x lo hi).filterMap ((⟨x.toArray⟩:Str).cps[·]?)).length 1000 with
  |false=>rw[e2]at h;injection h
  |true=>
   rw[e2]at h
   have e:=(Option.some.inj h).symm
   exact q2 (fun g=>by rw[g,Nat.beq_refl]at e1;exact nt e1) (by rw[e];exact Nat.le_of_ble_eq_true e2) e
theorem zI7 {a:AV} {o:Option Int} {v:Value} (h:pOf a=some o) (hv:qQ1 φ a v):∃ l,v=partValue l/\l.map (·.1)=o:=by
 cases a<;>first|obtain rfl:=Option.some.inj h|exact nn h
 ·subst hv;exact ⟨none,rfl,rfl⟩
 ·obtain ⟨t,rfl⟩:=hv;exact ⟨some (_,t),rfl,rfl⟩
theorem wZ3 {x y:List Nat} {a b:AV} {t:Tok} {va vb:Value} (N:Now c φ H lc s) (ha:qQ1 φ a va) (hb:qQ1 φ b vb) (hc:xA1 x a b=some y)
  (kk:K (.str y) H):wpAny (MM c) A (getItem (.str ⟨x.toArray⟩ t) (.ref s.heap.objs.size)) (qX1 c φ lc K) NoE {s with heap:=s.heap.push {cls:=.type "slice", data:=.fields #[va,vb,.none]}}:=by
 refine xA0 hc fun lo hi e1 e2 e=>?_
 have N':=N.push {cls:=.type "slice", data:=.fields #[va,vb,.none]}
 obtain ⟨l,rfl,hl⟩:=zI7 e1 ha
 obtain ⟨u,rfl,hu⟩:=zI7 e2 hb
 subst hl
 subst hu
 refine wpAny_getItem_str_slice (s:={s with heap:=s.heap.push _}) (l:=l) (u:=u) (st:=none) ⟨_,Heap.get?_push_size _ rfl,rfl,rfl⟩ rfl ?_
 refine xG9 e (fun h1 h2=>?_) fun h1 h2 h3=>?_
 ·rw[show sliceMade ⟨x.toArray⟩ t l u none=.val (.str ⟨x.toArray⟩ t) from if_pos (beq_iff_eq.mpr h1)]
  subst h2
  exact qR7 N' zX2 kk
 ·rw[show sliceMade ⟨x.toArray⟩ t l u none=.str ⟨y.toArray⟩ from (if_neg fun g=>h1 (beq_iff_eq.mp g)).trans (by rw[h3];rfl)]
  exact ⟨Nat.le_trans h2 (by rw[qV2];decide),qV1 N' zX2 kk⟩
end
end Mine
section
namespace Mine
open PySem PySem.W PySem.Calls PyProof.Rows PySem.Spec
theorem wD5 {v:Value} {x:Int} {t:Tok} (e:v=.int x t):∀ m:Nat,IntsAre (List.replicate m [v]).flatten (List.replicate m x):=@fun ξ=>match @ξ with
 |0=>.nil
 |m+1=>by subst e;simp only[List.replicate_succ,List.flatten_cons,List.singleton_append];exact .cons x t (wD5 rfl m)
section
variable {c:Cx} {A:Around} {n:Nat} {φ:FP} {H:AH} {lc:Loc} {s:Shared} {K:AV->AH->Prop}
theorem yA4 {k:Nat} {x i:Int} {t:Tok} {v:Value} (N:Now c φ H lc s) (e:qQ0 H k=.il [x]) (hv:qQ1 φ (.obj k) v) (h0:0<=i) (h1:i<=1000)
  (kk:K (.obj H.length) (H++[.il (List.replicate i.toNat x)])):wpAny (MM c) A (binaryOp .Mult v (.int i t)) (qX1 c φ lc K) NoE s:=by
 obtain ⟨l,its,m,rfl,hf,hl,g2,g3⟩:=qV7 N e hv
 obtain ⟨tt,hi⟩:∃ t,its.toList=[.int x t]:=by
  cases g2':its.toList with
  |nil=>rw[g2']at g2;cases g2
  |cons a r=>rw[g2']at g2;cases g2 with|cons J t h=>cases h;exact ⟨t,rfl⟩
 have hz:its.size=1:=by rw[<-Array.length_toList,hi];rfl
 refine wpAny_binaryOp_repeat_ref (T:="list") (U:="int") (by decide) ⟨_,hl,rfl⟩ (fun s'=>typeIs_int s' i t) noFill_list_mul PySem.F.fills_int_mul PySem.F.slot_int_rmul repeat_list PySem.F.slot_int_index.lookup
  (call_meets PySem.F.slot_int_rmul (typeIs_int s i t) PySem.F.entry_int_rmul (PySem.F.args_int_rmul_2 _ _) (int___rmul___int_list i t l its m)
   ⟨hl,rfl,⟨_,hl,rfl⟩,call_meets PySem.F.slot_list_mul ⟨_,hl,rfl⟩ PySem.F.entry_list_mul (PySem.F.args_list_mul_2 _ _)
    (AutoListH.list___mul___list_int_3 l its m i t (by simp[Builtin.List.listFitsIndex];omega) (by rw[hz];omega) (by simp[Builtin.List.listTooLong,sizeLine,hz];exact Int.not_lt.mp fun gz=>lin [] [_] [(1,.il (.v 0) (.c (1000))),(1,.il (.a (.c (16777216)) (.c 1)) (.v 0))] rfl h1 gz))
    ⟨hl,?_⟩⟩)
 refine xH9 (o:=.il (List.replicate i.toNat x)) (tk:=s.toks) N (fun b o e=>Heap.get?_push_of_some _ e) qQ7 (Heap.get?_push_size _ rfl) (fun φ' J=>⟨_,_,0,rfl,Heap.get?_push_size _ rfl,?_,?_⟩) kk
 ·rw[listMul_foldl_if,hi]
  exact wD5 rfl _
 ·simp only[List.length_replicate];omega
theorem wF9 {P:Prop} {a:AV} {r:List AV} {l:List (List Nat)} (h:qB4 (a::r)=some l) (q:∀ x l',a=.str x->qB4 r=some l'->x::l'=l->P):P:=by
 cases a<;>first|exact nn h|skip
 have h':(match qB4 r with|some l=>some (_::l)|none=>none)=some l:=h
 cases e:qB4 r with
 |none=>rw[e]at h';exact nn h'
 |some l'=>rw[e]at h';exact q _ l' rfl e (Option.some.inj h')
theorem wE2:∀{xs:List AV} {ss:List (List Nat)},qB4 xs=some ss->xs.length=ss.length
 |[],J,e=>by obtain rfl:=Option.some.inj e;rfl
 |a::r,J,e=>wF9 e fun x l' e0 e1 e2=>by rw[<-e2];exact congrArg (·+1) (wE2 e1)
theorem xJ5:∀{xs:List AV} {vs:List Value} {ss:List (List Nat)},qB4 xs=some ss->qQ4 φ xs vs->StrsAre vs (ss.map fun x=>(⟨x.toArray⟩:Str))
 |[],J,J2,e,h=>by obtain rfl:=Option.some.inj e;subst h;exact .nil
 |a::r,J,J2,e,⟨v,us,e',hv,h⟩=>by
  subst e'
  refine wF9 e fun x l' e0 e1 e2=>?_
  subst e0
  subst e2
  obtain ⟨t,rfl⟩:=hv
  exact .cons _ t (xJ5 e1 h)
theorem xX6:∀{ss:List (List Nat)} {vs:List Value},StrsAre vs (ss.map fun x=>(⟨x.toArray⟩:Str))->qQ4 φ (ss.map .str) vs:=@fun ξ=>no_implicit_lambda%(match @ξ with
 |[]=>@fun J h=>by cases h;rfl
 |x::ss=>@fun J h=>by
  cases h with
  |cons J t h=>exact ⟨_,_,rfl,⟨t,rfl⟩,xX6 h⟩
 )
theorem xW4 {x y:List Nat}:leS x y=true↔x<=y:=by
 rw[leS,ltCps_eq,Bool.not_eq_true',decide_eq_false_iff_not]
 exact List.not_lt
theorem qO9 (a:List Nat):∀ l,(zA8 a l).Perm (a::l)
 |[]=>.refl _
 |b::l=>by
  show (match leS a b with|true=>a::b::l|false=>b::zA8 a l).Perm _
  cases leS a b with
  |true=>exact .refl _
  |false=>exact ((qO9 a l).cons b).trans (List.Perm.swap a b l)
theorem qG8:∀ l,(qB7 l).Perm l
 |[]=>.refl _
 |a::l=>(qO9 a (qB7 l)).trans ((qG8 l).cons a)
theorem qO4 (a:List Nat):∀{l:List (List Nat)},l.Pairwise (fun x y=>x<=y)->(zA8 a l).Pairwise (fun x y=>x<=y)
 |[],J=>List.pairwise_cons.mpr ⟨fun J h=>(nomatch h),.nil⟩
 |b::l,h=>by
  obtain ⟨h1,h2⟩:=List.pairwise_cons.mp h
  show (match leS a b with|true=>a::b::l|false=>b::zA8 a l).Pairwise _
  cases e:leS a b with
  |true=>
   have e:=xW4.mp e
   exact List.pairwise_cons.mpr ⟨fun z hz=>(List.mem_cons.mp hz).elim (fun q=>q▸e) fun hz=>List.le_trans e (h1 z hz),h⟩
  |false=>
   have e:b<=a:=(List.le_total a b).elim (fun q=>by rw[xW4.mpr q]at e;exact nt e) id
   exact List.pairwise_cons.mpr ⟨fun z hz=>(List.mem_cons.mp ((qO9 a l).mem_iff.mp hz)).elim (fun q=>q▸e) (h1 z),qO4 a h2⟩
theorem qL1:∀ l,(qB7 l).Pairwise (fun x y=>x<=y)
 |[]=>.nil
 |a::l=>qO4 a (qL1 l)
theorem qH1:∀{l:List Str} {p:Str},risingS p l=true->(∀ x∈l,p.cps.toList<=x.cps.toList)/\l.Pairwise (fun x y=>x.cps.toList<=y.cps.toList)
 |[],J,J2=>⟨fun J h=>(nomatch h),.nil⟩
 |x::r,p,h=>by
  obtain ⟨h1,h2⟩:=Bool.and_eq_true_iff.mp h
  have h1:=xW4.mp h1
  obtain ⟨g1,g2⟩:=qH1 h2
  exact ⟨fun y hy=>(List.mem_cons.mp hy).elim (fun q=>q▸h1) fun hy=>List.le_trans h1 (g1 y hy),List.pairwise_cons.mpr ⟨g1,g2⟩⟩
theorem xW1 {ss:List (List Nat)} {ss':List Str} (hp:ss'.Perm (ss.map fun x=>(⟨x.toArray⟩:Str))) (hs:sortedS ss'=true):ss'=(qB7 ss).map fun x=>(⟨x.toArray⟩:Str):=by
 have e1:ss'.Pairwise (fun x y=>x.cps.toList<=y.cps.toList):=by
  cases ss' with
  |nil=>exact .nil
  |cons x r=>obtain ⟨g1,g2⟩:=qH1 (l:=r) (p:=x) hs;exact List.pairwise_cons.mpr ⟨g1,g2⟩
 have e2:(ss'.map fun x=>x.cps.toList)=qB7 ss:=by
  refine List.Perm.eq_of_pairwise (fun a b J J h1 h2=>List.le_antisymm h1 h2) (List.pairwise_map.mpr e1) (qL1 ss) ?_
  have:=hp.map (fun x:Str=>x.cps.toList)
  rw[List.map_map]at this
  have e3:(List.map ((fun x:Str=>x.cps.toList) ∘ fun x:List Nat=>(⟨x.toArray⟩:Str)) ss)=ss:=by
   conv=>rhs;rw[<-List.map_id ss]
   exact List.map_congr_left fun x J=>by simp
  rw[e3]at this
  exact this.trans (qG8 ss).symm
 rw[<-e2,List.map_map]
 conv=>lhs;rw[<-List.map_id ss']
 exact List.map_congr_left fun x J=>by apply Str.ext';simp
theorem wV2 {k:Nat} {xs:List AV} {v:Value} (N:Now c φ H lc s) (e:qQ0 H k=.vl xs) (hv:qQ1 φ (.obj k) v) {ss:List (List Nat)} (hs:qB4 xs=some ss) (hl:ss.length<60) (kk:K (.obj H.length) (H++[.vl ((qB7 ss).map .str)])) :
  wpAny (MM c) A (call (.builtin "sorted") [v]) (qX1 c φ lc K) NoE s:=by
 obtain ⟨x,its,m,rfl,hf,h1,h2,h3⟩:=qP6 N e hv
 have h2':=h2.len
 have hS:=xJ5 hs h2
 have hs':=wE2 hs
 refine sorted_strs (vs:=its.toList) (by rw[Array.toArray_toList];exact ⟨_,h1,rfl,m,rfl⟩) hS (by exact Nat.not_le.mp fun gz=>lin [_,_,_] [] [(1,.nl (.a (.v 0) (.c 1)) (.c 60)),(1,.nl (.v 1) (.v 2)),(1,.nl (.v 2) (.v 0)),(1,.nl (.c 64) (.v 1))] rfl hl (Nat.le_of_eq h2') (Nat.le_of_eq hs') gz) fun out ss' a1 a2 a3=>?_
 obtain ⟨ep,he⟩:=sortedAll_at s.heap its.toList out
 have e2:=xW1 a2 a3
 subst e2
 have hn:s.heap.get? (s.heap.objs.size+1)=none:=by
  cases q:s.heap.get? (s.heap.objs.size+1) with
  |none=>rfl
  |some o=>exact absurd (Heap.lt_size q) (Nat.not_lt.mpr (Nat.le_succ _))
 refine xH9 (o:=.vl ((qB7 ss).map .str)) (tk:=s.toks) N (fun b o e=>sortedAll_old e) hn he (fun φ' J=>⟨_,_,ep,rfl,he,?_,?_⟩) kk
 ·exact xX6 a1
 ·rw[List.length_map,(qG8 ss).length_eq]
  exact Nat.le_trans (Nat.le_of_lt hl) (by decide)
theorem wQ8 {k:Nat} {v:Value} (N:Now c φ H lc s) (e:qQ0 H k=.il []) (hv:qQ1 φ (.obj k) v) (kk:K (.obj H.length) (H++[.il []])) :
  wpAny (MM c) A (call (.builtin "sorted") [v]) (qX1 c φ lc K) NoE s:=by
 obtain ⟨x,its,m,rfl,hf,h1,h2,h3⟩:=qV7 N e hv
 have hl:=h2.length
 refine sorted_ints (vs:=its.toList) (by rw[Array.toArray_toList];exact ⟨_,h1,rfl,m,rfl⟩) h2 (by rw[hl];simp) fun out ns' a1 a2 a3=>?_
 obtain ⟨ep,he⟩:=sortedAll_at s.heap its.toList out
 have e2:ns'=[]:=List.Perm.eq_nil a2
 subst e2
 have hn:s.heap.get? (s.heap.objs.size+1)=none:=by
  cases q:s.heap.get? (s.heap.objs.size+1) with
  |none=>rfl
  |some o=>exact absurd (Heap.lt_size q) (Nat.not_lt.mpr (Nat.le_succ _))
 exact xH9 (o:=.il []) (tk:=s.toks) N (fun b o e=>sortedAll_old e) hn he (fun φ' J=>⟨_,_,ep,rfl,he,a1,by simp⟩) kk
theorem qS2 {w:World} {A:Around} {s:Shared} {R:Result->Shared->Prop} {d:Addr} {ep:Nat} (hh:A.handled=none) (lo:(d==sysModules)=false) (hd:s.heap.DictAt (SK w) d [] ep)
  (hR:∀ h' tk c',(∀ b o,s.heap.get? b=some o->h'.get? b=some o)->h'.get? s.heap.objs.size=some (wX2 #[] c')->R (.ok (.ret (.ref s.heap.objs.size))) {s with heap:=h',toks:=tk}) :
  codeAny (model pw w) A (.builtin "proto.collect" ⟨[.ref d],[]⟩) R s:=by
 have hdl:=hd.lt_size
 refine codeAny_builtin PySem.F.entry_proto_collect ?_
 rw[Around.under_plainId PySem.F.plain_proto_collect _]
 show wpAny _ _ (newList []>>=fun l=>again (.builtin "list.__iadd__" ⟨[l,.ref d],[]⟩)) _ _ s
 refine wpAny_bind (wpAny_newObj_type ?_)
 refine wpAny_pure ⟨plainId_quiet PySem.F.plain_list_iadd _,codeAny_builtin PySem.F.entry_list_iadd ?_⟩
 rw[Around.under_plainId PySem.F.plain_list_iadd _]
 have hS:(s.heap.push {cls:=.type "list", data:=.seq ([]:List Value).toArray}).get? s.heap.objs.size=some {cls:=.type "list", data:=.seq #[] 0}:=Heap.get?_push_size _ rfl
 show wpAny _ _ (Builtin.List.listExtendWith (.ref s.heap.objs.size) (.ref d) (.ref s.heap.objs.size)) _ _ _
 refine kdl_extend (A:=A) (s:={s with heap:=s.heap.push {cls:=.type "list", data:=.seq ([]:List Value).toArray}}) (kdl_dict (knd:=SK w) (kvs:=[]) (ep:=ep) lo) hh (hd.push _) s.heap.objs.size (Nat.ne_of_gt hdl) (Nat.ne_of_gt hdl) _ 0 hS (fun h' tk acc' c' hk hS' hacc=>?_) (by rw[qV2];simp)
 have e0:acc'=#[]:=Array.eq_empty_of_size_eq_zero hacc.1
 subst e0
 exact hR h' tk c' (fun b o eb=>hk b o (Nat.ne_of_lt (Heap.lt_size eb)) (Heap.get?_push_of_some _ eb)) hS'
theorem wK2 (O:Ok c A n) {k:Nat} {v:Value} (N:Now c φ H lc s) (e:qQ0 H k=.sd []) (hv:qQ1 φ (.obj k) v) (kk:K (.obj H.length) (H++[.il []])) :
  wpAny (MM c) A (call (.builtin "sorted") [v]) (qX1 c φ lc K) NoE s:=by
 obtain ⟨d,kv,rfl,hf,h1,h2,h3,h4⟩:=qI1 N e hv
 subst h2
 obtain ⟨ep,hd⟩:=h1.dictAt
 have lo:=qM1 O N hf
 have hdl:=hd.lt_size
 refine Calls.call_function_entry kind_sorted plain_sorted entry_sorted (args_sorted1 _) ?_
 unfold Builtin.«sorted»
 refine wpAny_bind (m:=checkCount "sorted" 1 1 _) (wpAny_pure ?_)
 refine wpAny_bind ?_
 unfold collect
 refine wpAny_bind (wpAny_runValue (qS2 (A:=A.in1) O.room.hand lo hd fun h' tk c' kept hS'=>?_))
 show wpAny _ _ (load s.heap.objs.size>>=_) _ _ _
 refine wpAny_bind (wpAny_load hS' (wpAny_pure ?_))
 refine wpAny_bind (wpAny_newList ?_)
 have hoL:(h'.push (seqObj "list" (#[]:Array Value).toList.toArray 0)).get? h'.objs.size=some (seqObj "list" (#[]:Array Value).toList.toArray 0):=Heap.get?_push_size _ rfl
 refine wpAny_bind (wpAny_holding (wpAny_call_entry slot_list_sort ⟨_,hoL,rfl⟩ entry_list_sort (list_sort_tree hoL .nil (by first|exact qQ6 rfl|exact .head _|simp) fun out ns' a1 a2 a3=>⟨_,rfl,?_⟩) (args_list_sort _)))
 refine wpAny_pure ⟨_,rfl,?_⟩
 have e2:ns'=[]:=List.Perm.eq_nil a2
 subst e2
 have hlt:s.heap.objs.size<h'.objs.size:=Heap.lt_size hS'
 obtain ⟨ee,he⟩:=sortedHeap_at (out:=out) hoL
 have hn:s.heap.get? h'.objs.size=none:=by
  cases q:s.heap.get? h'.objs.size with
  |none=>rfl
  |some o=>exact absurd (Nat.lt_trans hlt (Heap.lt_size q)) (Nat.lt_irrefl _)
 refine xH9 (o:=.il []) (tk:=tk) N (fun b o eb=>?_) hn he (fun φ' J=>⟨_,_,ee,rfl,he,a1,by simp⟩) kk
 have hb:=Heap.lt_size eb
 rw[sortedHeap_old (Nat.ne_of_lt (Nat.lt_trans hb hlt)) (by rw[size_push'];exact Nat.lt_succ_of_lt (Nat.lt_trans hb hlt))]
 exact Heap.get?_push_of_some _ (kept b o eb)
end
end Mine
end
namespace Mine
open PySem PySem.W PySem.Calls PyProof.Rows
structure qQ2 (c:Cx) (env:Env):Prop where
 kind:env.scope.kind=.function
 loc:env.locals=c.L
 glo:env.globals=mainGlobals
 bui:env.builtins=builtinsNs
 lo:∀ x,env.scope.names.lookup x=some .local->c.cells.lookup x=none
 ce:∀ x,env.scope.names.lookup x=some .cell->∃ a,c.cells.lookup x=some a/\env.cells.lookup x=some a
theorem wJ4 {e:Expr} {rest:List Expr} {env:Env} (h:qZ5 e=true):starEach (e::rest) env=(false,eval e env)::starEach rest env:=by
 cases e<;>first|rfl|exact nf h
theorem qZ8 {sc:Scope}:∀{xs:Xs} {es:List Expr} {env:Env} {pos:Pos},mXs sc xs es=true->(backTo pos (starEach es env)).any (·.1)=false:=@fun ξ ξ2=>no_implicit_lambda%(match @ξ,@ξ2 with
 |.nil,[]=>@fun J J2 J3=>rfl
 |.nil,J::J2=>@fun J3 J4 h=>by exact nf h
 |.cons J J2,[]=>@fun J3 J4 h=>by exact nf h
 |.cons x xs,e::es=>@fun env pos h=>by
  have h:=And.imp_right (Bool.and_eq_true _ _).mp ((Bool.and_eq_true _ _).mp h)
  rw[wJ4 h.1]
  show (false || (backTo pos (starEach es env)).any (·.1))=false
  rw[qZ8 h.2.2]
  rfl
 )
section
variable {M:Model} {A:Around} {E:Value->Shared->Prop} {s:Shared} {env:Env}
theorem qI0 {f:Value} {es:List Expr} {pos:Pos} {Q:Args->Shared->Prop} (hp:∀ e∈es,qZ5 e=true)
  (h:wpAny M A (spliced (backTo pos (starEach es env))) (fun vs s'=>Q ⟨vs,[]⟩ s') E s):wpAny M A (evalArgs f true (backTo pos (starEach es env)) []) Q E s:=by
 cases es with
 |nil=>
  unfold evalArgs
  show wpAny M A (spliced []>>=_) Q E s
  have h':wpAny M A (spliced []) (fun vs s'=>Q ⟨vs,[]⟩ s') E s:=h
  refine wpAny_bind (wpAny_mono h' (fun vs s' h'=>wpAny_bind (wpAny_pure ?_)) fun J J x=>x)
  refine wpAny_holding ?_
  exact wpAny_bind (wpAny_pure (wpAny_bind (wpAny_pure (wpAny_pure h'))))
 |cons e rest=>
  rw[wJ4 (hp e (.head _))]at h ⊢
  exact evalArgs_plain h
theorem qN5 {pos:Pos} {e:Expr} {rest:List Expr} {Q:List Value->Shared->Prop} (he:qZ5 e=true)
  (h:wpAny M A (eval e env) (fun v sB=>wpAny M A (spliced (backTo pos (starEach rest env))) (fun vs sC=>Q (v::vs) sC) E sB) E s):wpAny M A (spliced (backTo pos (starEach (e::rest) env))) Q E s:=
 wpAny_items_cons h (wJ4 he)
set_option tactic.hygienic true in
theorem wR8 {o:Expr} {attr:Str} {whole:Sem Value} (h:qI2 o=true):attributeBase o attr env whole=whole:=by
 cases o<;>first|rfl|exact nf h|skip
 rename_i f as kws pos
 cases as with
 |nil=>exact nf h
 |cons a as=>
  cases f<;>rfl
end
section
variable {w:World} {A:Around} {E:Value->Shared->Prop} {s:Shared} {env:Env}
theorem wG4 {value:Expr} {attr:Str} {pos:Pos} {Q:Value->Shared->Prop} (hb:qI2 value=true)
  (h:wpAny (model pw w) A (eval value env) (fun o sB=>wpAny (model pw w) A (getAttr o attr true) Q E sB) E s):wpAny (model pw w) A (eval (.Attribute value attr pos) env) Q E s:=
 Attribute_any_ h (by rw[arm_eval_Attribute,wR8 hb])
theorem wY4 {o:Expr} {name:Str} {apos pos:Pos} {args:List Expr} {Q:Value->Shared->Prop} (hb:qI2 o=true) (hp:apos.endLine=pos.line) (hn:args.length<=20) (hs:(backTo pos (starEach args env)).any (·.1)=false)
  (h:wpAny (model pw w) A (eval o env) (fun ov sB=>∀ pl,wpAny (model pw w) A (getMethod ov name pl) (fun fx sC=>wpAny (model pw w) A (callWith pos fx.1 fx.2 (backTo pos (starEach args env)) []) Q E sC) E sB) E s) :
  wpAny (model pw w) A (eval (.Call (.Attribute o name apos) args [] pos) env) Q E s:=by
 have hform:methodCallForm (args.length+([]:List Keyword).length) (backTo pos (starEach args env)) (backToKw pos (keywordEach [] env))=true:=by
  unfold methodCallForm
  have:(backTo pos (starEach args env)).all (fun x=>!x.1)=true:=by
   rw[List.all_eq_true]
   intro x hx
   have:=List.any_eq_false.mp hs x hx
   simpa using this
  rw[this]
  rw[show backToKw pos (keywordEach [] env)=[] from rfl]
  simp
  exact Nat.not_le.mp fun gz=>lin [_] [] [(1,.nl (.v 0) (.c 20)),(1,.nl (.c 30) (.v 0))] rfl hn gz
 rw[arm_eval_Call,wR8 hb]
 refine wpAny_bind (wpAny_mono h (fun ov sB h₁=>wpAny_bind (wpAny_standAt ?_)) fun J J x=>x)
 unfold methodCall calleeOf methodCallPos
 rw[hform]
 refine wpAny_bind (wpAny_holding ?_)
 rw[if_pos rfl]
 refine wpAny_mono (h₁ _) (fun fx sC h₂=>?_) fun J J x=>x
 refine wpAny_bind ?_
 rw[if_pos (by simp[hp])]
 exact wpAny_pure h₂
set_option tactic.hygienic true in
theorem wK8 {value slice:Expr} {pos:Pos} {Q:Value->Shared->Prop}
  (h:wpAny (model pw w) A (eval value env) (fun o sB=>wpAny (model pw w) A (eval slice env) (fun i sC=>∃ T id,sC.TypeIs o T/\typeLookup (.type T) "__getitem__"=pure (some (.builtin id))/\wpAny (model pw w) A (getItem o i) Q E sC) E sB) E s) :
  wpAny (model pw w) A (eval (.Subscript value slice pos) env) Q E s:=by
 refine Subscript_ (wpAny_mono h (fun o sB h₁=>wpAny_mono h₁ (fun i sC h₂=>?_) fun J J x=>x) fun J J x=>x)
 obtain ⟨T,id,h3,h4,h5⟩:=h₂
 have:∃ ops,subscripted slice false o i=operate ops (getItem o i):=by
  cases slice<;>first|exact ⟨_,rfl⟩|skip
  rename_i a b c d
  cases c<;>exact ⟨_,rfl⟩
 obtain ⟨ops,e⟩:=this
 exact tail_any h3 h4 h5 e
end
noncomputable def qY4 (n:Nat) (sp:Sp):Prop:=∀(c:Cx) (A:Around) (φ:FP) (H:AH) (lc:Loc) (s:Shared) (f:Addr) (args:List AV) (vs:List Value) (K:AV->AH->Prop),Ok c A n->Now c φ H lc s->qQ4 φ args vs->sp f args H K (fun J=>False)->codeAny (MM c) A (.call (.ref f) ⟨vs,[]⟩) (fun r s'=>match r with|.ok (.ret v)=>qX1 c φ lc K v s'|J=>False) s
inductive wO1 (c:Cx) (φ:FP) (lc:Loc) (m:Nat) (K:List AV->AH->Prop) (vs:List Value) (s:Shared):Prop where
 |mk (φ':FP) (H':AH) (avs:List AV) (x:Ext φ φ') (N:Now c φ' H' lc s) (hv:qQ4 φ' avs vs) (hl:vs.length=m) (k:K avs H')
inductive qA7 (c:Cx) (φ:FP) (lc:Loc) (K:Bool->AH->Prop) (b:Bool) (s:Shared):Prop where
 |mk (φ':FP) (H':AH) (x:Ext φ φ') (N:Now c φ' H' lc s) (k:K b H')
inductive yC3 (c:Cx) (φ:FP) (lc:Loc) (ks:List (List Nat)) (K:List AV->AH->Prop) (ps:List (Value×Value)) (s:Shared):Prop where
 |mk (φ':FP) (H':AH) (avs:List AV) (kvs:List (Str×Value)) (x:Ext φ φ') (N:Now c φ' H' lc s) (hc:Carries (SK c.w) ps kvs) (hr:KR φ' (ks.zip avs) kvs) (hl:avs.length=ks.length) (k:K avs H')
theorem qA7.up {c:Cx} {lc:Loc} {K:Bool->AH->Prop} {φ φ':FP} (x:Ext φ φ') {v:Bool} {s':Shared} (g:qA7 c φ' lc K v s'):qA7 c φ lc K v s':=by
 obtain ⟨φC,H',e,N,k⟩:=g
 exact ⟨φC,H',x.trans e,N,k⟩
section
variable {c:Cx} {A:Around} {n:Nat} {φ:FP} {H:AH} {lc:Loc} {s:Shared} {K:AV->AH->Prop}
theorem qL0 {a:AV} {v:Value} {K:Bool->Prop} (h:qA8 a K) (hv:qQ1 φ a v) {Q:Bool->Shared->Prop} (k:∀ b,a=.bool b->K b->Q b s):wpAny (MM c) A (truthy v) Q NoE s:=by
 cases a<;>first|exact False.elim h|skip
 subst hv
 exact wpAny_truthy_bool (k _ rfl h)
theorem wX8 {a b:AV} (v u:Value) {A:Int->Int->Prop} {P:Value->Value->Prop} (h:match a,b with|.int i,.int j=>A i j|J,J2=>False) (hv:qQ1 φ a v) (hu:qQ1 φ b u) (q:∀ i j t t',A i j->P (.int i t) (.int j t')):P v u:=
 zI6 h fun i j e1 e2 h=>by
  subst e1 e2
  obtain ⟨t,rfl⟩:=hv
  obtain ⟨t',rfl⟩:=hu
  exact q i j t t' h
theorem yV1 {op:Bop} {a b:AV} {v u:Value} (N:Now c φ H lc s) (h:zJ7 op a b H K) (hv:qQ1 φ a v) (hu:qQ1 φ b u) :
  wpAny (MM c) A (binaryOp (yB1 op) v u) (qX1 c φ lc K) NoE s:=by
 cases op with
 |add=>
  refine zV3 h (fun i j e1 e2 h=>?_) (fun x y e1 e2 e h=>?_) (fun k l xs ys e1 e2 e3 e4 h=>?_)
  ·obtain ⟨t,rfl⟩:=(e1▸hv:qQ1 φ (.int i) v);obtain ⟨t',rfl⟩:=(e2▸hu:qQ1 φ (.int j) u);exact yD5 N h
  ·obtain ⟨t,rfl⟩:=(e1▸hv:qQ1 φ (.str x) v);obtain ⟨t',rfl⟩:=(e2▸hu:qQ1 φ (.str y) u);exact yB7 N (Nat.ble_eq.mp e) h
  ·exact zP8 N e3 e4 (e1▸hv) (e2▸hu) h.1 h.2
 |sub=>exact wX8 (P:=fun v u=>wpAny (MM c) A (binaryOp .Sub v u) (qX1 c φ lc K) NoE s) v u h hv hu fun i j t t' h=>yV6 N h
 |mul=>
  refine xS4 h fun k n x e1 e2 e h=>?_
  obtain ⟨t',rfl⟩:=(e2▸hu:qQ1 φ (.int n) u)
  exact yA4 N e (e1▸hv) h.1 h.2.1 h.2.2
 |mod=>exact wX8 (P:=fun v u=>wpAny (MM c) A (binaryOp .Mod v u) (qX1 c φ lc K) NoE s) v u h hv hu fun i j t t' h=>yV3 N h.1 h.2
 |fdiv=>
  refine wX8 (P:=fun v u=>wpAny (MM c) A (binaryOp .FloorDiv v u) (qX1 c φ lc K) NoE s) v u h hv hu fun i j t t' h=>?_
  refine PyProof.Rows.floordiv_int (Int.ne_of_gt h.1) ?_
  rw[Int.fdiv_eq_ediv_of_nonneg _ (Int.le_of_lt h.1)]
  exact qV1 N qO5 h.2.2.2.2
theorem xR9 {r:Option Bool} {K:Bool->Prop} (h:opt r K):∃ b,r=some b/\K b:=by
 cases r with
 |none=>exact h.elim
 |some b=>exact ⟨b,rfl,h⟩
theorem zS6 (O:Ok c A n) {op:Cop} {a b:AV} {v u:Value} {K:Bool->Prop} (N:Now c φ H lc s) (h:zU7 op a b H K) (hv:qQ1 φ a v) (hu:qQ1 φ b u)
  {Q:Value->Shared->Prop} (k:∀ t s',Now c φ H lc s'->K t->Q (.bool t) s') :
  wpAny (MM c) A (compareOp (xC6 op) v u) Q NoE s:=by
 cases op with
 |eq=>
  obtain ⟨r,e,hk⟩:=xR9 (show opt (sEq H a b) K from h)
  exact jQ2 O N e hv hu (k _ _ N hk)
 |ne=>
  obtain ⟨r,e,hk⟩:=xR9 (show opt (sEq H a b) (fun t=>K (!t)) from h)
  exact jQ5 O N e hv hu (k _ _ N hk)
 |lt=>exact wX8 (P:=fun v u=>wpAny (MM c) A (compareOp .Lt v u) Q NoE s) v u h hv hu fun i j t t' h=>PySem.P.lt_int (k _ _ N h)
 |le=>exact wX8 (P:=fun v u=>wpAny (MM c) A (compareOp .LtE v u) Q NoE s) v u h hv hu fun i j t t' h=>PySem.P.le_int (k _ _ N h)
 |gt=>exact wX8 (P:=fun v u=>wpAny (MM c) A (compareOp .Gt v u) Q NoE s) v u h hv hu fun i j t t' h=>PySem.P.gt_int (k _ _ N h)
 |ge=>exact wX8 (P:=fun v u=>wpAny (MM c) A (compareOp .GtE v u) Q NoE s) v u h hv hu fun i j t t' h=>PySem.P.ge_int (k _ _ N h)
 |is=>
  refine xL5 (B:=fun x=>K x) h fun x e0 e1 h=>?_
  obtain rfl:u=.none:=(e0▸hu:qQ1 φ .none u)
  refine is_none_gen ?_
  rw[xH4 hv e1]
  exact k _ _ N h
 |isnot=>
  refine xL5 (B:=fun x=>K (!x)) h fun x e0 e1 h=>?_
  obtain rfl:u=.none:=(e0▸hu:qQ1 φ .none u)
  refine isnot_none_gen ?_
  rw[xH4 hv e1]
  exact k _ _ N h
 |cin=>
  refine zV0 h fun x k' es e1 e2 e3 h=>?_
  obtain ⟨t,rfl⟩:=(e1▸hv:qQ1 φ (.str x) v)
  exact yP6 O N e3 (e2▸hu) (k _ _ (N.tok rfl rfl rfl) h)
 |nin=>
  refine xT6 h fun x y e1 e2 h=>?_
  obtain ⟨t,rfl⟩:=(e1▸hv:qQ1 φ (.str [x]) v)
  obtain ⟨t',rfl⟩:=(e2▸hu:qQ1 φ (.str y) u)
  exact yB9 (k _ _ N h)
end
section
variable {c:Cx} {A:Around} {n:Nat} {φ:FP} {H:AH} {lc:Loc} {s:Shared} {K:AV->AH->Prop}
noncomputable def biV:Nat->Value
 |0=>.builtin "len"|1=>.builtin "min"|2=>.builtin "max"|3=>.type "list"|4=>.builtin "sorted"|J=>.builtin "abs"
theorem vs1 {a:AV} {vs:List Value} (h:qQ4 φ [a] vs):∃ v,vs=[v]/\qQ1 φ a v:=by
 obtain ⟨v,r,e,h1,h2⟩:=h
 subst h2
 exact ⟨v,e,h1⟩
theorem vs2 {a b:AV} {vs:List Value} (h:qQ4 φ [a,b] vs):∃ v u,vs=[v,u]/\qQ1 φ a v/\qQ1 φ b u:=by
 obtain ⟨v,r,e,h1,h2⟩:=h
 obtain ⟨u,rfl,h3⟩:=vs1 h2
 exact ⟨v,u,e,h1,h3⟩
theorem yA7 (O:Ok c A n) {g:Nat} {a:AV} {v:Value} (N:Now c φ H lc s) (h:yL4 g a H K) (hv:qQ1 φ a v):wpAny (MM c) A (call (biV g) [v]) (qX1 c φ lc K) NoE s:=
 match g,h with
 |0,h=>xH0 h (fun k xs e1 e h=>xA8 N e (e1▸hv) h) (fun k xs e1 e h=>xY5 N e (e1▸hv) h) fun x e1 e h=>by
  obtain ⟨t,rfl⟩:=(e1▸hv:qQ1 φ (.str x) v)
  exact xZ3 N (Nat.le_trans e (by decide)) h
 |1,h=>False.elim h
 |2,h=>False.elim h
 |3,h=>xE8 h (fun k xs e1 e h=>xJ9 N e (e1▸hv) h) fun k xs e1 e h=>xQ4 N e (e1▸hv) h
 |4,h=>xG5 h (fun k e1 e h=>wQ8 N e (e1▸hv) h) (fun k e1 e h=>wK2 O N e (e1▸hv) h) fun k xs ss e1 e e2 e3 h=>wV2 N e (e1▸hv) e2 (Nat.lt_of_le_of_lt e3 (by decide)) h
 |5,h=>qT1 h fun i e1 h=>by
  obtain ⟨t,rfl⟩:=(e1▸hv:qQ1 φ (.int i) v)
  exact PyProof.Rows.call_abs_int fun u tk=>qV1 N qO5 h
 |J+6,h=>False.elim h
theorem yY4 (O:Ok c A n) {g:Nat} {a b:AV} {v u:Value} (N:Now c φ H lc s) (h:yM7 g a b H K) (hv:qQ1 φ a v) (hu:qQ1 φ b u):wpAny (MM c) A (call (biV g) [v,u]) (qX1 c φ lc K) NoE s:=
 wX8 (P:=fun v u=>wpAny (MM c) A (call (biV g) [v,u]) (qX1 c φ lc K) NoE s) v u h hv hu fun i j t t' h=>
  match g,h with
  |0,h=>False.elim h
  |1,h=>yE8 O N h
  |2,h=>yC1 O N h
  |J+3,h=>False.elim h
theorem yP2 (O:Ok c A n) {g:Nat} {args:List AV} {vs:List Value} (N:Now c φ H lc s) (h:sBi g args H K) (hv:qQ4 φ args vs) :
  wpAny (MM c) A (call (biV g) vs) (qX1 c φ lc K) NoE s:=
 match args,h,hv with
 |[],h,J=>False.elim h
 |[a],h,hv=>by
  obtain ⟨v,rfl,h1⟩:=vs1 hv
  exact yA7 O N h h1
 |[a,b],h,hv=>by
  obtain ⟨v,u,rfl,h1,h2⟩:=vs2 hv
  exact yY4 O N h h1 h2
 |J::J2::J3::J4,h,J5=>False.elim h
noncomputable def bmV (k a:Nat):Value:=match k with
 |1=>match Nat.beq a qU1 with|true=>.builtin "list.pop"|false=>.builtin "list.append"
 |2=>match Nat.beq a qU1 with|true=>.builtin "dict.pop"|false=>.builtin "dict.get"
 |J=>match Nat.beq a qF4 with|true=>.builtin "str.find"|false=>.builtin "str.rfind"
theorem zG6:∀{g:Nat},g≠3->∃ id,biV g=.builtin id:=@fun ξ ξ2=>match @ξ,@ξ2 with
 |0,J=>⟨_,rfl⟩
 |1,J=>⟨_,rfl⟩
 |2,J=>⟨_,rfl⟩
 |3,h=>absurd rfl h
 |4,J=>⟨_,rfl⟩
 |J+5,J2=>⟨_,rfl⟩
theorem zE4:∀ k a,∃ id,bmV k a=.builtin id:=@fun ξ ξ2=>match @ξ,@ξ2 with
 |0,a=>by show ∃ id,(match Nat.beq a qF4 with|true=>Value.builtin "str.find"|false=>.builtin "str.rfind")=_;cases Nat.beq a qF4<;>exact ⟨_,rfl⟩
 |1,a=>by show ∃ id,(match Nat.beq a qU1 with|true=>Value.builtin "list.pop"|false=>.builtin "list.append")=_;cases Nat.beq a qU1<;>exact ⟨_,rfl⟩
 |2,a=>by show ∃ id,(match Nat.beq a qU1 with|true=>Value.builtin "dict.pop"|false=>.builtin "dict.get")=_;cases Nat.beq a qU1<;>exact ⟨_,rfl⟩
 |J+3,a=>by show ∃ id,(match Nat.beq a qF4 with|true=>Value.builtin "str.find"|false=>.builtin "str.rfind")=_;cases Nat.beq a qF4<;>exact ⟨_,rfl⟩
theorem zS7:nm qU1=Str.ofString "pop":=by decide +kernel
theorem xD6:nm qZ9=Str.ofString "append":=by decide +kernel
theorem yB3:nm xI7=Str.ofString "get":=by decide +kernel
theorem zF1:nm qF4=Str.ofString "find":=by decide +kernel
theorem zV4:nm qM2=Str.ofString "rfind":=by decide +kernel
theorem beq_eq {a b:Nat} (h:Nat.beq a b=true):a=b:=Nat.eq_of_beq_eq_true h
set_option tactic.hygienic true in
theorem zN5 {P:Prop} {o:AV} {H:AH} {k:Nat} (e:qA4 o H=k+1) (q1:∀ j,o=.obj j->(∃ xs,qQ0 H j=.il xs)∨(∃ xs,qQ0 H j=.vl xs)->k=0->P) (q2:∀ j es,o=.obj j->qQ0 H j=.sd es->k=1->P) (q3:∀ x,o=.str x->k=2->P):P:=by
 cases o<;>first|(injection e;done)|exact q3 _ rfl (Nat.succ.inj e).symm|skip
 rename_i j
 have key:∀{o:AO},(match o with|.il J=>1|.vl J=>1|.sd J=>2|_=>0)=k+1->qQ0 H j=o->P:=fun {o} e h=>by
  cases o<;>first|(injection e;done)|exact q1 j rfl (.inl ⟨_,h⟩) (Nat.succ.inj e).symm|exact q1 j rfl (.inr ⟨_,h⟩) (Nat.succ.inj e).symm|exact q2 j _ rfl h (Nat.succ.inj e).symm
 exact key e rfl
theorem wQ9 {x:Addr} {its:Array Value} {m:Nat} {name:Str} {id:String} {pl:Sem Bool} {Q:Value×List Value->Shared->Prop} (h1:s.heap.get? x=some (wX2 its m)) (slot:Slot "list" name id)
  (hty:typeOf (.builtin id)=pure (.type "method_descriptor")) (h:Q (.builtin id,[.ref x]) s):wpAny (MM c) A (getMethod (.ref x) name pl) Q NoE s:=
 getMethod_list_of slot hty ⟨_,h1,rfl,m,rfl⟩ ⟨_,h1,rfl⟩ h
theorem wX7 {x:Addr} {kv:List (Str×Value)} {name:Str} {id:String} {pl:Sem Bool} {Q:Value×List Value->Shared->Prop} (h1:s.heap.DictOf (SK c.w) x kv) (slot:Slot "dict" name id)
  (hty:typeOf (.builtin id)=pure (.type "method_descriptor")) (h:Q (.builtin id,[.ref x]) s):wpAny (MM c) A (getMethod (.ref x) name pl) Q NoE s:=by
 refine getMethod_builtin h1.typeIs PySem.F.plainAttrs_dict slot hty (fun a e=>?_) h
 (injection e with e;subst e)
 obtain ⟨o,J,J,h2,h3,J⟩:=h1
 exact ⟨o,h2,h3.2.1⟩
theorem yK9 {a b:Bool} (h:(match a with|true=>true|false=>b)=true):a=true∨b=true:=by
 cases a with
 |true=>exact .inl rfl
 |false=>exact .inr h
theorem zR0 {a:Nat} {o:AV} {v:Value} {k:Nat} (N:Now c φ H lc s) (hk:qA4 o H=k) (ok:qS4 k a=true) (hv:qQ1 φ o v) {pl:Sem Bool} {Q:Value×List Value->Shared->Prop} (q:Q (bmV k a,[v]) s) :
  wpAny (MM c) A (getMethod v (nm a) pl) Q NoE s:=by
 match k,hk,ok,q with
 |0,J,ok,J2=>exact nf ok
 |k+1,hk,ok,q=>
  refine zN5 hk (fun j e0 e1 e2=>?_) (fun j es e0 e1 e2=>?_) fun x e0 e2=>?_
  all_goals subst e0 e2
  ·have hx:∃ x its m,v=.ref x/\s.heap.get? x=some (wX2 its m):=by
    rcases e1 with ⟨xs,e⟩|⟨xs,e⟩
    ·obtain ⟨x,its,m,e,J,h1,J⟩:=qV7 N e hv;exact ⟨x,its,m,e,h1⟩
    ·obtain ⟨x,its,m,e,J,h1,J⟩:=qP6 N e hv;exact ⟨x,its,m,e,h1⟩
   obtain ⟨x,its,m,rfl,h1⟩:=hx
   rcases yK9 ok with e|e
   ·obtain rfl:=beq_eq e
    rw[zS7]
    exact wQ9 h1 PySem.F.slot_list_pop PySem.F.type_list_pop q
   ·obtain rfl:=beq_eq e
    rw[xD6]
    exact wQ9 h1 PySem.F.slot_list_append PySem.F.type_list_append q
  ·obtain ⟨x,kv,rfl,J,h1,J⟩:=qI1 N e1 hv
   rcases yK9 ok with e|e
   ·obtain rfl:=beq_eq e
    rw[zS7]
    exact wX7 h1 PySem.F.slot_dict_pop PySem.F.type_dict_pop q
   ·obtain rfl:=beq_eq e
    rw[yB3]
    exact wX7 h1 PySem.F.slot_dict_get PySem.F.type_dict_get q
  ·obtain ⟨t,rfl⟩:=hv
   rcases yK9 ok with e|e
   ·obtain rfl:=beq_eq e
    rw[zF1]
    exact GM.find q
   ·obtain rfl:=beq_eq e
    rw[zV4]
    exact GM.rfind q
theorem wE5 {k:Nat} {xs:List Int} (e:qQ0 H k=.il xs):qA4 (.obj k) H=1:=by unfold qA4;dsimp only;rw[e]
theorem xY7 {k:Nat} {xs:List AV} (e:qQ0 H k=.vl xs):qA4 (.obj k) H=1:=by unfold qA4;dsimp only;rw[e]
theorem wC4 {k:Nat} {xs:List (List Nat×AV)} (e:qQ0 H k=.sd xs):qA4 (.obj k) H=2:=by unfold qA4;dsimp only;rw[e]
set_option tactic.hygienic true in
theorem yT8 (O:Ok c A n) {a k:Nat} {o:AV} {args:List AV} {v:Value} {vs:List Value} (N:Now c φ H lc s) (hk:qA4 o H=k) (h:sBm a o args H K) (hv:qQ1 φ o v) (hs:qQ4 φ args vs) :
  wpAny (MM c) A (call (bmV k a) (v::vs)) (qX1 c φ lc K) NoE s:=by
 subst hk
 cases o<;>first|exact False.elim h|skip
 ·rename_i x
  obtain ⟨t',rfl⟩:=hv
  match args,h,hs with
  |[],h,J=>exact False.elim h
  |[a],h,hs=>
   obtain ⟨u,rfl,hu⟩:=vs1 hs
   refine qV8 h fun e g=>wD1 g fun c e1 g=>?_
   subst e e1
   obtain ⟨t,rfl⟩:=hu
   exact xT0 N g
  |[a,b],h,hs=>
   obtain ⟨u,w,rfl,hu,hw⟩:=vs2 hs
   refine qV8 h fun e g=>wD1 g fun c e1 g=>qT1 g fun i e2 g=>?_
   subst e e1 e2
   obtain ⟨t,rfl⟩:=hu
   obtain ⟨t2,rfl⟩:=hw
   exact zR6 N g
  |J::J2::J3::J4,h,J5=>exact False.elim h
 ·rename_i k
  match args,h,hs with
  |[],h,J=>exact False.elim h
  |[b],h,hs=>
   obtain ⟨u,rfl,hu⟩:=vs1 hs
   refine zX8 h (fun e e1 g=>?_) (fun x xs e e0 e1 g=>?_) (fun xs e e1 e2 g=>?_) fun es x w e e0 e1 e2 g=>?_
   all_goals subst e
   ·rw[wE5 e1]
    exact xQ5 N e1 hv hu g
   ·subst e0
    obtain ⟨t,rfl⟩:=hu
    rw[wE5 e1]
    exact yE6 N e1 hv g
   ·rw[xY7 e1]
    exact xE6 N e1 hv hu e2 g
   ·subst e0
    obtain ⟨t,rfl⟩:=hu
    rw[wC4 e1]
    exact zZ9 N e1 hv e2 g
  |[b,d],h,hs=>
   obtain ⟨u,w,rfl,hu,hw⟩:=vs2 hs
   refine zK7 h fun es x e e0 e1 e2 g=>?_
   subst e e0 e1
   obtain ⟨t,rfl⟩:=hu
   subst hw
   rw[wC4 e2]
   exact xU1 O N e2 hv g
  |J::J2::J3::J4,h,J5=>exact False.elim h
theorem xH5 {a b:AV} {v u:Value} (N:Now c φ H lc s) {K:AV->Prop} (h:zQ1 a b H K) (hv:qQ1 φ a v) (hu:qQ1 φ b u) :
  ∃ T id,s.TypeIs v T/\typeLookup (.type T) "__getitem__"=pure (some (.builtin id))/\wpAny (MM c) A (getItem v u) (qX1 c φ lc fun r H'=>K r/\H'=H) NoE s:=by
 refine xU6 h (fun k i xs e1 e2 e g=>?_) fun k x es w e1 e2 e e3 g=>?_
 all_goals subst e1 e2
 ·obtain ⟨x,its,m,rfl,J,h1,J⟩:=qV7 N e hv
  obtain ⟨t,rfl⟩:=hu
  exact ⟨"list", _,⟨_,h1,rfl⟩,PySem.slot_list_getitem.lookup,xC4 N e hv g.1 g.2.1 ⟨g.2.2,rfl⟩⟩
 ·obtain ⟨t,rfl⟩:=hu
  obtain ⟨x,kv,rfl,J,h1,J⟩:=qI1 N e hv
  exact ⟨"dict", _,h1.typeIs,PySem.slot_dict_getitem.lookup,xB9 N e hv e3 ⟨g,rfl⟩⟩
theorem yF2 {o lo hi:AV} {v a b:Value} (N:Now c φ H lc s) (h:qN6 o lo hi H K) (hv:qQ1 φ o v) (ha:qQ1 φ lo a) (hb:qQ1 φ hi b) :
  ∃ T id,Shared.TypeIs {s with heap:=s.heap.push {cls:=.type "slice", data:=.fields #[a,b,.none]}} v T/\typeLookup (.type T) "__getitem__"=pure (some (.builtin id))/\
   wpAny (MM c) A (getItem v (.ref s.heap.objs.size)) (qX1 c φ lc K) NoE {s with heap:=s.heap.push {cls:=.type "slice", data:=.fields #[a,b,.none]}}:=by
 refine zL2 h (fun k xs ys e1 e e2 g=>?_) fun x y e1 e3 g=>?_
 all_goals subst e1
 ·obtain ⟨x,its,rfl,⟨J,h1,h2,J⟩,J⟩:=xZ5 N e hv
  exact ⟨"list", _,⟨_,Heap.get?_push_of_some _ h1,h2⟩,PySem.slot_list_getitem.lookup,wI1 N e hv ha hb e2 g⟩
 ·obtain ⟨t,rfl⟩:=hv
  exact ⟨"str", _,typeIs_str _ _ _,PySem.F.slot_str_getitem.lookup,wZ3 N ha hb e3 g⟩
end
set_option tactic.hygienic true in
theorem qZ3 {sc:Scope} {x:Str} {k:NameKind} (h:qX8 sc x k=true):sc.names.lookup x=some k:=by
 unfold qX8 at h
 split at h
 ·rename_i e;rw[e,of_decide_eq_true h]
 ·exact nf h
noncomputable def yJ6:List Nat:=[0,1,2,3,4,5]
theorem xB3 (P:Params):(yJ6.all fun g=>nsIn (KP P) mainGlobals (Str.ofString (biN g))==some none)=true:=by kernel_rfl!
theorem xC1:(yJ6.all fun g=>bootBuiltins (Str.ofString (biN g))==some (biV g))=true:=by decide +kernel
theorem xY0:(yJ6.all fun g=>!(Str.ofString (biN g)==Str.ofString "__name__"))=true:=by decide +kernel
theorem wN9 {p:Nat->Bool} (h:yJ6.all p=true) (hp:∀ g,p (g+5)=p 5):∀ g,p g=true:=by
 intro g
 have m:=List.all_eq_true.mp h
 match g with
 |0=>exact m 0 (by decide)
 |1=>exact m 1 (by decide)
 |2=>exact m 2 (by decide)
 |3=>exact m 3 (by decide)
 |4=>exact m 4 (by decide)
 |g+5=>rw[hp];exact m 5 (by decide)
section
variable {c:Cx} {A:Around} {n:Nat} {φ:FP} {H:AH} {lc:Loc} {s:Shared} {K:AV->AH->Prop} {env:Env}
theorem Ok.mg (O:Ok c A n) (N:Now c φ H lc s):∃ mg,s.heap.Ns mainGlobals mg/\c.b.Ns mainGlobals mg:=by
 obtain ⟨mg,g⟩:=O.base.g
 refine ⟨mg,?_,g⟩
 obtain ⟨o,es,ep,e,r⟩:=g
 exact ⟨o,es,ep,N.rel.stays _ _ e,r⟩
theorem Ok.mb (O:Ok c A n) (N:Now c φ H lc s):∃ mb,s.heap.Ns builtinsNs mb/\∀ x:Str,x≠"__name__"->mb x=bootBuiltins x:=by
 obtain ⟨mb,g,h⟩:=O.base.bl
 refine ⟨mb,?_,h⟩
 obtain ⟨o,es,ep,e,r⟩:=g
 exact ⟨o,es,ep,N.rel.stays _ _ e,r⟩
theorem qJ8 (O:Ok c A n) (V:qQ2 c env) (N:Now c φ H lc s) {x:Str} {p:Pos} {v:Value} {Q:Value->Shared->Prop} (hd:(x==("__debug__":Str))=false) (hk:qX8 env.scope x .globalImplicit=true)
  (e:nsIn (KP c.w.params) mainGlobals x=some (some v)) (q:Q v s):wpAny (MM c) A (eval (.Name x p) env) Q NoE s:=by
 obtain ⟨mg,g,gb⟩:=O.mg N
 refine Name_function_global V.kind (qZ3 hk) (loadGlobal_global (mg:=mg) (by rw[V.glo];exact g) (mg_of O.kp gb e) q) hd
theorem zW9 (O:Ok c A n) (V:qQ2 c env) (N:Now c φ H lc s) {g:Nat} {p:Pos} {Q:Value->Shared->Prop} (hd:(Str.ofString (biN g)==("__debug__":Str))=false) (hk:qX8 env.scope (Str.ofString (biN g)) .globalImplicit=true)
  (q:Q (biV g) s):wpAny (MM c) A (eval (.Name (Str.ofString (biN g)) p) env) Q NoE s:=by
 obtain ⟨mg,hg,gb⟩:=O.mg N
 obtain ⟨mb,hb,h⟩:=O.mb N
 have e1:=wN9 (xB3 c.w.params) (fun J=>rfl) g
 have e2:=wN9 xC1 (fun J=>rfl) g
 have e3:=wN9 xY0 (fun J=>rfl) g
 refine Name_function_global V.kind (qZ3 hk) (loadGlobal_builtin (mg:=mg) (mb:=mb) (by rw[V.glo];exact hg) (mg_none_of O.kp gb (beq_iff_eq.mp e1)) (by rw[V.bui];exact hb) ?_ q) hd
 rw[h _ (fun q=>by rw[q]at e3;exact absurd e3 (by decide))]
 exact beq_iff_eq.mp e2
theorem wC2 (V:qQ2 c env) (N:Now c φ H lc s) {x:Nat} {av:AV} {p:Pos} (hd:(nm x==("__debug__":Str))=false) (hk:qX8 env.scope (nm x) .local=true∨qX8 env.scope (nm x) .cell=true) (e:lk lc x=some av) (k:K av H) :
  wpAny (MM c) A (eval (.Name (nm x) p) env) (qX1 c φ lc K) NoE s:=by
 obtain ⟨m,hm,hl⟩:=N.loc
 have h:=hl x av e
 unfold qV3 at h
 refine wpAny_Name ?_ hd
 rcases hk with hk|hk
 ·have z:=V.lo _ (qZ3 hk)
  rw[z]at h
  obtain ⟨v,h1,h2⟩:=h
  exact wpAny_loadName_local V.kind (qZ3 hk) (by rw[V.loc];exact hm) h1 (qR7 N h2 k)
 ·obtain ⟨a,z1,z2⟩:=V.ce _ (qZ3 hk)
  rw[z1]at h
  obtain ⟨o,v,h1,h2,h3⟩:=h
  exact wpAny_loadName_cell V.kind (qZ3 hk) z2 ⟨o,h1,h2⟩ (qR7 N h3 k)
theorem zJ5.in1 (R:zJ5 A (n+1)):zJ5 A.in1 n:=⟨by have:=R.depth;show A.depth+_<=_;exact Nat.not_lt.mp fun gz=>lin [_,_] [] [(1,.nl (.a (.v 0) (.m 2 (.a (.v 1) (.c 1)))) (.c 950)),(1,.nl (.a (.c 950) (.c 1)) (.a (.v 0) (.m 2 (.v 1))))] rfl this gz,by have:=R.units;show A.units+1+_<=_;exact Nat.not_lt.mp fun gz=>lin [_,_] [] [(1,.nl (.a (.v 0) (.m 40 (.a (.v 1) (.c 1)))) (.c 9700)),(1,.nl (.a (.c 9700) (.c 1)) (.a (.a (.v 0) (.c 1)) (.m 40 (.v 1))))] rfl this gz,R.hand,R.grd⟩
theorem zJ5.less (R:zJ5 A (n+1)):zJ5 A n:=⟨by have:=R.depth;omega,by have:=R.units;omega,R.hand,R.grd⟩
theorem Ok.in1 (O:Ok c A (n+1)):Ok c A.in1 n:=⟨O.base,O.lb,O.lc,O.ch,O.ci,O.frames,O.room.in1⟩
theorem Ok.less (O:Ok c A (n+1)):Ok c A n:=⟨O.base,O.lb,O.lc,O.ch,O.ci,O.frames,O.room.less⟩
theorem qM3 {sp:Sp} (S:qY4 n sp) (O:Ok c A (n+1)) (N:Now c φ H lc s) {f:Addr} {args:List AV} {vs:List Value} (hv:qQ4 φ args vs) (h:sp f args H K fun J=>False) :
  wpAny (MM c) A (call (.ref f) vs) (qX1 c φ lc K) NoE s:=by
 refine wpAny_call (codeAny_mono (S c A φ H lc s f args vs K O.less N hv h) fun r s' z=>?_)
 rcases r with e|(v|J|J|J)<;>first|exact z.elim|exact z
theorem wA9 (A:Around) (C:Addr) (vals:List Value):A.under (.builtin "type.__call__" ⟨.ref C::vals,[]⟩)={A with depth:=A.depth+1,units:=A.units+1}:=by
 obtain ⟨h,d,f,g,u⟩:=A
 rfl
theorem Ok.inMk (O:Ok c A (n+1)):Ok c {A with depth:=A.depth+1,units:=A.units+1} n:=
 ⟨O.base,O.lb,O.lc,O.ch,O.ci,O.frames,⟨by have:=O.room.depth;show A.depth+1+_<=_;exact Nat.not_lt.mp fun gz=>lin [_,_] [] [(1,.nl (.a (.v 0) (.m 2 (.a (.v 1) (.c 1)))) (.c 950)),(1,.nl (.a (.c 950) (.c 1)) (.a (.a (.v 0) (.c 1)) (.m 2 (.v 1))))] rfl this gz,by have:=O.room.units;show A.units+1+_<=_;exact Nat.not_lt.mp fun gz=>lin [_,_] [] [(1,.nl (.a (.v 0) (.m 40 (.a (.v 1) (.c 1)))) (.c 9700)),(1,.nl (.a (.c 9700) (.c 1)) (.a (.a (.v 0) (.c 1)) (.m 40 (.v 1))))] rfl this gz,O.room.hand,O.room.grd⟩⟩
theorem xF1 (N:Now c φ H lc s) (C:Nat):Now c (φ++[[s.heap.objs.size+1,s.heap.objs.size]]) (H++[.inst C []]) lc {s with heap:=(s.heap.push emptyDict).push (instObj (qH5 C) s.heap.objs.size)}:=by
 have hz:(s.heap.push emptyDict).objs.size=s.heap.objs.size+1:=Heap.size_push ..
 have g1:((s.heap.push emptyDict).push (instObj (qH5 C) s.heap.objs.size)).get? (s.heap.objs.size+1)=some (instObj (qH5 C) s.heap.objs.size):=by rw[<-hz];exact Heap.get?_push_size _ rfl
 have g2:((s.heap.push emptyDict).push (instObj (qH5 C) s.heap.objs.size)).get? s.heap.objs.size=some emptyDict:=Heap.get?_push_of_some _ (Heap.get?_push_size _ rfl)
 refine N.add (s':={s with heap:=(s.heap.push emptyDict).push (instObj (qH5 C) s.heap.objs.size)}) [s.heap.objs.size+1,s.heap.objs.size] (.inst C []) (fun a o e=>Heap.get?_push_of_some _ (Heap.get?_push_of_some _ e)) (fun a ha=>?_) ?_ ?_ rfl rfl
 ·simp only[List.mem_cons,List.not_mem_nil,or_false]at ha
  rcases ha with rfl|rfl
  ·refine ⟨?_,_,g1⟩
   cases q:s.heap.get? (s.heap.objs.size+1) with
   |none=>rfl
   |some o=>exact absurd (Heap.lt_size q) (Nat.not_lt.mpr (Nat.le_succ _))
  ·exact ⟨qQ7,_,g2⟩
 ·simp
 ·refine ⟨_,_,fun J=>none,rfl,g1,?_,wH4.nil⟩
  exact ⟨emptyDict,#[],0,g2,rfl,fun e he=>by simp at he,.nil,fun x=>rfl⟩
theorem yP1 {sp:Sp} (S:qY4 n sp) (O:Ok c A (n+1)) (N:Now c φ H lc s) {g ci:Nat} {f:Addr} {args:List AV} {vs:List Value} (hg:qW8 clT g=some (ci,f)) (hv:qQ4 φ args vs)
  (h:sp f (.obj H.length::args) (H++[.inst ci []]) (fun v H'=>match v with|.none=>K (.obj H.length) H'|_=>False) fun J=>False) :
  wpAny (MM c) A (call (.ref (qH5 ci)) vs) (qX1 c φ lc K) NoE s:=by
 have z:=List.all_eq_true.mp (yI3 c.w.params) _ (qX4 hg)
 simp only[yK3,Bool.and_eq_true,beq_iff_eq]at z
 obtain ⟨⟨z1,z2,z3,z4⟩,z5⟩:=z
 have X:=O.here N
 have N1:=xF1 N ci
 refine wpAny_call ?_
 obtain ⟨hh,gg,dd,tt,oo⟩:=s
 refine make_core (makes_of X z1) (looks_findIn X z2) (fun self=>bind_fn X self (beq_iff_eq.mp z3)) (.inl rfl) ?_
 rw[wA9]
 have V1:qQ4 (φ++[[hh.objs.size+1,hh.objs.size]]) (.obj H.length::args) (.ref (hh.objs.size+1)::vs):=⟨_,_,rfl,qV6 N.rel _ _,hv.mono (Ext.app _ _)⟩
 refine codeAny_mono (S c _ _ _ lc _ f _ _ _ O.inMk N1 V1 h) fun r s' z=>?_
 rcases r with e|(v|J|J|J)<;>first|exact z.elim|skip
 obtain ⟨φ',H',av,x,N',hv',hk⟩:=z
 cases av with
 |none=>
  subst hv'
  refine ⟨rfl,φ',H',.obj H.length,(Ext.app _ _).trans x,N',?_,hk⟩
  exact qQ1.mono x (qV6 N.rel _ _)
 |_=>exact hk.elim
end
set_option tactic.hygienic true in
theorem Now.setCell {c:Cx} {φ:FP} {H:AH} {lc:Loc} {s s':Shared} (N:Now c φ H lc s) {x:Nat} {a:Addr} {av:AV} {v:Value} (hc:c.cells.lookup (nm x)=some a) (hv:qQ1 φ av v)
  (hn:s'.heap.IsCell a (some v)) (hs:Heap.SameBut a s.heap s'.heap) (hb:c.b.get? a=none) (hcl:∀ y,c.cells.lookup y=some a->y=nm x) (hL:∀ y,c.cells.lookup y≠some c.L)
  (hg:s'.gens=s.gens) (ho:s'.os=s.os):Now c φ H (st lc x av) s':=by
 have keep:∀ b o,b≠a->s.heap.get? b=some o->s'.heap.get? b=some o:=fun b o n e=>(hs.2 b n).trans e
 obtain ⟨m,hm,hl⟩:=N.loc
 have aL:a≠c.L:=fun q=>hL _ (q▸hc)
 have aφ:=(N.cout _ _ hc).1
 obtain ⟨on,hon,hdn⟩:=hn
 have hm':s'.heap.Ns c.L m:=by
  obtain ⟨o,es,ep,e,r⟩:=hm
  exact ⟨o,es,ep,keep _ _ (fun q=>aL q.symm) e,r⟩
 refine ⟨⟨fun b o e=>keep b o (fun q=>by rw[q,hb]at e;injection e) (N.rel.stays b o e),N.rel.len,fun k o f e e'=>(N.rel.cov k o f e e').move (Ext.refl φ) fun b hb ob h=>keep b ob (fun q=>aφ (q▸qQ5 e' hb)) h,N.rel.nd,fun b h=>⟨(N.rel.fresh b h).1,?_⟩⟩,fun b o e h h2 h3=>?_,N.own,N.ext,fun env he=>?_,⟨m,hm',fun y bv q=>?_⟩,N.lout,fun y b e=>?_,hg.trans N.gens,ho.trans N.os,fun p hp=>keep _ _ (fun q=>?_) (N.fz p hp),N.fzh⟩
 ·obtain ⟨o,e⟩:=N.live h
  exact ⟨o,keep b o (fun q=>aφ (q▸h)) e⟩
 ·obtain ⟨sl,e',hs'⟩:=N.out b o e h h2 h3
  exact ⟨sl,keep b _ (fun q=>h3 _ (q▸hc)) e',hs'⟩
 ·obtain ⟨k1,L,o,k2,k3,k4,k5,k6⟩:=N.frs env he
  by_cases q:L=a
  ·exact ⟨k1,L,on,k2,k3,k4,q▸hon,fun vs z=>by rw[hdn]at z;injection z⟩
  ·exact ⟨k1,L,o,k2,k3,k4,keep L o q k5,k6⟩
 ·rw[qA5]at q
  by_cases z:y=x
  ·subst z
   rw[if_pos rfl]at q
   obtain rfl:=Option.some.inj q
   unfold qV3
   rw[hc]
   exact ⟨on,v,hon,hdn,hv⟩
  ·rw[if_neg z]at q
   have w:=hl y bv q
   unfold qV3 at w ⊢
   split
   ·rename_i e
    rw[e]at w
    exact w
   ·rename_i b e
    rw[e]at w
    obtain ⟨o,u,e1,e2,e3⟩:=w
    exact ⟨o,u,keep b o (fun h=>z (qK6 (hcl _ (h▸e)))) e1,e2,e3⟩
 ·obtain ⟨h1,o,h2,hcc⟩:=N.cout y b e
  by_cases q:b=a
  ·exact ⟨h1,on,q▸hon,_,hdn⟩
  ·exact ⟨h1,o,keep b o q h2,hcc⟩
 ·obtain ⟨j,es,e1,e2⟩:=N.fzh p hp
  exact aφ (q▸qQ5 e2 (.head _))
structure qV5 (c:Cx) (φ:FP) (a:Addr):Prop where
 fl:a∉φ.flatten
 b:c.b.get? a=none
 h:c.h₀.get? a=none
 L:a≠c.L
 ce:∀ y,c.cells.lookup y≠some a
 fr:∀ env∈c.frs,env.frame≠some a
theorem Now.untr {c:Cx} {φ:FP} {H:AH} {lc:Loc} {s:Shared} (N:Now c φ H lc s) {a:Addr} (h:s.heap.get? a=none):qV5 c φ a:=by
 refine ⟨fun q=>?_,?_,?_,fun q=>?_,fun y q=>?_,fun env he q=>?_⟩
 ·obtain ⟨o,e⟩:=N.live q;rw[h]at e;injection e
 ·cases e:c.b.get? a with
  |none=>rfl
  |some o=>rw[N.rel.stays a o e]at h;injection h
 ·cases e:c.h₀.get? a with
  |none=>rfl
  |some o=>obtain ⟨o',e'⟩:=N.live0 e;rw[h]at e';injection e'
 ·obtain ⟨m,⟨o,J,J,e,J⟩,J⟩:=N.loc
  rw[q,e]at h;injection h
 ·obtain ⟨J,o,e,J⟩:=N.cout y a q
  rw[h]at e;injection e
 ·obtain ⟨J,L,o,k2,J,J,k5,J⟩:=N.frs env he
  rw[k2]at q
  obtain rfl:=Option.some.inj q
  rw[h]at k5;injection k5
theorem Now.touch {c:Cx} {φ:FP} {H:AH} {lc:Loc} {s s':Shared} (N:Now c φ H lc s) {a:Addr} (U:qV5 c φ a) (keep:∀ b o,b≠a->s.heap.get? b=some o->s'.heap.get? b=some o)
  (hg:s'.gens=s.gens) (ho:s'.os=s.os):Now c φ H lc s':=by
 refine ⟨⟨fun b o e=>keep b o (fun q=>by rw[q,U.b]at e;injection e) (N.rel.stays b o e),N.rel.len,fun k o f e e'=>(N.rel.cov k o f e e').move (Ext.refl φ) fun b hb ob h=>keep b ob (fun q=>U.fl (q▸qQ5 e' hb)) h,N.rel.nd,fun b h=>⟨(N.rel.fresh b h).1,?_⟩⟩,fun b o e h h2 h3=>?_,N.own,N.ext,fun env he=>?_,N.loc.keep (Ext.refl φ) (fun b o h e=>keep b o (fun q=>?_) e),N.lout,fun y b e=>?_,hg.trans N.gens,ho.trans N.os,fun p hp=>keep _ _ (fun q=>?_) (N.fz p hp),N.fzh⟩
 ·obtain ⟨o,e⟩:=N.live h
  exact ⟨o,keep b o (fun q=>U.fl (q▸h)) e⟩
 ·obtain ⟨sl,e',hs'⟩:=N.out b o e h h2 h3
  exact ⟨sl,keep b _ (fun q=>by rw[q,U.h]at e;injection e) e',hs'⟩
 ·obtain ⟨k1,L,o,k2,k3,k4,k5,k6⟩:=N.frs env he
  exact ⟨k1,L,o,k2,k3,k4,keep L o (fun q=>U.fr env he (q▸k2)) k5,k6⟩
 ·rcases h with h|⟨y,h⟩
  ·exact U.L (q.symm.trans h)
  ·exact U.ce y (q▸h)
 ·obtain ⟨h1,o,h2,hcc⟩:=N.cout y b e
  exact ⟨h1,o,keep b o (fun q=>U.ce y (q▸e)) h2,hcc⟩
 ·obtain ⟨j,es,e1,e2⟩:=N.fzh p hp
  exact U.fl (q▸qQ5 e2 (.head _))
theorem Now.locEq {c:Cx} {φ:FP} {H:AH} {lc lc':Loc} {s:Shared} (N:Now c φ H lc s) (h:∀ x av,lk lc' x=some av->lk lc x=some av):Now c φ H lc' s:=by
 obtain ⟨m,hm,hl⟩:=N.loc
 exact ⟨N.rel,N.out,N.own,N.ext,N.frs,⟨m,hm,fun x av e=>hl x av (h x av e)⟩,N.lout,N.cout,N.gens,N.os,N.fz,N.fzh⟩
section
variable {c:Cx} {A:Around} {n:Nat} {env:Env} {sp:Sp}
theorem qI5 (O:Ok c A n) (V:qQ2 c env) {φ:FP} {H:AH} {lc:Loc} {s:Shared} {x:Nat} {av:AV} {v:Value} (N:Now c φ H lc s) (hk:qX8 env.scope (nm x) .local=true∨qX8 env.scope (nm x) .cell=true) (hv:qQ1 φ av v)
  {Q:Unit->Shared->Prop} (q:∀ s',Now c φ H (st lc x av) s'->Q () s'):wpAny (MM c) A (bindName env (nm x) v) Q NoE s:=by
 refine wpAny_bindName ?_
 obtain ⟨m,hm,hl⟩:=id N.loc
 rcases hk with hk|hk
 ·refine wpAny_storeName_local (m:=m) (qZ3 hk) (by rw[V.loc];exact hm) (fun h' hn hs=>?_) (by rw[V.kind];rfl)
  rw[V.loc]at hn hs
  refine q _ (N.setLoc (s':={s with heap:=h',toks:=s.toks+1}) (V.lo _ (qZ3 hk)) hv (fun m' hm'=>?_) hs O.lb O.lc rfl rfl)
  have e:m'=m:=by
   funext y
   obtain ⟨o,es,ep,e1,e2,J,e3⟩:=hm
   obtain ⟨o',es',ep',f1,f2,J,f3⟩:=hm'
   rw[e1]at f1
   obtain rfl:=Option.some.inj f1
   rw[e2]at f2
   (injection f2 with f2;subst f2)
   rw[<-e3,<-f3]
  rw[e]
  exact hn
 ·obtain ⟨a,z1,z2⟩:=V.ce _ (qZ3 hk)
  obtain ⟨J,o,ho,vA,hd⟩:=N.cout _ _ z1
  have hc:s.heap.IsCell a vA:=⟨o,ho,hd⟩
  refine wpAny_storeName_cell V.kind (qZ3 hk) z2 hc (fun h' hn hs=>?_)
  exact q _ (N.setCell (s':={s with heap:=h'}) z1 hv hn hs (O.ch _ _ z1) (fun y hy=>O.ci _ _ _ hy z1) O.lc rfl rfl)
end
section
variable {c:Cx} {φ:FP} {H:AH} {lc:Loc} {s s':Shared}
theorem Now.rebase (N:Now c φ H lc s):Now {c with h₀:=s.heap,φ₀:=φ} φ H lc s:=
 ⟨N.rel,fun a o e J J J=>⟨o.slots,e,fun J=>rfl⟩,fun a h=>.inl h,Ext.refl φ,N.frs,N.loc,N.lout,N.cout,N.gens,N.os,N.fz,N.fzh⟩
theorem Now.back0 (N:Now c φ H lc s) {φ':FP} {H':AH} {lc':Loc} (N':Now {c with h₀:=s.heap,φ₀:=φ} φ' H' lc' s'):Now c φ' H' lc' s':=by
 refine ⟨N'.rel,fun a o e h h2 h3=>?_,fun a h=>?_,N.ext.trans N'.ext,N'.frs,N'.loc,N'.lout,N'.cout,N'.gens,N'.os,N'.fz,N'.fzh⟩
 ·obtain ⟨sl,e1,k1⟩:=N.out a o e h h2 h3
  obtain ⟨sl',e2,k2⟩:=N'.out a _ e1 (fun q=>by
   rcases N.own a q with z|z
   ·exact h z
   ·rw[z]at e;injection e) h2 h3
  exact ⟨sl',e2,fun z=>(k2 z).trans (k1 z)⟩
 ·rcases N'.own a h with z|z
  ·exact N.own a z
  ·refine .inr ?_
   cases e:c.h₀.get? a with
   |none=>rfl
   |some o=>
    obtain ⟨o',e'⟩:=N.live0 e
    have z':s.heap.get? a=none:=z
    rw[z']at e';injection e'
theorem Ok.re {A:Around} {n:Nat} (O:Ok c A n) (h:Heap) (φ:FP):Ok {c with h₀:=h,φ₀:=φ} A n:=⟨O.base,O.lb,O.lc,O.ch,O.ci,O.frames,O.room⟩
theorem qQ2.re {env:Env} (V:qQ2 c env) (h:Heap) (φ:FP):qQ2 {c with h₀:=h,φ₀:=φ} env:=⟨V.kind,V.loc,V.glo,V.bui,V.lo,V.ce⟩
theorem Ok.fz {A:Around} {n:Nat} (O:Ok c A n) (l:List (Addr×Obj)):Ok {c with fz:=l} A n:=⟨O.base,O.lb,O.lc,O.ch,O.ci,O.frames,O.room⟩
theorem qQ2.fz {env:Env} (V:qQ2 c env) (l:List (Addr×Obj)):qQ2 {c with fz:=l} env:=⟨V.kind,V.loc,V.glo,V.bui,V.lo,V.ce⟩
theorem Now.kept (N:Now {c with h₀:=s.heap,φ₀:=φ} φ H lc s') {a:Addr} {o:Obj} {φ':FP} {H':AH} {lc':Loc} {s'':Shared} (N':Now {c with h₀:=s.heap,φ₀:=φ} φ' H' lc' s'') (h:s.heap.get? a=some o) (U:qV5 c φ a):s''.heap.get? a=some o:=by
 obtain ⟨sl,e,k⟩:=N'.out a o h U.fl U.L U.ce
 rw[k U.fr]at e
 exact e
theorem qV5.on {φ':FP} {H':AH} {lc':Loc} {a:Addr} {o:Obj} (U:qV5 c φ a) (N':Now {c with h₀:=s.heap,φ₀:=φ} φ' H' lc' s') (h:s.heap.get? a=some o):qV5 c φ' a:=by
 refine ⟨fun q=>?_,U.b,U.h,U.L,U.ce,U.fr⟩
 rcases N'.own a q with z|z
 ·exact U.fl z
 ·have z':s.heap.get? a=none:=z
  rw[z']at h;injection h
end
section
variable {c:Cx} {A:Around} {n:Nat} {env:Env} {sp:Sp}
theorem wY6 {w:World} {h:Heap} {d:Addr} {kv:List (Str×Value)} {ep:Nat} (x:h.DictAt (SK w) d kv ep):∃ o,h.get? d=some o/\∀ h':Heap,h'.get? d=some o->h'.DictAt (SK w) d kv ep:=by
 obtain ⟨o,es,e,r⟩:=x
 exact ⟨o,e,fun h' e'=>⟨o,es,e',r⟩⟩
theorem yW2 {H:AH} {k:Nat} {o o':AO} (h:qQ0 H k=o) (hd:o≠.dead):qQ0 (qX7 H k o') k=o':=by
 apply qE4
 rw[qX2,List.getElem?_set]
 have:=(List.getElem?_eq_some_iff.mp (qW7 h hd)).1
 simp[this]
theorem Now.freeze {φ:FP} {H:AH} {lc:Loc} {s:Shared} (N:Now c φ H lc s) {k:Nat} {es:List (List Nat×AV)} {d:Addr} {o:Obj} (e:qQ0 H k=.sd es) (hf:φ[k]?=some [d]) (ho:s.heap.get? d=some o) :
  Now {c with fz:=(d,o)::c.fz} φ (qX7 H k (.fd es)) lc s:=by
 have he:=qW7 e (qQ6 rfl)
 rw[qX2]
 refine ⟨⟨N.rel.stays,by simp[N.rel.len],fun j ob g e1 e2=>?_,N.rel.nd,N.rel.fresh⟩,N.out,N.own,N.ext,N.frs,N.loc,N.lout,N.cout,N.gens,N.os,fun p hp=>?_,fun p hp=>?_⟩
 ·by_cases q:k=j
  ·subst q
   rw[List.getElem?_set]at e1
   simp only[if_true]at e1
   split at e1
   ·obtain rfl:=Option.some.inj e1
    have z:=N.rel.cov k (.sd es) g he e2
    exact z
   ·injection e1
  ·rw[List.getElem?_set,if_neg q]at e1
   exact N.rel.cov j ob g e1 e2
 ·rcases List.mem_cons.mp hp with rfl|hp
  ·exact ho
  ·exact N.fz p hp
 ·rcases List.mem_cons.mp hp with rfl|hp
  ·refine ⟨k,⟨.fd es,rfl⟩,?_,hf⟩
   rw[List.getElem?_set]
   simp[(List.getElem?_eq_some_iff.mp he).1]
  ·obtain ⟨j,es',e1,e2⟩:=N.fzh p hp
   refine ⟨j,es',?_,e2⟩
   have:k≠j:=fun q=>by subst q;rw[he]at e1;exact qY1 (Option.some.inj e1) rfl
   rw[List.getElem?_set,if_neg this]
   exact e1
theorem Now.thaw {φ φ':FP} {H H':AH} {lc lc':Loc} {s s':Shared} (N:Now c φ H lc s) {k:Nat} {es:List (List Nat×AV)} {d:Addr} {o:Obj} {kv:List (Str×Value)} (e:qQ0 H k=.sd es) (hf:φ[k]?=some [d])
  (x:Ext φ φ') (N':Now {c with fz:=(d,o)::c.fz} φ' H' lc' s') {es':List (List Nat×AV)} (e':qQ0 H' k=.fd es') (hd:s'.heap.DictOf (SK c.w) d kv) (hk:KR φ es kv) (nd:(es.map (·.1)).Nodup) (hl:es.length<=100) :
  Now c φ' (qX7 H' k (.sd es)) lc' s':=by
 have he:=qW7 e (qQ6 rfl)
 have he':=qW7 e' (qQ6 rfl)
 have hf':φ'[k]?=some [d]:=by
  obtain ⟨j,es2,e1,e2⟩:=N'.fzh (d,o) (.head _)
  obtain ⟨g,hg⟩:=x k _ hf
  have:j=k:=qW1 (a:=d) N'.rel.nd e2 hg (.head _) (by first|exact qQ6 rfl|exact .head _|simp)
  rw[<-this];exact e2
 rw[qX2]
 refine ⟨⟨N'.rel.stays,by simp[N'.rel.len],fun j ob g e1 e2=>?_,N'.rel.nd,N'.rel.fresh⟩,N'.out,N'.own,N'.ext,N'.frs,N'.loc,N'.lout,N'.cout,N'.gens,N'.os,fun p hp=>N'.fz p (.tail _ hp),fun p hp=>?_⟩
 ·by_cases q:k=j
  ·subst q
   rw[List.getElem?_set]at e1
   simp only[if_true]at e1
   split at e1
   ·cases e1
    rw[hf']at e2
    cases e2
    have hk':KR φ' es kv:=by
     clear hd e' he' he e nd hl
     revert hk
     induction es generalizing kv with
     |nil=>exact fun h=>h
     |cons p r ih=>
      obtain ⟨a,av⟩:=p
      rintro ⟨v,r',rfl,h1,h2⟩
      exact ⟨v,r',rfl,h1.mono x,ih h2⟩
    exact wA2 hd hk' nd hl
   ·injection e1
  ·rw[List.getElem?_set,if_neg q]at e1
   exact N'.rel.cov j ob g e1 e2
 ·obtain ⟨j0,es0,a1,a2⟩:=N.fzh p hp
  obtain ⟨j,es2,e1,e2⟩:=N'.fzh p (.tail _ hp)
  have jk:k≠j:=by
   intro q
   subst q
   rw[hf']at e2
   have hpd:p.1=d:=by simpa using e2.symm
   rw[hpd]at a2
   have:j0=k:=qW1 (a:=d) N.rel.nd a2 hf (.head _) (by first|exact qQ6 rfl|exact .head _|simp)
   subst this
   rw[he]at a1;exact qY1 (Option.some.inj a1) rfl
  refine ⟨j,es2,?_,e2⟩
  rw[List.getElem?_set,if_neg jk]
  exact e1
theorem xW9 {φ:FP}:∀{es:List (List Nat×AV)} {kv:List (Str×Value)} (i:Nat) {e:List Nat×AV},KR φ es kv->es[i]?=some e->∃ v,kv[i]?=some ((⟨e.1.toArray⟩:Str),v):=@fun ξ ξ2 ξ3 ξ4 ξ5 ξ6=>match @ξ,@ξ2,@ξ3,@ξ4,@ξ5,@ξ6 with
 |[],J,i,e,h,he=>by simp at he
 |(k,av)::es,J,0,e,⟨v,r,e',J2,J3⟩,he=>by subst e';simp at he;subst he;exact ⟨v,rfl⟩
 |(k,av)::es,J,i+1,e,⟨v,r,e',J2,h⟩,he=>by subst e';simpa using xW9 i h (by simpa using he)
end
theorem wI9 (P:Params):(nsIn (KP P) mainGlobals (Str.ofString "range")==some none)=true:=by kernel_rfl!
theorem wL4:bootBuiltins (Str.ofString "range")=some (.type "range"):=by decide +kernel
theorem wU1:(Str.ofString "range"==("__debug__":Str))=false:=by decide +kernel
theorem wP9:Str.ofString "range"≠("__name__":Str):=by decide +kernel
theorem wN4 {φ:FP}:∀{xs:List AV} {vs:List Value} (i:Nat),qQ4 φ xs vs->(qU0 xs i=none/\vs[i]?=none)∨∃ av v,qU0 xs i=some av/\vs[i]?=some v/\qQ1 φ av v:=@fun ξ ξ2 ξ3 ξ4=>match @ξ,@ξ2,@ξ3,@ξ4 with
 |[],J,i,h=>by subst h;exact .inl ⟨rfl,by simp⟩
 |x::xs,J,0,⟨v,r,e,h1,h2⟩=>by subst e;exact .inr ⟨x,v,rfl,rfl,h1⟩
 |x::xs,J,i+1,⟨v,r,e,h1,h2⟩=>by subst e;have z:=wN4 i h2;exact z
theorem zC5 {xs:List Int} {vs:List Value} (h:IntsAre vs xs):∀ i,(qU0 xs i=none/\vs[i]?=none)∨∃ x t,qU0 xs i=some x/\vs[i]?=some (.int x t):=by
 induction h with
 |nil=>intro i;exact .inl ⟨rfl,by simp⟩
 |cons n t r ih=>
  intro i
  cases i with
  |zero=>exact .inr ⟨n,t,rfl,rfl⟩
  |succ i=>exact ih i
structure qM9 (w:World) (fz:List (Addr×Obj)) (φ₁:FP) (it:Addr) (nxt:Nat->AH->Option (Option AV)) (P:Nat->Obj->Prop):Prop where
 next:∀(c:Cx) (A:Around) (φ:FP) (H:AH) (lc:Loc) (s:Shared) (i:Nat) (oi:Obj) (r:Option AV) (Q:Option Value->Shared->Prop) (E:Value->Shared->Prop),c.w=w->c.fz=fz->A.handled=none->Ext φ₁ φ->Now c φ H lc s->qV5 c φ it->s.heap.get? it=some oi->P i oi->nxt i H=some r->
  (r=none->∀ s',Now c φ H lc s'->(∀ b o,b≠it->s.heap.get? b=some o->s'.heap.get? b=some o)->Q none s')->
  (∀ av,r=some av->∀ v s' oj,qQ1 φ av v->Now c φ H lc s'->(∀ b o,b≠it->s.heap.get? b=some o->s'.heap.get? b=some o)->s'.heap.get? it=some oj->P (i+1) oj->Q (some v) s')->
  wpAny (MM c) A (pyNext (.ref it)) Q E s
 self:∀(A:Around) (s:Shared) (i:Nat) (oi:Obj) (Q:Value->Shared->Prop) (E:Value->Shared->Prop),s.heap.get? it=some oi->P i oi->Q (.ref it) s->wpAny (model pw w) A (pyIter (.ref it)) Q E s
noncomputable def pL (ax:Addr) (i:Nat) (o:Obj):Prop:=o.cls=.type "list_iterator"/\o.data=.fields #[.ref ax,.int i 0]
noncomputable def pT (ax:Addr) (i:Nat) (o:Obj):Prop:=o.cls=.type "tuple_iterator"/\o.data=.fields #[.ref ax,.int i 0]
noncomputable def pR (m:Int) (i:Nat) (o:Obj):Prop:=o={cls:=.type "range_iterator", dict:=none,data:=.fields #[rawInt i,rawInt (m-i),rawInt 1],slots:=#[]}
noncomputable def pD (d:Addr) (n ep i:Nat) (o:Obj):Prop:=o.cls=.type "dict_keyiterator"/\o.data=.fields #[.ref d,.int i 0,.int n 0,.int ep 0]
set_option tactic.hygienic true in
theorem wT3 (w:World) (fz:List (Addr×Obj)) {φ₁:FP} {it ax:Addr} {k:Nat} (hv:qQ1 φ₁ (.obj k) (.ref ax)):qM9 w fz φ₁ it (qR4 k) (pL ax) where
 next:=by
  intro c A φ H lc s i oi r Q E hw hz hh x N U hit hP hn q0 q1
  subst hw
  unfold qR4 at hn
  split at hn<;>first|obtain rfl:=Option.some.inj hn|(injection hn;done)|skip
  rename_i xs e
  obtain ⟨ax',its,mm,eq,J,h1,h2,J⟩:=qV7 N e (hv.mono x)
  (injection eq with eq;subst eq)
  have hi:s.heap.IsListIter it ax i:=⟨oi,hit,hP⟩
  rcases zC5 h2 i with ⟨g1,g2⟩|⟨y,t,g1,g2⟩
  ·rw[g1]at q0
   exact wpAny_pyNext_list_end hh hi ⟨_,h1,rfl,mm,rfl⟩ (by simpa using g2) fun h' hk=>q0 rfl _ (N.touch (s':={s with heap:=h'}) U (fun b o nb eb=>hk b o nb eb) rfl rfl) hk
  ·rw[g1]at q1
   refine wpAny_pyNext_list_item hi ⟨_,h1,rfl,mm,rfl⟩ (by simpa using g2) fun h' hit' hs'=>?_
   obtain ⟨oj,hj,hj1⟩:=hit'
   exact q1 _ rfl _ _ oj qO5 (N.touch (s':={s with heap:=h'}) U (fun b o nb eb=>(hs'.2 b nb).trans eb) rfl rfl) (fun b o nb eb=>(hs'.2 b nb).trans eb) hj hj1
 self:=fun A s i oi Q E hit hP q=>wpAny_pyIter_listiter ⟨oi,hit,hP⟩ q
set_option tactic.hygienic true in
theorem xE4 (w:World) (fz:List (Addr×Obj)) {φ₁:FP} {it ax:Addr} {k:Nat} (hv:qQ1 φ₁ (.obj k) (.ref ax)):qM9 w fz φ₁ it (wK3 k) (pT ax) where
 next:=by
  intro c A φ H lc s i oi r Q E hw hz hh x N U hit hP hn q0 q1
  subst hw
  unfold wK3 at hn
  split at hn<;>first|obtain rfl:=Option.some.inj hn|(injection hn;done)|skip
  rename_i xs e
  obtain ⟨f,hf,ax',its,mm,rfl,h1,h2⟩:=N.at e (qQ6 rfl)
  obtain ⟨a,l,h4,h5⟩:=hv.mono x
  (injection h5 with h5;subst h5)
  rw[hf]at h4
  cases h4
  have hi:s.heap.IsTupleIter it ax i:=⟨oi,hit,hP⟩
  rcases wN4 i h2 with ⟨g1,g2⟩|⟨y,v,g1,g2,g3⟩
  ·rw[g1]at q0
   exact wpAny_pyNext_tuple_end hh hi ⟨_,h1,rfl,mm,rfl⟩ (by simpa using g2) fun h' hk=>q0 rfl _ (N.touch (s':={s with heap:=h'}) U (fun b o nb eb=>hk b o nb eb) rfl rfl) hk
  ·rw[g1]at q1
   refine wpAny_pyNext_tuple_item hi ⟨_,h1,rfl,mm,rfl⟩ (by simpa using g2) fun h' hit' hs'=>?_
   obtain ⟨oj,hj,hj1⟩:=hit'
   exact q1 _ rfl _ _ oj g3 (N.touch (s':={s with heap:=h'}) U (fun b o nb eb=>(hs'.2 b nb).trans eb) rfl rfl) (fun b o nb eb=>(hs'.2 b nb).trans eb) hj hj1
 self:=fun A s i oi Q E hit hP q=>wpAny_pyIter_tupleiter ⟨oi,hit,hP⟩ q
set_option tactic.hygienic true in
theorem wH5 (w:World) (fz:List (Addr×Obj)) {φ₁:FP} {it:Addr} {m:Int}:qM9 w fz φ₁ it (wX5 m) (pR m) where
 next:=by
  intro c A φ H lc s i oi r Q E hw hz hh x N U hit hP hn q0 q1
  subst hw hP
  unfold wX5 at hn
  split at hn
  ·rename_i hlt
   have hlt:=of_decide_eq_true hlt
   obtain rfl:=Option.some.inj hn
   refine wpAny_pyNext_range_item hit (by exact Int.not_le.mp fun gz=>lin [_] [_] [(1,.il (.a (.n (.v 0)) (.c 1)) (.v 0)),(1,.il (.s (.v 0) (.n (.v 0))) (.c (0)))] rfl hlt gz) fun h' hit' hs'=>?_
   have N3:Now c φ H lc {s with heap:=h',toks:=s.toks+1}:=N.touch (s':={s with heap:=h',toks:=s.toks+1}) U (fun b o nb eb=>(hs'.2 b nb).trans eb) rfl rfl
   refine q1 _ rfl _ _ _ qO5 N3 (fun b o nb eb=>(hs'.2 b nb).trans eb) hit' ?_
   unfold pR
   congr 2
   have:m-(i:Int)-1=m-((i+1:Nat):Int):=by exact leq [_] [_] (.il (.s (.s (.v 0) (.n (.v 0))) (.c (1))) (.s (.v 0) (.n (.a (.v 0) (.c 1))))) [] rfl
   rw[this]
   rfl
  ·rename_i hlt
   have hlt:=of_decide_eq_false hlt
   obtain rfl:=Option.some.inj hn
   exact wpAny_pyNext_range_end hh hit (by exact Int.not_lt.mp fun gz=>lin [_] [_] [(1,.il (.v 0) (.n (.v 0))),(1,.il (.a (.c (0)) (.c 1)) (.s (.v 0) (.n (.v 0))))] rfl (Int.not_lt.mp hlt) gz) fun h' hk=>q0 rfl _ (N.touch (s':={s with heap:=h'}) U (fun b o nb eb=>hk b o nb eb) rfl rfl) hk
 self:=fun A s i oi Q E hit hP q=>by
  subst hP
  exact wpAny_pyIter_rangeiter hit q
theorem wN5 {α:Type}:∀(l:List α) (i:Nat),qU0 l i=l[i]?:=@fun ξ ξ2=>match @ξ,@ξ2 with
 |[],i=>rfl
 |x::l,0=>rfl
 |x::l,i+1=>wN5 l i
theorem wR4 (w:World) {fz:List (Addr×Obj)} {φ₁ φC:FP} {it d:Addr} {es:List (List Nat×AV)} {kv:List (Str×Value)} {o:Obj} {ep:Nat} (hz':(d,o)∈fz) (hback:∀ h':Heap,h'.get? d=some o->h'.DictAt (SK w) d kv ep) (hkr:KR φC es kv) :
  qM9 w fz φ₁ it (wZ6 es) (pD d kv.length ep) where
 next:=by
  intro c A φ H lc s i oi r Q E hw hz hh x N U hit hP hn q0 q1
  subst hw hz
  have hda:=hback s.heap (N.fz (d,o) hz')
  have hi:s.heap.IsKeyIter it d i kv.length ep:=⟨oi,hit,hP⟩
  have kvlen:=hkr.len
  unfold wZ6 at hn
  rw[wN5]at hn
  cases hei:es[i]? with
  |none=>
   rw[hei]at hn
   obtain rfl:=Option.some.inj hn
   refine wpAny_pyNext_dict_end hh hi hda (List.getElem?_eq_none (by have:=List.getElem?_eq_none_iff.mp hei;omega)) fun h' hk=>q0 rfl _ (N.touch (s':={s with heap:=h'}) U (fun b o nb eb=>hk b o nb eb) rfl rfl) hk
  |some en=>
   rw[hei]at hn
   obtain rfl:=Option.some.inj hn
   obtain ⟨v,hv⟩:=xW9 i hkr hei
   refine wpAny_pyNext_dict_item hi hda hv fun key h' hkey hit2 hs'=>?_
   obtain ⟨t,rfl⟩:=Value.isStrOf_shape hkey
   obtain ⟨oj,hj,hj1⟩:=hit2
   exact q1 _ rfl _ _ oj zX2 (N.touch (s':={s with heap:=h'}) U (fun b o nb eb=>(hs'.2 b nb).trans eb) rfl rfl) (fun b o nb eb=>(hs'.2 b nb).trans eb) hj hj1
 self:=fun A s i oi Q E hit hP q=>wpAny_pyIter_keyiter ⟨oi,hit,hP⟩ q
theorem qQ4.snoc {φ:FP} {av:AV} {v:Value} (h:qQ1 φ av v):∀{as:List AV} {vs:List Value},qQ4 φ as vs->qQ4 φ (as++[av]) (vs++[v]):=@fun ξ ξ2 ξ3=>match @ξ,@ξ2,@ξ3 with
 |[],J,e=>by subst e;exact ⟨v,[],rfl,h,rfl⟩
 |J::J2,J3,⟨u,r,e,h1,h2⟩=>by subst e;exact ⟨u,_,rfl,h1,h2.snoc h⟩
noncomputable abbrev qV4 (ifs:List Expr) (env:Env):Sem Bool:=forIn ifs true fun c r=>if r=true then do let ok <-isTrue c env (eval c env);pure (ForInStep.yield ok) else pure (ForInStep.yield r)
theorem Now.adopt {c:Cx} {φ:FP} {H:AH} {lc:Loc} {s:Shared} (N:Now c φ H lc s) {a:Addr} {ob:Obj} (U:qV5 c φ a) (ha:s.heap.get? a=some ob) (o:AO) (cov:Cov c.w.params s.heap (φ++[[a]]) o [a]):Now c (φ++[[a]]) (H++[o]) lc s:=by
 have x:=Ext.app φ [a]
 have fl:(φ++[[a]]).flatten=φ.flatten++[a]:=by simp
 refine ⟨⟨N.rel.stays,by simp[N.rel.len],fun k ob' g e e'=>?_,?_,fun b h=>?_⟩,N.out,fun b h=>?_,N.ext.trans x,fun env he=>?_,N.loc.keep x (fun J J J e=>e),?_,fun y b e=>?_,N.gens,N.os,N.fz,fun p hp=>?_⟩
 ·rcases getElem?_app e with e|⟨rfl,rfl⟩
  ·rcases getElem?_app e' with e'|⟨rfl,rfl⟩
   ·exact (N.rel.cov k ob' g e e').move x fun J J J h=>h
   ·have:=(List.getElem?_eq_some_iff.mp e).1
    rw[N.rel.len]at this
    exact absurd this (Nat.lt_irrefl _)
  ·rw[<-N.rel.len]at e'
   rw[List.getElem?_append_right (Nat.le_refl _)]at e'
   simp at e'
   subst e'
   exact cov
 ·rw[fl]
  exact List.nodup_append.mpr ⟨N.rel.nd,by simp,fun b h b' h' e=>by simp at h';subst h';subst e;exact U.fl h⟩
 ·rw[fl]at h
  rcases List.mem_append.mp h with h|h
  ·exact N.rel.fresh b h
  ·simp at h;subst h;exact ⟨U.b,_,ha⟩
 ·rw[fl]at h
  rcases List.mem_append.mp h with h|h
  ·exact N.own b h
  ·simp at h;subst h;exact .inr U.h
 ·obtain ⟨k1,L,o',k2,k3,k4,k5,k6⟩:=N.frs env he
  refine ⟨k1,L,o',k2,k3,fun q=>?_,k5,k6⟩
  rw[fl]at q
  rcases List.mem_append.mp q with q|q
  ·exact k4 q
  ·simp at q;subst q;exact U.fr env he k2
 ·rw[fl]
  intro q
  rcases List.mem_append.mp q with q|q
  ·exact N.lout q
  ·simp at q;exact U.L q.symm
 ·obtain ⟨h1,o',h2,hc⟩:=N.cout y b e
  refine ⟨fun q=>?_,o',h2,hc⟩
  rw[fl]at q
  rcases List.mem_append.mp q with q|q
  ·exact h1 q
  ·simp at q;subst q;exact U.ce y e
 ·obtain ⟨k,es,e1,e2⟩:=N.fzh p hp
  exact ⟨k,es,by rw[List.getElem?_append_left (List.getElem?_eq_some_iff.mp e1).1];exact e1,by rw[List.getElem?_append_left (List.getElem?_eq_some_iff.mp e2).1];exact e2⟩
section
variable {c:Cx} {A:Around} {n:Nat} {env:Env}
theorem zY6 {nxt:Nat->AH->Option (Option AV)} {T:Loc->AH->(Bool->AH->Prop)->Prop} {G:Loc->AH->(AV->AH->Prop)->Prop} {x:Nat} {lc:Loc} {m i:Nat} {acc:List AV} {H:AH} {K:List AV->AH->Prop} (h:qZ7 nxt T G x lc (m+1) i acc H K) :
  match nxt i H with
  |some (some v)=>T (st lc x v) H fun t H=>match t with
   |true=>G (st lc x v) H fun r H=>qZ7 nxt T G x lc m (i+1) (acc++[r]) H K
   |false=>qZ7 nxt T G x lc m (i+1) acc H K
  |some none=>K acc H
  |none=>False:=h
inductive yC2 (c:Cx) (P:Nat->Obj->Prop) (nxt:Nat->AH->Option (Option AV)) (T:Loc->AH->(Bool->AH->Prop)->Prop) (G:Loc->AH->(AV->AH->Prop)->Prop) (x:Nat) (lcA:Loc) (φ₁:FP) (it D:Addr) (m:Nat) (K:List AV->AH->Prop) (m':Nat) (s':Shared):Prop
 |mk (φ':FP) (H':AH) (lc':Loc) (i:Nat) (accs:List AV) (ys:Array Value) (oi:Obj) (x':Ext φ₁ φ') (N:Now c φ' H' lc' s') (U:qV5 c φ' it) (UD:qV5 c φ' D) (hi:s'.heap.get? it=some oi) (hP:P i oi) (hD:s'.heap.PlainList D ys) (hy:qQ4 φ' accs ys.toList) (hl:accs.length+m'<=m)
  (hlc:lc'=lcA∨∃ u,lc'=st lcA x u) (k:qZ7 nxt T G x lcA m' i accs H' K)
theorem wO4 (O:Ok c A (n+1)) (V:qQ2 c env) {x:Nat} {px pos:Pos} {iter elt:Expr} {ifs:List Expr} {scope:Scope} {it D:Addr} {nxt:Nat->AH->Option (Option AV)} {P:Nat->Obj->Prop} {φ₁:FP} {T:Loc->AH->(Bool->AH->Prop)->Prop} {G:Loc->AH->(AV->AH->Prop)->Prop}
  (hk:qX8 env.scope (nm x) .local=true) (IO:qM9 c.w c.fz φ₁ it nxt P)
  (ht:∀(c':Cx) φ H lc s K,c'.w=c.w->Ok c' A (n+1)->qQ2 c' env->Now c' φ H lc s->T lc H K->wpAny (MM c') A (qV4 ifs env) (qA7 c' φ lc K) NoE s)
  (hg:∀(c':Cx) φ H lc s K,c'.w=c.w->Ok c' A (n+1)->qQ2 c' env->Now c' φ H lc s->G lc H K->wpAny (MM c') A (eval elt env) (qX1 c' φ lc K) NoE s)
  {H:AH} {lcA:Loc} {s:Shared} {oi:Obj} {m:Nat} {K:List AV->AH->Prop} (N:Now c φ₁ H lcA s) (U:qV5 c φ₁ it) (hit:s.heap.get? it=some oi) (hP:P 0 oi) (UD:qV5 c φ₁ D) (hD:s.heap.PlainList D #[]) (itD:D≠it) (hm:m<=1000)
  (hl:qZ7 nxt T G x lcA m 0 [] H K) {R:Result->Shared->Prop}
  (q:∀ φ' H' lc' s' accs ys,Ext φ₁ φ'->Now c φ' H' lc' s'->qV5 c φ' D->s'.heap.PlainList D ys->qQ4 φ' accs ys.toList->accs.length<=m->(∀ y av,y≠x->lk lcA y=some av->lk lc' y=some av)->K accs H'->R (.ok .next) s') :
  codeAny (MM c) A (.compLoop (.ListComp elt [⟨.Name (nm x) px,iter,ifs,0⟩] scope pos) 0 (.ref it) (.ref D) env) R s:=by
 refine codeAny_compLoop_tests (yC2 c P nxt T G x lcA φ₁ it D m K) (fun m' s' hI=>?_) m
  ⟨φ₁,H,lcA,0,[],#[],oi,Ext.refl _,N,U,UD,hit,hP,hD,rfl,by simp,.inl rfl,hl⟩
 obtain ⟨φ',H',lc',i,accs,ys,oj,x',N',U',UD',hit',hP',hD',hys,hlen,hlc,hl'⟩:=hI
 have lcs:∀ y av,y≠x->lk lcA y=some av->lk lc' y=some av:=by
  intro y av hy e
  rcases hlc with rfl|⟨u,rfl⟩
  ·exact e
  ·rw[qA5,if_neg hy];exact e
 cases m' with
 |zero=>exact hl'.elim
 |succ m'=>
  have hl2:=zY6 hl'
  clear hl'
  cases hn:nxt i H' with
  |none=>rw[hn]at hl2;exact False.elim hl2
  |some r=>
   rw[hn]at hl2
   have hl':=hl2
   clear hl2
   refine IO.next c A φ' H' lc' s' i oj r _ _ rfl rfl O.room.hand x' N' U' hit' hP' hn (fun hr sB N1 k1=>?_) fun av hr v sB oj1 hv N1 k1 hj hPj=>?_
   ·subst hr
    dsimp only at hl' ⊢
    obtain ⟨nD,eD⟩:=hD'
    exact q φ' H' lc' sB accs ys x' N1 UD' ⟨nD,k1 D _ itD eD⟩ hys (by exact Nat.not_lt.mp fun gz=>lin [_,_,_] [] [(1,.nl (.a (.v 0) (.a (.v 1) (.c 1))) (.v 2)),(1,.nl (.a (.v 2) (.c 1)) (.v 0))] rfl hlen gz) lcs hl'
   ·subst hr
    dsimp only at hl' ⊢
    obtain ⟨nD,eD⟩:=hD'
    have eD1:=k1 D _ itD eD
    have N1r:=N1.rebase
    let cr:Cx:={c with h₀:=sB.heap,φ₀:=φ'}
    have Or:Ok cr A (n+1):=O.re sB.heap φ'
    have Vr:qQ2 cr env:=V.re sB.heap φ'
    show wpAny (MM c) A (do standAt px;bindName env (nm x) v) _ _ sB
    refine wpAny_bind (wpAny_standAt (wpAny_mono (qI5 (c:=cr) Or Vr N1r (.inl hk) hv (Q:=fun J sC=>Now cr φ' H' (st lcA x av) sC) fun sC N2=>?_) (fun J sC N2=>?_) fun J J e=>e.elim))
    ·refine N2.locEq fun y bv e=>?_
     rw[qA5]at e ⊢
     by_cases hy:y=x
     ·rw[if_pos hy]at e ⊢;exact e
     ·rw[if_neg hy]at e ⊢;exact lcs y bv hy e
    ·refine wpAny_mono (ht cr φ' H' (st lcA x av) sC _ rfl Or Vr N2 hl') (fun ok sD g=>?_) fun J J e=>e.elim
     obtain ⟨φD,HD,xD,N3,k3⟩:=g
     cases ok with
     |false=>
      rw[if_neg (by decide)]
      exact ⟨m',Nat.lt_succ_self _,φD,HD,st lcA x av,i+1,accs,ys,oj1,x'.trans xD,N1.back0 N3,U'.on N3 hj,UD'.on N3 eD1,N1r.kept N3 hj U',hPj,⟨nD,N1r.kept N3 eD1 UD'⟩,hys.mono xD,by exact Nat.not_lt.mp fun gz=>lin [_,_,_] [] [(1,.nl (.a (.v 0) (.a (.v 1) (.c 1))) (.v 2)),(1,.nl (.a (.v 2) (.c 1)) (.a (.v 0) (.v 1)))] rfl hlen gz,.inr ⟨av,rfl⟩,k3⟩
     |true=>
      rw[if_pos rfl]
      refine wpAny_mono (hg cr φD HD (st lcA x av) sD _ rfl Or Vr N3 k3) (fun u sE g=>?_) fun J J e=>e.elim
      obtain ⟨φE,HE,bv,xE,N4,hu,k4⟩:=g
      have eD4:=N1r.kept N4 eD1 UD'
      have UD4:=UD'.on N4 eD1
      refine wpAny_list_append_plain (items:=ys) ⟨nD,eD4⟩ (fun h' hpl hs=>?_) ?_
      ·have N5:=(N1.back0 N4).touch (s':={sE with heap:=h'}) UD4 (fun b o nb eb=>(hs.2 b nb).trans eb) rfl rfl
       refine ⟨m',Nat.lt_succ_self _,φE,HE,st lcA x av,i+1,accs++[bv],ys.push u,oj1,(x'.trans xD).trans xE,N5,U'.on N4 hj,UD4,(hs.2 it fun z=>itD z.symm).trans (N1r.kept N4 hj U'),hPj,hpl,?_,?_,.inr ⟨av,rfl⟩,k4⟩
       ·rw[Array.toList_push]
        exact qQ4.snoc hu ((hys.mono xD).mono xE)
       ·simp;exact Nat.not_lt.mp fun gz=>lin [_,_,_] [] [(1,.nl (.a (.v 0) (.a (.v 1) (.c 1))) (.v 2)),(1,.nl (.a (.v 2) (.c 1)) (.a (.a (.v 0) (.c 1)) (.v 1)))] rfl hlen gz
      ·have:=hys.len
       simp only[Array.length_toList]at this
       rw[this,qV2]
       omega
end
noncomputable abbrev zJ1 (c:Cx) (C:Addr) (cl:List (Str×Addr)) (h:Heap) (φ:FP):Cx:={w:=c.w,b:=c.b,L:=C,cells:=cl,h₀:=h,φ₀:=φ,gens:=c.gens,os:=c.os,frs:=c.frs,fz:=c.fz}
set_option tactic.hygienic true in
theorem wP1 {c:Cx} {env:Env} (V:qQ2 c env) (f:Str×NameKind->List (Str×Addr)->Sem (ForInStep (List (Str×Addr))))
  (hf:∀ n k acc,f (n,k) acc=if k==.free then (cellOf env n>>=fun a=>pure (ForInStep.yield ((n,a)::acc))) else pure (.yield acc)) :
  ∀(names:List (Str×NameKind)) (acc:List (Str×Addr)),(∀ p∈names,p.2=.free->env.scope.names.lookup p.1=some .cell)->
  ∃ cl,forIn names acc f=pure cl/\(∀ y a,cl.lookup y=some a->acc.lookup y=some a∨((y,NameKind.free)∈names/\c.cells.lookup y=some a))/\(∀ y,((y,NameKind.free)∈names∨(acc.lookup y).isSome=true)->(cl.lookup y).isSome=true):=@fun ξ=>no_implicit_lambda%(match @ξ with
 |[]=>@fun acc J=>⟨acc,by rw[List.forIn_nil],fun y a e=>.inl e,fun y h=>by rcases h with h|h;exact nomatch h;exact h⟩
 |(n,k)::r=>@fun acc h=>by
  rw[List.forIn_cons,hf]
  by_cases hk:k=.free
  ·subst hk
   obtain ⟨a,ha,ha'⟩:=V.ce n (h (n,.free) (.head _) rfl)
   obtain ⟨cl,h1,h2,h3⟩:=wP1 V f hf r ((n,a)::acc) fun p hp=>h p (.tail _ hp)
   refine ⟨cl,?_,fun y b e=>?_,fun y hy=>h3 y ?_⟩
   ·rw[if_pos (by rfl)]
    unfold cellOf
    rw[ha']
    exact h1
   ·rcases h2 y b e with q|⟨q,q'⟩
    ·rw[List.lookup_cons]at q
     split at q
     ·rename_i hb
      cases q
      rw[eq_of_beq hb]
      exact .inr ⟨.head _,ha⟩
     ·exact .inl q
    ·exact .inr ⟨.tail _ q,q'⟩
   ·rw[List.lookup_cons]
    rcases hy with hy|hy
    ·rcases List.mem_cons.mp hy with e|hy
     ·cases e
      right;simp
     ·exact .inl hy
    ·right
     split
     ·rfl
     ·exact hy
  ·obtain ⟨cl,h1,h2,h3⟩:=wP1 V f hf r acc fun p hp=>h p (.tail _ hp)
   refine ⟨cl,?_,fun y b e=>?_,fun y hy=>h3 y ?_⟩
   ·rw[if_neg (by simpa using hk)]
    exact h1
   ·rcases h2 y b e with q|⟨q,q'⟩
    ·exact .inl q
    ·exact .inr ⟨.tail _ q,q'⟩
   ·rcases hy with hy|hy
    ·rcases List.mem_cons.mp hy with e|hy
     ·cases e;exact absurd rfl hk
     ·exact .inl hy
    ·exact .inr hy
 )
theorem zX1 {c:Cx} {env:Env} (V:qQ2 c env) {f:Str×NameKind->List (Str×Addr)->Sem (ForInStep (List (Str×Addr)))} {names:List (Str×NameKind)} (h:∀ p∈names,p.2=.free->env.scope.names.lookup p.1=some .cell)
  (hf:∀ n k acc,f (n,k) acc=if k==.free then (cellOf env n>>=fun a=>pure (ForInStep.yield ((n,a)::acc))) else pure (.yield acc)) :
  ∃ cl,(forIn names [] f>>=fun r=>pure r)=pure cl/\(∀ y a,cl.lookup y=some a->(y,NameKind.free)∈names/\c.cells.lookup y=some a)/\(∀ y,(y,NameKind.free)∈names->(cl.lookup y).isSome=true):=by
 obtain ⟨cl,h1,h2,h3⟩:=wP1 V f hf names [] h
 refine ⟨cl,?_,fun y a e=>?_,fun y hy=>h3 y (.inl hy)⟩
 ·rw[h1];rfl
 ·rcases h2 y a e with q|q
  ·simp at q
  ·exact q
theorem qA2 {c:Cx} {env:Env} (V:qQ2 c env) {scope:Scope} (h:∀ p∈scope.names,p.2=.free->env.scope.names.lookup p.1=some .cell) :
  ∃ cl,closureFor scope env=pure cl/\(∀ y a,cl.lookup y=some a->(y,NameKind.free)∈scope.names/\c.cells.lookup y=some a)/\(∀ y,(y,NameKind.free)∈scope.names->(cl.lookup y).isSome=true):=by
 unfold closureFor
 exact zX1 V h fun n k acc=>by cases hkc:k==NameKind.free<;>simp[hkc]
section
variable {c:Cx} {φ:FP} {H:AH} {lc:Loc} {s:Shared}
set_option tactic.hygienic true in
theorem Now.backC (N:Now c φ H lc s) {C:Addr} {cl:List (Str×Addr)} {φ':FP} {H':AH} {lc':Loc} {s':Shared} (N':Now (zJ1 c C cl s.heap φ) φ' H' lc' s') (hC:s.heap.get? C=none) (hL:∀ y,c.cells.lookup y≠some c.L)
  (hcl:∀ y a,cl.lookup y=some a->c.cells.lookup y=some a) (ci:∀ x y a,c.cells.lookup x=some a->c.cells.lookup y=some a->x=y)
  (hlc:∀ y av a,lk lc y=some av->cl.lookup (nm y)=some a->lk lc' y=some av):Now c φ' H' lc s':=by
 have x:Ext φ φ':=N'.ext
 have up:∀ a o,s.heap.get? a=some o->a∉φ.flatten->(∀ y,cl.lookup y≠some a)->xS5 c.frs s'.heap a o:=by
  intro a o e h h2
  have aL:a≠C:=fun q=>by rw[q,hC]at e;injection e
  exact N'.out a o e h aL h2
 have notφ:∀ a,(∃ o,s.heap.get? a=some o)->a∉φ.flatten->a∉φ'.flatten:=by
  rintro a ⟨o,e⟩ h q
  rcases N'.own a q with z|z
  ·exact h z
  ·have z':s.heap.get? a=none:=z
   rw[z']at e;injection e
 refine ⟨N'.rel,fun a o e h h2 h3=>?_,fun a h=>?_,N.ext.trans x,N'.frs,?_,notφ _ ?_ N.lout,fun y a e=>?_,N'.gens,N'.os,N'.fz,N'.fzh⟩
 ·obtain ⟨sl,e1,k1⟩:=N.out a o e h h2 h3
  obtain ⟨sl',e2,k2⟩:=up a _ e1 (fun q=>by
   rcases N.own a q with z|z
   ·exact h z
   ·rw[z]at e;injection e) fun y q=>h3 y (hcl y a q)
  exact ⟨sl',e2,fun z=>(k2 z).trans (k1 z)⟩
 ·rcases N'.own a h with z|z
  ·exact N.own a z
  ·refine .inr ?_
   cases e:c.h₀.get? a with
   |none=>rfl
   |some o=>
    obtain ⟨o',e'⟩:=N.live0 e
    have z':s.heap.get? a=none:=z
    rw[z']at e';injection e'
 ·obtain ⟨m,⟨o,es,ep,e,hd,r⟩,hl⟩:=N.loc
  obtain ⟨sl,e1,J⟩:=up c.L o e N.lout fun y q=>hL y (hcl y _ q)
  refine ⟨m,⟨_,es,ep,e1,hd,r⟩,fun y av q=>?_⟩
  have z:=hl y av q
  unfold qV3 at z ⊢
  split
  ·rename_i e'
   rw[e']at z
   obtain ⟨v,a1,a2⟩:=z
   exact ⟨v,a1,a2.mono x⟩
  ·rename_i a e'
   rw[e']at z
   obtain ⟨o',v,a1,a2,a3⟩:=z
   by_cases hin:∃ y',cl.lookup y'=some a
   ·obtain ⟨y',e2⟩:=hin
    have:=ci _ _ _ (hcl _ _ e2) e'
    subst this
    obtain ⟨m',J,hl'⟩:=N'.loc
    have w:=hl' y av (hlc y av a q e2)
    unfold qV3 at w
    have e3:(zJ1 c C cl s.heap φ).cells.lookup (nm y)=some a:=e2
    rw[e3]at w
    exact w
   ·obtain ⟨sl',e2,J⟩:=up a o' a1 (N.cout _ _ e').1 fun y q=>hin ⟨y,q⟩
    exact ⟨_,v,e2,a2,a3.mono x⟩
 ·obtain ⟨m,⟨o,J,J,e,J⟩,J⟩:=N.loc
  exact ⟨o,e⟩
 ·obtain ⟨h1,o,h2,hd⟩:=N.cout y a e
  by_cases hin:∃ y',cl.lookup y'=some a
  ·obtain ⟨y',e2⟩:=hin
   exact N'.cout y' a e2
  ·obtain ⟨sl',e2,J⟩:=up a o h2 h1 fun y q=>hin ⟨y,q⟩
   exact ⟨notφ a ⟨o,h2⟩ h1,_,e2,hd⟩
theorem wJ3 {lc:Loc}:∀{fv:List Nat} {y:Nat} {av:AV},lk (qD6 lc fv) y=some av->y∈fv/\lk lc y=some av:=@fun ξ=>no_implicit_lambda%(match @ξ with
 |[]=>@fun y av h=>nn h
 |z::r=>@fun y av h=>by
  have h':lk (match lk lc z with|some v=>(z,v)::qD6 lc r|none=>qD6 lc r) y=some av:=h
  cases e:lk lc z with
  |none=>
   rw[e]at h'
   obtain ⟨h1,h2⟩:=wJ3 h'
   exact ⟨.tail _ h1,h2⟩
  |some v=>
   rw[e]at h'
   refine qC5 h' (fun q e2=>?_) fun q h=>?_
   ·subst q;subst e2;exact ⟨.head _,e⟩
   ·obtain ⟨h1,h2⟩:=wJ3 h
    exact ⟨.tail _ h1,h2⟩
 )
theorem wV1 {lc:Loc}:∀{fv:List Nat} {y:Nat} {av:AV},y∈fv->lk lc y=some av->lk (qD6 lc fv) y=some av:=@fun ξ ξ2 ξ3 ξ4 ξ5=>match @ξ,@ξ2,@ξ3,@ξ4,@ξ5 with
 |z::r,y,av,h,e=>by
  show lk (match lk lc z with|some v=>(z,v)::qD6 lc r|none=>qD6 lc r) y=some av
  by_cases q:z=y
  ·subst q
   rw[e]
   exact yM5 _ _ _
  ·have hm:y∈r:=(List.mem_cons.mp h).elim (fun h=>absurd h.symm q) id
   cases lk lc z with
   |none=>exact wV1 hm e
   |some v=>exact (zB7 q _ _).trans (wV1 hm e)
end
structure wA7 (scope:Scope) (sc:Scope) (x:Nat) (fv:List Nat):Prop where
 kind:scope.kind=.function
 cell:∀ p∈scope.names,p.2≠.cell
 lx:qX8 scope (nm x) .local=true
 loc:∀ p∈scope.names,p.2=.local->scope.names.lookup p.1=some .local
 fre:∀ p∈scope.names,p.2=.free->scope.names.lookup p.1=some .free
 free:∀ p∈scope.names,p.2=.free->∃ y∈fv,p.1=nm y
 cells:∀ y∈fv,qX8 sc (nm y) .cell=true
 ins:∀ y∈fv,(nm y,NameKind.free)∈scope.names
theorem qN8:∀{l:List (Str×NameKind)},qP9 l=true->∀ x∈l,x.2≠.cell:=@fun ξ=>no_implicit_lambda%(match @ξ with
 |[]=>@fun J x h=>nomatch h
 |p::r=>@fun e x h=>by
  have e:(!(decide (p.2=.cell))&&qP9 r)=true:=e
  simp only[Bool.and_eq_true,Bool.not_eq_true',decide_eq_false_iff_not]at e
  rcases List.mem_cons.mp h with rfl|h
  ·exact e.1
  ·exact qN8 e.2 x h
 )
theorem qP4 {scope sc:Scope} {x:Nat} {fv:List Nat} (h:qL6 scope sc x fv=true):wA7 scope sc x fv:=by
 simp only[qL6,Bool.and_eq_true,decide_eq_true_eq,List.all_eq_true,Bool.or_eq_true,bne_iff_ne,beq_iff_eq]at h
 obtain ⟨h1,h2,h3,h4,h5,h6⟩:=h
 refine ⟨h1,qN8 h2,h3,fun p hp e=>?_,fun p hp e=>?_,fun p hp e=>?_,fun y hy=>(h6 y hy).1,fun y hy=>?_⟩
 ·rcases (h5 p hp).1 with q|q
  ·exact absurd e q
  ·exact q
 ·rcases (h5 p hp).2 with q|q
  ·exact absurd e q
  ·exact q
 ·have:p.1∈qT0 scope.names:=List.mem_map.mpr ⟨p,List.mem_filter.mpr ⟨hp,by rw[e];rfl⟩,rfl⟩
  rw[h4]at this
  obtain ⟨y,hy,e⟩:=List.mem_map.mp this
  exact ⟨y,hy,e.symm⟩
 ·have:nm y∈qT0 scope.names:=by rw[h4];exact List.mem_map_of_mem hy
  obtain ⟨p,hp,e⟩:=List.mem_map.mp this
  obtain ⟨hp1,hp2⟩:=List.mem_filter.mp hp
  have:p.2=.free:=by simpa using hp2
  rw[<-e,<-this]
  exact hp1
theorem qD7 {scope sc:Scope} {x:Str} {k:NameKind}:∀{l:List (Str×NameKind)},(l.map fun(n,k)=>if (k==NameKind.free&&sc.kind==.function&&sc.names.lookup n==some .cell) then (n,NameKind.cell) else (n,k)).lookup x=some k->
  ∃ k',l.lookup x=some k'/\(k=k'∨(k=.cell/\k'=.free)):=@fun ξ ξ2=>match @ξ,@ξ2 with
 |[],h=>by simp at h
 |(n,j)::r,h=>by
  rw[List.map_cons]at h
  cases hx:x==n with
  |true=>
   refine ⟨j,by rw[List.lookup_cons,hx],?_⟩
   by_cases hc:(j==NameKind.free&&sc.kind==.function&&sc.names.lookup n==some .cell)=true
   ·dsimp only at h
    rw[if_pos hc,List.lookup_cons,hx]at h
    obtain rfl:=Option.some.inj h
    simp only[Bool.and_eq_true,beq_iff_eq]at hc
    exact .inr ⟨rfl,hc.1.1⟩
   ·dsimp only at h
    rw[if_neg hc,List.lookup_cons,hx]at h
    obtain rfl:=Option.some.inj h
    exact .inl rfl
  |false=>
   have:((r.map fun(n,k)=>if (k==NameKind.free&&sc.kind==.function&&sc.names.lookup n==some .cell) then (n,NameKind.cell) else (n,k)).lookup x)=some k:=by
    dsimp only at h
    split at h
    ·rw[List.lookup_cons,hx]at h;exact h
    ·rw[List.lookup_cons,hx]at h;exact h
   obtain ⟨k',h1,h2⟩:=qD7 (scope:=scope) this
   exact ⟨k',by rw[List.lookup_cons,hx];exact h1,h2⟩
section
variable {c:Cx} {A:Around} {n:Nat} {env:Env}
theorem qC8 (O:Ok c A (n+1)) (V:qQ2 c env) {x:Nat} {fv:List Nat} {px pos:Pos} {iter elt:Expr} {ifs:List Expr} {scope:Scope} {it:Addr} {nxt:Nat->AH->Option (Option AV)} {P:Nat->Obj->Prop} {T:Loc->AH->(Bool->AH->Prop)->Prop} {G:Loc->AH->(AV->AH->Prop)->Prop} {cl:List (Str×Addr)}
  {φ:FP} (hc:wA7 scope env.scope x fv) (c1:∀ y a,cl.lookup y=some a->(y,NameKind.free)∈scope.names/\c.cells.lookup y=some a) (c2:∀ y,(y,NameKind.free)∈scope.names->(cl.lookup y).isSome=true) (IO:qM9 c.w c.fz φ it nxt P)
  (ht:∀(c':Cx) env' φ H lc s K,c'.w=c.w->Ok c' A (n+1)->qQ2 c' env'->env'.scope=rlb scope env.scope->Now c' φ H lc s->T lc H K->wpAny (MM c') A (qV4 ifs env') (qA7 c' φ lc K) NoE s)
  (hg:∀(c':Cx) env' φ H lc s K,c'.w=c.w->Ok c' A (n+1)->qQ2 c' env'->env'.scope=rlb scope env.scope->Now c' φ H lc s->G lc H K->wpAny (MM c') A (eval elt env') (qX1 c' φ lc K) NoE s)
  {HA H:AH} {lc:Loc} {sA s:Shared} {oi:Obj} {m:Nat} {K:List AV->AH->Prop} (NA:Now c φ HA lc sA) (N:Now c φ H lc s) (keep:∀ b o,sA.heap.get? b=some o->s.heap.get? b=some o) (hi0:sA.heap.get? it=none) (hit:s.heap.get? it=some oi) (hP:P 0 oi) (hm:m<=1000)
  (hl:qZ7 nxt T G x (qD6 lc fv) m 0 [] H K) {RR:Value->Addr->Result->Shared->Prop}
  (q:∀ φ' H' s' accs ys D C mm,Ext φ φ'->Now c φ' H' lc s'->qV5 c φ' D->qV5 c φ' C->D≠C->s'.heap.PlainList D ys->qQ4 φ' accs ys.toList->accs.length<=m->K accs H'->s'.heap.Ns C mm->RR (.ref D) C (.ok .next) s') :
  wpAny (MM c) A (newList []) (fun acc sD=>wpAny (MM c) A (newFunctionEnv scope env.globals cl [] env.qual none .none (some env)) (fun cenv sE=>
   codeAny (MM c) A (.compStart (.ListComp elt [⟨.Name (nm x) px,iter,ifs,0⟩] scope pos) 0 (.ref it) acc {cenv with scope:=relabel scope env}) (RR acc cenv.locals) sE) NoE sD) NoE s:=by
 refine wpAny_newObj_type (wpAny_newFunctionEnv hc.cell (by intro y hy;simp at hy) (fun h₂ hns hsb=>?_) hc.kind)
 dsimp only at hns hsb ⊢
 have eH:(s.heap.push {cls:=.type "list", dict:=none,data:=.seq ([]:List Value).toArray}).objs.size=s.heap.objs.size+1:=Heap.size_push ..
 generalize hH1:s.heap.push {cls:=.type "list", dict:=none,data:=.seq ([]:List Value).toArray}=H1 at hns hsb eH ⊢
 have keep1:∀ b o,s.heap.get? b=some o->H1.get? b=some o:=fun b o e=>hH1▸Heap.get?_push_of_some _ e
 have keep2:∀ b o,H1.get? b=some o->h₂.get? b=some o:=fun b o e=>hsb.extBut b o (Nat.ne_of_lt (Heap.lt_size e)) (Heap.get?_push_of_some _ e)
 have hD:h₂.get? s.heap.objs.size=some {cls:=.type "list", dict:=none,data:=.seq ([]:List Value).toArray}:=keep2 _ _ (hH1▸Heap.get?_push_size _ rfl)
 generalize hDD:s.heap.objs.size=D at hD eH ⊢
 generalize hCC:H1.objs.size=C at hns hsb eH ⊢
 have hDs:s.heap.get? D=none:=hDD▸qQ7
 have hCs:s.heap.get? C=none:=by
  cases e:s.heap.get? C with
  |none=>rfl
  |some o=>exact absurd (Heap.lt_size e) (by rw[hDD,eH];exact Nat.not_lt.mpr (Nat.le_succ _))
 have DC:D≠C:=by rw[eH];exact Nat.ne_of_lt (Nat.lt_succ_self _)
 have hD0:sA.heap.get? D=none:=by
  cases e:sA.heap.get? D with
  |none=>rfl
  |some o=>rw[keep D o e]at hDs;injection hDs
 have hC0:sA.heap.get? C=none:=by
  cases e:sA.heap.get? C with
  |none=>rfl
  |some o=>rw[keep C o e]at hCs;injection hCs
 have UD0:=NA.untr hD0
 have UC0:=NA.untr hC0
 have UI0:=NA.untr hi0
 have kp:∀ b o,s.heap.get? b=some o->h₂.get? b=some o:=fun b o e=>keep2 b o (keep1 b o e)
 have itC:it≠C:=fun z=>by rw[z,hCs]at hit;injection hit
 have itD:D≠it:=fun z=>by rw[<-z,hDs]at hit;injection hit
 generalize hs4:({s with heap:=h₂,toks:=s.toks+([]:List (Str×Value)).length}:Shared)=sE
 have e4:sE.heap=h₂:=by rw[<-hs4]
 have N':Now c φ H lc sE:=N.keep (by rw[e4];exact kp) (by rw[<-hs4]) (by rw[<-hs4])
 have sub:∀ y a,cl.lookup y=some a->c.cells.lookup y=some a:=fun y a e=>(c1 y a e).2
 have N2:Now (zJ1 c C cl sA.heap φ) φ H (qD6 lc fv) sE:=by
  refine ⟨N'.rel,fun a o e J J J=>⟨o.slots,by rw[e4];exact kp _ _ (keep a o e),fun J=>rfl⟩,fun a h=>.inl h,Ext.refl φ,N'.frs,⟨_,by rw[e4];exact hns,fun y av e=>?_⟩,UC0.fl,fun y a e=>N'.cout y a (sub y a e),N'.gens,N'.os,N'.fz,N'.fzh⟩
  obtain ⟨h1,h2⟩:=wJ3 e
  obtain ⟨a,ha⟩:=Option.isSome_iff_exists.mp (c2 _ (hc.ins y h1))
  obtain ⟨m',J,hl'⟩:=N'.loc
  have w:=hl' y av h2
  unfold qV3 at w ⊢
  rw[sub _ _ ha]at w
  have e3:(zJ1 c C cl sA.heap φ).cells.lookup (nm y)=some a:=ha
  rw[e3]
  exact w
 have O2:Ok (zJ1 c C cl sA.heap φ) A (n+1):=by
  refine ⟨O.base,UC0.b,fun y e=>UC0.ce y (sub _ _ e),fun y a e=>O.ch y a (sub _ _ e),fun x' y a e1 e2=>O.ci x' y a (sub _ _ e1) (sub _ _ e2),O.frames,O.room⟩
 have V2:qQ2 (zJ1 c C cl sA.heap φ) (compEnvC scope cl C env):=by
  refine ⟨hc.kind,rfl,V.glo,V.bui,fun y e=>?_,fun y e=>?_⟩
  ·obtain ⟨k',h1,h2⟩:=qD7 (scope:=scope) e
   have h3:k'=.local:=by rcases h2 with h2|⟨h2,J⟩<;>first|exact h2.symm|injection h2
   subst h3
   show cl.lookup y=none
   cases e2:cl.lookup y with
   |none=>rfl
   |some a=>
    have:=hc.fre _ (c1 y a e2).1 rfl
    rw[h1]at this;cases this
  ·obtain ⟨k',h1,h2⟩:=qD7 (scope:=scope) e
   have hmem:=PySem.mem_of_lookup h1
   have h3:k'=.free:=by
    rcases h2 with h2|⟨J,h2⟩
    ·exact absurd h2.symm (hc.cell _ hmem)
    ·exact h2
   subst h3
   obtain ⟨a,ha⟩:=Option.isSome_iff_exists.mp (c2 y hmem)
   exact ⟨a,ha,ha⟩
 have hk2:qX8 (compEnvC scope cl C env).scope (nm x) .local=true:=by
  unfold qX8
  have:=lookup_relabel_local (env:=env) (qZ3 hc.lx)
  show (match (relabel scope env).names.lookup (nm x) with|some j=>decide (j=.local)|none=>false)=true
  rw[show (relabel scope env).names.lookup (nm x)=some .local from this]
  rfl
 have loop:codeAny (MM c) A (.compLoop (.ListComp elt [⟨.Name (nm x) px,iter,ifs,0⟩] scope pos) 0 (.ref it) (.ref D) (compEnvC scope cl C env)) (RR (.ref D) C) sE:=by
  refine wO4 (c:=zJ1 c C cl sA.heap φ) O2 V2 hk2 (φ₁:=φ) (T:=T) (G:=G) IO (fun c' φ H lc s K hw O' V' N k=>ht c' _ φ H lc s K hw O' V' rfl N k) (fun c' φ H lc s K hw O' V' N k=>hg c' _ φ H lc s K hw O' V' rfl N k) N2
   ⟨UI0.fl,UI0.b,hi0,itC,fun y e=>UI0.ce y (sub _ _ e),UI0.fr⟩ (by rw[e4];exact kp _ _ hit) hP ⟨UD0.fl,UD0.b,hD0,DC,fun y e=>UD0.ce y (sub _ _ e),UD0.fr⟩ ⟨0,by rw[e4];exact hD⟩ itD hm hl ?_
  intro φ' H' lc' s' accs ys x' N3 UD' hpl hv hlen hlc hk
  have N4:Now c φ' H' lc s':=NA.backC (C:=C) (cl:=cl) N3 hC0 O.lc sub O.ci (fun y av a e1 e2=>by
   obtain ⟨hmem,J⟩:=c1 _ _ e2
   obtain ⟨y',hy',e⟩:=hc.free _ hmem rfl
   have:=qK6 e
   subst this
   refine hlc y av (fun z=>?_) (wV1 hy' e1)
   subst z
   have h1:=hc.fre _ hmem rfl
   rw[qZ3 hc.lx]at h1;cases h1)
  obtain ⟨mm,hmm,J⟩:=N3.loc
  exact q φ' H' s' accs ys D C mm x' N4 ⟨UD'.fl,UD0.b,UD0.h,UD0.L,UD0.ce,UD0.fr⟩ ⟨N3.lout,UC0.b,UC0.h,UC0.L,UC0.ce,UC0.fr⟩ DC hpl hv hlen hk hmm
 exact codeAny_compStart_list loop (IO.self A sE 0 oi _ _ (by rw[e4];exact kp _ _ hit) hP loop)
end
noncomputable abbrev wC0 (c:Cx) (A:Around) (env:Env) (x:Nat) (px pos:Pos) (iter elt:Expr) (ifs:List Expr) (scope:Scope) (cl:List (Str×Addr)) (RR:Value->Addr->Result->Shared->Prop) (it:Value) (s:Shared):Prop:=
 wpAny (MM c) A (newList []) (fun acc sD=>wpAny (MM c) A (newFunctionEnv scope env.globals cl [] env.qual none .none (some env)) (fun cenv sE=>
   codeAny (MM c) A (.compStart (.ListComp elt [⟨.Name (nm x) px,iter,ifs,0⟩] scope pos) 0 it acc {cenv with scope:=relabel scope env}) (RR acc cenv.locals) sE) NoE sD) NoE s
theorem xX2 {φ:FP} {C D:Addr} (h:C∉φ.flatten) (hn:C≠D):C∉(φ++[[D]]).flatten:=by
 rw[List.flatten_append]
 intro z
 rcases List.mem_append.mp z with z|z
 ·exact h z
 ·simp at z;exact hn z
section
variable {c:Cx} {A:Around} {n:Nat} {env:Env}
theorem wA3 {P:Params} {h:Heap} {φ:FP} {D:Addr} {ys:Array Value} {avs:List AV} (hp:h.PlainList D ys) (hv:qQ4 φ avs ys.toList) (hl:avs.length<=1000):Cov P h φ (mkL avs) [D]:=by
 obtain ⟨n,e⟩:=hp
 exact wK4 e hv (by exact Nat.not_lt.mp fun gz=>lin [_] [] [(1,.nl (.v 0) (.c 1000)),(1,.nl (.a (.c 10000) (.c 1)) (.v 0))] rfl hl gz)
theorem qN7 (O:Ok c A (n+1)) (V:qQ2 c env) {x:Nat} {fv:List Nat} {px pos:Pos} {iter elt:Expr} {ifs:List Expr} {scope:Scope} {T:Loc->AH->(Bool->AH->Prop)->Prop} {G:Loc->AH->(AV->AH->Prop)->Prop} {cl:List (Str×Addr)}
  (hc:wA7 scope env.scope x fv) (c1:∀ y a,cl.lookup y=some a->(y,NameKind.free)∈scope.names/\c.cells.lookup y=some a) (c2:∀ y,(y,NameKind.free)∈scope.names->(cl.lookup y).isSome=true)
  (ht:∀(c':Cx) env' φ H lc s K,c'.w=c.w->Ok c' A (n+1)->qQ2 c' env'->env'.scope=rlb scope env.scope->Now c' φ H lc s->T lc H K->wpAny (MM c') A (qV4 ifs env') (qA7 c' φ lc K) NoE s)
  (hg:∀(c':Cx) env' φ H lc s K,c'.w=c.w->Ok c' A (n+1)->qQ2 c' env'->env'.scope=rlb scope env.scope->Now c' φ H lc s->G lc H K->wpAny (MM c') A (eval elt env') (qX1 c' φ lc K) NoE s)
  {φ:FP} {H:AH} {lc:Loc} {s:Shared} {K:AV->AH->Prop} (N:Now c φ H lc s) {r:Addr} {i:Int} {t u v:Tok} (hr:IsRange s.heap r 0 i 1 t u v) (h0:0<=i) (h1:i<=1000)
  (hl:qZ7 (wX5 i) T G x (qD6 lc fv) 64 0 [] H fun vs H=>K (.obj H.length) (H++[mkL vs])) {RR:Value->Addr->Result->Shared->Prop}
  (q:∀ φ' H' s' D C mm j,Ext φ φ'->Now c φ' H' lc s'->qV5 c φ' C->s'.heap.Ns C mm->qQ1 φ' (.obj j) (.ref D)->K (.obj j) H'->RR (.ref D) C (.ok .next) s') :
  wpAny (MM c) A (pyIter (.ref r)) (fun it sC=>wC0 c A env x px pos iter elt ifs scope cl RR it sC) NoE s:=by
 have hsz:Builtin.Range.rangeSize 0 i 1=if 0<i then i else 0:=by rw[rangeSize_one];simp
 refine wpAny_pyIter_range hr (small_one (by omega) (by omega) (by omega) (by omega)) ?_
 rw[hsz]
 have N2:=N.push {cls:=.type "range_iterator", data:=.fields #[rawInt 0,rawInt (if 0<i then i else 0),rawInt 1]}
 have e:(if 0<i then i else 0)=i:=by split<;>omega
 rw[e]at N2 ⊢
 refine qC8 O V hc c1 c2 (wH5 c.w c.fz) ht hg N N2 (fun b o e=>Heap.get?_push_of_some _ e) qQ7 (Heap.get?_push_size _ rfl) (by unfold pR;simp) (by decide) hl ?_
 intro φ' H' s' accs ys D C mm x' N' UD UC DC hpl hv hlen hk hmm
 have cov:Cov c.w.params s'.heap (φ'++[[D]]) (mkL accs) [D]:=wA3 hpl (hv.mono (Ext.app _ _)) (by exact Nat.not_lt.mp fun gz=>lin [_] [] [(1,.nl (.v 0) (.c 64)),(1,.nl (.a (.c 1000) (.c 1)) (.v 0))] rfl hlen gz)
 have hpl':=hpl
 obtain ⟨nn,eD⟩:=hpl'
 have N5:=N'.adopt UD eD (mkL accs) cov
 exact q _ _ s' D C mm _ (x'.trans (Ext.app _ _)) N5 ⟨xX2 UC.fl fun z=>DC z.symm,UC.b,UC.h,UC.L,UC.ce,UC.fr⟩ hmm (qV6 N'.rel _ _) hk
set_option tactic.hygienic true in
theorem wE0 (O:Ok c A (n+1)) (V:qQ2 c env) {x:Nat} {fv:List Nat} {px pos:Pos} {iter elt:Expr} {ifs:List Expr} {scope:Scope} {T:Loc->AH->(Bool->AH->Prop)->Prop} {G:Loc->AH->(AV->AH->Prop)->Prop} {cl:List (Str×Addr)}
  (hc:wA7 scope env.scope x fv) (c1:∀ y a,cl.lookup y=some a->(y,NameKind.free)∈scope.names/\c.cells.lookup y=some a) (c2:∀ y,(y,NameKind.free)∈scope.names->(cl.lookup y).isSome=true)
  (ht:∀(c':Cx) env' φ H lc s K,c'.w=c.w->Ok c' A (n+1)->qQ2 c' env'->env'.scope=rlb scope env.scope->Now c' φ H lc s->T lc H K->wpAny (MM c') A (qV4 ifs env') (qA7 c' φ lc K) NoE s)
  (hg:∀(c':Cx) env' φ H lc s K,c'.w=c.w->Ok c' A (n+1)->qQ2 c' env'->env'.scope=rlb scope env.scope->Now c' φ H lc s->G lc H K->wpAny (MM c') A (eval elt env') (qX1 c' φ lc K) NoE s)
  {φ:FP} {H:AH} {lc:Loc} {s:Shared} {K:AV->AH->Prop} (N:Now c φ H lc s) {k:Nat} {u:Value} (hu:qQ1 φ (.obj k) u)
  (hl:match qQ0 H k with
   |.sd es=>qZ7 (wZ6 es) T G x (qD6 lc fv) 64 0 [] (qX7 H k (.fd es)) fun vs H=>match qQ0 H k with
    |.fd J=>K (.obj H.length) (qX7 H k (.sd es)++[mkL vs])
    |_=>False
   |.il J=>qZ7 (qR4 k) T G x (qD6 lc fv) 64 0 [] H fun vs H=>K (.obj H.length) (H++[mkL vs])
   |.tp J=>qZ7 (wK3 k) T G x (qD6 lc fv) 64 0 [] H fun vs H=>K (.obj H.length) (H++[mkL vs])
   |_=>False) {RR:Value->Addr->Result->Shared->Prop}
  (q:∀ φ' H' s' D C mm j,Ext φ φ'->Now c φ' H' lc s'->qV5 c φ' C->s'.heap.Ns C mm->qQ1 φ' (.obj j) (.ref D)->K (.obj j) H'->RR (.ref D) C (.ok .next) s') :
  wpAny (MM c) A (pyIter u) (fun it sC=>wC0 c A env x px pos iter elt ifs scope cl RR it sC) NoE s:=by
 have fin:∀ φ' H' s' accs ys D C mm,Ext φ φ'->Now c φ' H' lc s'->qV5 c φ' D->qV5 c φ' C->D≠C->s'.heap.PlainList D ys->qQ4 φ' accs ys.toList->accs.length<=64->K (.obj H'.length) (H'++[mkL accs])->s'.heap.Ns C mm->RR (.ref D) C (.ok .next) s':=by
  intro φ' H' s' accs ys D C mm x' N' UD UC DC hpl hv hlen hk hmm
  have cov:Cov c.w.params s'.heap (φ'++[[D]]) (mkL accs) [D]:=wA3 hpl (hv.mono (Ext.app _ _)) (by exact Nat.not_lt.mp fun gz=>lin [_] [] [(1,.nl (.v 0) (.c 64)),(1,.nl (.a (.c 1000) (.c 1)) (.v 0))] rfl hlen gz)
  have hpl':=hpl
  obtain ⟨nn,eD⟩:=hpl'
  have N5:=N'.adopt UD eD (mkL accs) cov
  exact q _ _ s' D C mm _ (x'.trans (Ext.app _ _)) N5 ⟨xX2 UC.fl fun z=>DC z.symm,UC.b,UC.h,UC.L,UC.ce,UC.fr⟩ hmm (qV6 N'.rel _ _) hk
 split at hl<;>first|exact hl.elim|skip
 ·rename_i es he
  obtain ⟨d,kv,rfl,hf,hd,hkr,hnd,hlen⟩:=qI1 N he hu
  obtain ⟨ep,hda⟩:=hd.dictAt
  obtain ⟨o,ho,hback⟩:=wY6 hda
  have lo:=qM1 O N hf
  refine wpAny_pyIter_dict (knd:=SK c.w) lo hda ?_
  have N2:=N.push {cls:=.type "dict_keyiterator", data:=.fields #[.ref d,.int 0 0,.int kv.length 0,.int ep 0]}
  have N0f:=N.freeze he hf ho
  have N3:=N2.freeze he hf (Heap.get?_push_of_some _ ho)
  refine qC8 (c:={c with fz:=(d,o)::c.fz}) (O.fz _) (V.fz _) hc c1 c2 (wR4 c.w (.head _) hback hkr) ht hg N0f N3 (fun b o e=>Heap.get?_push_of_some _ e) qQ7 (Heap.get?_push_size _ rfl) ⟨rfl,rfl⟩ (by decide) hl ?_
  intro φ' H' s' accs ys D C mm x' N' UD UC DC hpl hv hln hk hmm
  split at hk<;>first|exact hk.elim|skip
  rename_i es' e'
  have hdo:s'.heap.get? d=some o:=N'.fz (d,o) (.head _)
  have N4:=N.thaw he hf x' N' e' (hback s'.heap hdo).dictOf hkr hnd hlen
  refine fin φ' _ s' accs ys D C mm x' N4 ⟨UD.fl,UD.b,UD.h,UD.L,UD.ce,UD.fr⟩ ⟨UC.fl,UC.b,UC.h,UC.L,UC.ce,UC.fr⟩ DC hpl hv hln ?_ hmm
  rw[qX2,List.length_set,<-qX2]
  exact hk
 ·rename_i xs e
  obtain ⟨ax,its,mm,rfl,hf,h1,h2,J⟩:=qV7 N e hu
  refine wpAny_pyIter_list ⟨_,h1,rfl,mm,rfl⟩ ?_
  have N2:=N.push {cls:=.type "list_iterator", data:=.fields #[.ref ax,.int 0 0]}
  exact qC8 O V hc c1 c2 (wT3 c.w c.fz hu) ht hg N N2 (fun b o e=>Heap.get?_push_of_some _ e) qQ7 (Heap.get?_push_size _ rfl) ⟨rfl,rfl⟩ (by decide) hl fin
 ·rename_i xs e
  obtain ⟨ax,its,mm,rfl,h1,h2⟩:∃ ax its mm,u=.ref ax/\s.heap.get? ax=some (yY7 its mm)/\qQ4 φ xs its.toList:=by
   obtain ⟨f,hf,ax,its,mm,rfl,h1,h2⟩:=N.at e (qQ6 rfl)
   obtain ⟨a,l,h4,rfl⟩:=hu
   rw[hf]at h4
   cases h4
   exact ⟨_,its,mm,rfl,h1,h2⟩
  refine wpAny_pyIter_tuple ⟨_,h1,rfl,mm,rfl⟩ ?_
  have N2:=N.push {cls:=.type "tuple_iterator", data:=.fields #[.ref ax,.int 0 0]}
  exact qC8 O V hc c1 c2 (xE4 c.w c.fz hu) ht hg N N2 (fun b o e=>Heap.get?_push_of_some _ e) qQ7 (Heap.get?_push_size _ rfl) ⟨rfl,rfl⟩ (by decide) hl fin
end
theorem yV5 (P:Params):((List.range 8).all fun c=>(mtL c).all fun p=>keepIn (KP P) (.ref p.2))=true:=by kernel_rfl!
theorem qI6 {c a:Nat} {f:Addr} (P:Params) (h:mt c a=some f):keepIn (KP P) (.ref f)=true:=by
 exact List.all_eq_true.mp (List.all_eq_true.mp (yV5 P) c (List.mem_range.mpr (zG3 h))) (a,f) (qX4 h)
section
variable {c:Cx} {A:Around} {n:Nat} {lc:Loc} {env:Env} {sp:Sp}
theorem qQ9 {φ:FP} {K:AV->AH->Prop} {m:Sem Value} {s:Shared} {Q:Value->Shared->Prop} (h:wpAny (MM c) A m (qX1 c φ lc K) NoE s)
  (q:∀ v s' φ' H' av,Ext φ φ'->Now c φ' H' lc s'->qQ1 φ' av v->K av H'->Q v s'):wpAny (MM c) A m Q NoE s:=
 wpAny_mono h (fun v s' ⟨φ',H',av,x,N,hv,k⟩=>q v s' φ' H' av x N hv k) fun J J e=>e
theorem wW6 {φ φ':FP} (x:Ext φ φ') {K:AV->AH->Prop} {m:Sem Value} {s:Shared} (h:wpAny (MM c) A m (qX1 c φ' lc K) NoE s):wpAny (MM c) A m (qX1 c φ lc K) NoE s:=
 wpAny_mono h (fun J J g=>g.up x) fun J J e=>e
theorem qK7 {sc:Scope}:∀{xs:Xs} {es:List Expr},mXs sc xs es=true->∀ e∈es,qZ5 e=true:=@fun ξ=>no_implicit_lambda%(match @ξ with
 |.nil=>@fun es h e he=>by rw[qI9 h]at he;cases he
 |.cons x xs=>@fun es h e he=>by
  obtain ⟨e',r,rfl,h1,h2,h3⟩:=qK1 h
  rcases List.mem_cons.mp he with rfl|he
  ·exact h1
  ·exact qK7 h3 e he
 )
theorem qB6 (O:Ok c A (n+1)) {φ:FP} {f:Value} {first:List Value} {es:List Expr} {xs:Xs} {pos:Pos} {s:Shared} {K:List AV->AH->Prop} {Q:Value->Shared->Prop} (hx:mXs env.scope xs es=true)
  (hk:keepIn (KP c.w.params) f=true) (h:wpAny (MM c) A (spliced (backTo pos (starEach es env))) (wO1 c φ lc es.length K) NoE s)
  (q:∀ φ' H' avs vs s',Ext φ φ'->Now c φ' H' lc s'->qQ4 φ' avs vs->K avs H'->wpAny (MM c) A (call f (first++vs)) Q NoE s') :
  wpAny (MM c) A (callWith pos f first (backTo pos (starEach es env)) []) Q NoE s:=by
 refine callWith_of (P:=(KP c.w.params).In) (by rw[qZ8 hx];rfl) (keeps_K hk) (qI0 (qK7 hx) (wpAny_mono h (fun vs s' g=>?_) fun J J e=>e))
 obtain ⟨φ',H',avs,x,N,hv,J,k⟩:=g
 exact ⟨O.here N,q φ' H' avs vs s' x N hv k⟩
theorem xZ0 {φ:FP} {id:String} {first:List Value} {es:List Expr} {xs:Xs} {pos:Pos} {s:Shared} {K:List AV->AH->Prop} {Q:Value->Shared->Prop} (hx:mXs env.scope xs es=true)
  (h:wpAny (MM c) A (spliced (backTo pos (starEach es env))) (wO1 c φ lc es.length K) NoE s)
  (q:∀ φ' H' avs vs s',Ext φ φ'->Now c φ' H' lc s'->qQ4 φ' avs vs->K avs H'->wpAny (MM c) A (call (.builtin id) (first++vs)) Q NoE s') :
  wpAny (MM c) A (callWith pos (.builtin id) first (backTo pos (starEach es env)) []) Q NoE s:=by
 refine callWith_builtin (qZ8 hx) (qI0 (qK7 hx) (wpAny_mono h (fun vs s' g=>?_) fun J J e=>e))
 obtain ⟨φ',H',avs,x,N,hv,J,k⟩:=g
 exact q φ' H' avs vs s' x N hv k
theorem wO9 {φ:FP} {T:String} {first:List Value} {es:List Expr} {xs:Xs} {pos:Pos} {s:Shared} {K:List AV->AH->Prop} {Q:Value->Shared->Prop} (hx:mXs env.scope xs es=true)
  (h:wpAny (MM c) A (spliced (backTo pos (starEach es env))) (wO1 c φ lc es.length K) NoE s)
  (q:∀ φ' H' avs vs s',Ext φ φ'->Now c φ' H' lc s'->qQ4 φ' avs vs->K avs H'->wpAny (MM c) A (call (.type T) (first++vs)) Q NoE s') :
  wpAny (MM c) A (callWith pos (.type T) first (backTo pos (starEach es env)) []) Q NoE s:=by
 refine PyProof.Rows.callWith_type (qZ8 hx) (qI0 (qK7 hx) (wpAny_mono h (fun vs s' g=>?_) fun J J e=>e))
 obtain ⟨φ',H',avs,x,N,hv,J,k⟩:=g
 exact q φ' H' avs vs s' x N hv k
theorem xX5 {kvs:List (Str×Value)} (nd:(kvs.map (·.1)).Nodup):merged [] kvs=kvs:=by
 have key:∀(l acc:List (Str×Value)),((acc++l).map (·.1)).Nodup->merged acc l=acc++l:=by
  intro l
  induction l with
  |nil=>intro acc J;simp[merged]
  |cons p r ih=>
   intro acc nd
   have hs:stored acc p.1 p.2=acc++[p]:=by
    unfold stored
    have:acc.any (fun kv=>decide (kv.1=p.1))=false:=by
     rw[List.any_eq_false]
     intro q hq
     simp only[decide_eq_true_eq]
     intro e
     rw[List.map_append,List.map_cons]at nd
     exact (List.nodup_append.mp nd).2.2 q.1 (List.mem_map_of_mem hq) p.1 (.head _) e
    rw[this]
    simp
   show merged (stored acc p.1 p.2) r=_
   rw[hs,ih (acc++[p]) (by simpa using nd)]
   simp
 simpa using key kvs [] (by simpa using nd)
theorem wD6:∀{r:List (List Nat)} {x:List Nat},wH8 r x=true->x∉r:=@fun ξ=>no_implicit_lambda%(match @ξ with
 |[]=>@fun J J2=>by simp
 |y::r=>@fun x h=>by
  have h':(match eqL y x with|true=>false|false=>wH8 r x)=true:=h
  cases e:eqL y x<;>rw[e]at h'
  rotate_left
  ·exact nf h'
  ·intro q
   rcases List.mem_cons.mp q with rfl|q
   ·rw[qJ7.mpr rfl]at e;exact nt e
   ·exact wD6 h' q
 )
theorem qI4:∀{ks:List (List Nat)},qN3 ks=true->ks.Nodup:=@fun ξ ξ2=>match @ξ,@ξ2 with
 |[],J=>.nil
 |x::r,h=>by
  have h':(match wH8 r x with|true=>qN3 r|false=>false)=true:=h
  cases e:wH8 r x<;>rw[e]at h'
  ·exact nf h'
  ·exact List.nodup_cons.mpr ⟨wD6 e,qI4 h'⟩
theorem xG7 {v:Option (Option Value)} {i:Int} (h:xT1 v i=true):∃ t,v=some (some (.int i t)):=by
 delta xT1 at h
 cases v with
 |none=>exact nf h
 |some v=>cases v with
  |none=>exact nf h
  |some v=>cases v<;>first|exact nf h|exact ⟨_,by rw[of_decide_eq_true h]⟩
theorem wD7 {ks:List (List Nat)} {vs:List AV} (h:vs.length=ks.length):(ks.zip vs).map (·.1)=ks:=by
 rw[show (fun(x:List Nat×AV)=>x.1)=Prod.fst from rfl,List.map_fst_zip (by exact Nat.not_lt.mp fun gz=>lin [_,_] [] [(1,.nl (.v 0) (.v 1)),(1,.nl (.a (.v 1) (.c 1)) (.v 0))] rfl (Nat.le_of_eq h.symm) gz)]
noncomputable def qS9 (env:Env) (pos:Pos):List (Option Expr)->List Expr->List (Sem Value×Sem Value)
 |some k::ks,v::vs=>(eval k env,do let x <-eval v env;standAt pos;pure x)::qS9 env pos ks vs
 |J,J2=>[]
theorem wB1 {sc:Scope} (env:Env) (pos:Pos):∀{ks:List (List Nat)} {keys:List (Option Expr)} {vals:List Expr},mKs ks keys=true->keys.length=vals.length->
  ((evalEachOpt keys env).zip ((evalEach vals env).map fun v=>do let x <-v;standAt pos;pure x)=(qS9 env pos keys vals).map fun p=>(some p.1,p.2))/\(qS9 env pos keys vals).length=ks.length:=@fun ξ ξ2 ξ3=>no_implicit_lambda%(match @ξ,@ξ2,@ξ3 with
 |[],[],[]=>@fun J J2=>⟨rfl,rfl⟩
 |[],[],J::J2=>@fun J3 h=>by injection h
 |[],J::J2,J3=>@fun h J4=>by exact nf h
 |k::ks,[],J=>@fun h J2=>by exact nf h
 |k::ks,none::keys,J=>@fun h J2=>by exact nf h
 |k::ks,some e::keys,[]=>@fun J h=>by injection h
 |k::ks,some e::keys,v::vals=>@fun h hl=>by
  have hk:mKs ks keys=true:=by
   obtain ⟨J,J,J,e1,h2⟩:=xX3 h
   cases e1
   exact h2
  obtain ⟨h1,h2⟩:=wB1 (sc:=sc) env pos hk (by simpa using hl)
  exact ⟨congrArg (List.cons (some (eval e env),eval v env>>=fun x=>standAt pos>>=fun J=>pure x)) h1,congrArg (·+1) h2⟩
 )
theorem xA2 (e:Expr) (env:Env):qV4 [e] env=allTrue .And [e] env:=by
 have h1:allTrue .And [e] env=(isTrue e env (eval e env)>>=fun b=>pure b):=by
  show (isTrue e env (eval e env)>>=fun b=>match BoolOp.And,b with|.And,false=>pure false|.Or,true=>pure true|J,J2=>pure (BoolOp.And==BoolOp.And))=_
  congr 1
  funext b
  cases b<;>rfl
 rw[h1]
 simp[qV4]
theorem wC3 {cs:List Expr} {φ:FP} {K:Bool->AH->Prop} {s:Shared} (hl:cs.length<=1) (h:wpAny (MM c) A (allTrue .And cs env) (qA7 c φ lc K) NoE s):wpAny (MM c) A (qV4 cs env) (qA7 c φ lc K) NoE s:=by
 cases cs with
 |nil=>exact h
 |cons e r=>
  cases r with
  |cons J J2=>simp at hl
  |nil=>rw[xA2];exact h
inductive zJ0 (c:Cx) (φ:FP) (lc:Loc) (KI:Int->AH->Prop) (u:Value) (s:Shared):Prop
 |mk (φ':FP) (H':AH) (i:Int) (r:Addr) (t:Tok) (u' v:Tok) (x:Ext φ φ') (N:Now c φ' H' lc s) (e:u=.ref r) (g:IsRange s.heap r 0 i 1 t u' v) (k:KI i H')
theorem qH2 {it:Expr} {env:Env} (h:xY9 it=true) (x:Value):foldedSetIterable it env x=pure x:=by cases it<;>first|rfl|exact nf h
theorem qA1 (O:Ok c A (n+1)) (V:qQ2 c env) {rp p:Pos} {e:X} {m:Expr} {φ:FP} {H:AH} {KI:Int->AH->Prop} {s:Shared} (hr:qX8 env.scope (Str.ofString "range") .globalImplicit=true) (hns:qZ5 m=true) (hx:mX env.scope e m=true)
  (N:Now c φ H lc s) (h:wpAny (MM c) A (eval m env) (qX1 c φ lc fun v H=>∃ i,v=.int i/\KI i H) NoE s) :
  wpAny (MM c) A (eval (.Call (.Name (Str.ofString "range") rp) [m] [] p) env) (zJ0 c φ lc KI) NoE s:=by
 obtain ⟨mg,hg,gb⟩:=O.mg N
 obtain ⟨mb,hmb,hbb⟩:=O.mb N
 refine Call_ (Name_function_global V.kind (qZ3 hr) (loadGlobal_builtin (mg:=mg) (mb:=mb) (by rw[V.glo];exact hg) (mg_none_of O.kp gb (beq_iff_eq.mp (wI9 c.w.params))) (by rw[V.bui];exact hmb) (by rw[hbb _ wP9];exact wL4) ?_) wU1)
 have hxs:mXs env.scope (.cons e .nil) [m]=true:=by show (qZ5 m&&(mX env.scope e m&&true))=true;rw[hns,hx];rfl
 refine wO9 (φ:=φ) (lc:=lc) (first:=[]) (K:=fun avs H=>∃ i,avs=[.int i]/\KI i H) hxs ?_ fun φ' H' avs vs s' x' N' hv k=>?_
 ·refine qN5 hns (qQ9 h fun v s' φ' H' av x' N' hv k=>?_)
  obtain ⟨i,rfl,k⟩:=k
  exact wpAny_items_nil ⟨φ',H',[.int i],x',N',⟨v,[],rfl,hv,rfl⟩,rfl,i,rfl,k⟩
 ·obtain ⟨i,rfl,k⟩:=k
  obtain ⟨v,rfl,t,rfl⟩:=vs1 hv
  exact call_range_1 ⟨φ',H',_,_,_,_,_,x',(N'.push _).tok rfl rfl rfl,rfl,IsRange.new _ _ _ _ _ _ _,k⟩
mutual
theorem qW6 (S:qY4 n sp):∀(x:X) {c:Cx} {env:Env} {lc:Loc} (O:Ok c A (n+1)) (V:qQ2 c env) {e:Expr} {φ:FP} {H:AH} {K:AV->AH->Prop} {s:Shared},mX env.scope x e=true->Now c φ H lc s->ev sp x lc H K->wpAny (MM c) A (eval e env) (qX1 c φ lc K) NoE s:=@fun ξ=>no_implicit_lambda%(match @ξ with
 |.bad=>@fun c env lc O V e φ H K s J J2 h=>h.elim
 |.none=>@fun c env lc O V e φ H K s hx N h=>by
  obtain ⟨k,p,rfl⟩:=wE7 hx
  exact wpAny_Constant_none (qR7 N qM6 h)
 |.bool b=>@fun c env lc O V e φ H K s hx N h=>by
  obtain ⟨k,p,rfl⟩:=qF9 hx
  exact wpAny_Constant_bool (qR7 N wJ6 h)
 |.int i=>@fun c env lc O V e φ H K s hx N h=>by
  obtain ⟨k,p,rfl⟩:=xS7 hx
  exact wpAny_Constant_int (qV1 N qO5 h)
 |.str x=>@fun c env lc O V e φ H K s hx N h=>by
  obtain ⟨k,p,rfl⟩:=zW3 hx
  exact wpAny_Constant_str (qV1 N zX2 h)
 |.loc x=>@fun c env lc O V e φ H K s hx N h=>by
  obtain ⟨p,rfl,h1,h2⟩:=qO8 hx
  exact qL5 h fun v e h=>wC2 V N h1 h2 e h
 |.glob g=>@fun c env lc O V e φ H K s hx N h=>by
  obtain ⟨p,rfl,h1,h2⟩:=xD0 hx
  refine zU0 h fun i e h=>?_
  have z:=List.all_eq_true.mp (jW5 c.w.params) _ (qX4 e)
  obtain ⟨t,ez⟩:=xG7 z
  exact qJ8 O V N h1 h2 ez (qR7 N qO5 h)
 |.attr o a=>@fun c env lc O V e φ H K s hx N h=>by
  obtain ⟨v,p,rfl,hb,ho⟩:=wB8 hx
  refine wG4 hb (qQ9 (qW6 S o O V ho N h) fun v s' φ' H' av x N' hv k=>wW6 x (xO7 k fun j cl fs u e0 e1 e2 e3 k=>xI5 O N' e1 e2 e3 (e0▸hv) k))
 |.bin op a b=>@fun c env lc O V e φ H K s hx N h=>by
  obtain ⟨l,r,p,rfl,ha,hb⟩:=xT8 hx
  refine wpAny_BinOp (qQ9 (qW6 S a O V ha N h) fun v s' φ' H' av x N' hv k=>?_)
  refine qQ9 (qW6 S b O V hb N' k) fun u sC φC H₂ bv xC NC hu kC=>?_
  exact wW6 (x.trans xC) (yV1 NC kC (hv.mono xC) hu)
 |.neg a=>@fun c env lc O V e φ H K s hx N h=>by
  obtain ⟨v,p,rfl,ha⟩:=zV8 hx
  refine wpAny_UnaryOp (qQ9 (qW6 S a O V ha N h) fun v s' φ' H' av x N' hv k=>wW6 x (qT1 k fun i e0 k=>?_))
  obtain ⟨t,rfl⟩:=(e0▸hv:qQ1 φ' (.int i) v)
  exact yG1 N' k
 |.not a=>@fun c env lc O V e φ H K s hx N h=>by
  obtain ⟨v,p,rfl,ha⟩:=wT8 hx
  refine wpAny_UnaryOp (qQ9 (qW6 S a O V ha N h) fun v s' φ' H' av x N' hv k=>wW6 x ?_)
  exact not_of (qL0 k hv fun b J hk=>qR7 N' wJ6 hk)
 |.and xs=>@fun c env lc O V e φ H K s hx N h=>by
  obtain ⟨es,p,rfl,ha⟩:=xX1 hx
  rw[arm_eval_BoolOp]
  exact wV5 S xs O V (w:=true) (op:=.And) rfl ha N h
 |.or xs=>@fun c env lc O V e φ H K s hx N h=>by
  obtain ⟨es,p,rfl,ha⟩:=xI2 hx
  rw[arm_eval_BoolOp]
  exact wV5 S xs O V (w:=false) (op:=.Or) rfl ha N h
 |.cmp op a b=>@fun c env lc O V e φ H K s hx N h=>by
  obtain ⟨l,r,p,rfl,hm,ha,hb⟩:=xV0 hx
  refine wpAny_Compare1 (qQ9 (qW6 S a O V ha N h) fun v s' φ' H' av x N' hv k=>?_) hm
  refine qQ9 (qW6 S b O V hb N' k) fun u sC φC H₂ bv xC NC hu kC=>?_
  exact wW6 (x.trans xC) (zS6 O NC kC (hv.mono xC) hu fun t s' N' hk=>qR7 N' wJ6 hk)
 |.ite t a b=>@fun c env lc O V e φ H K s hx N h=>by
  obtain ⟨e1,e2,e3,p,rfl,ht,ha,hb⟩:=zY3 hx
  refine wpAny_IfExp (wpAny_mono (wC8 S t O V ht N h) (fun r s' g=>?_) fun J J e=>e)
  obtain ⟨φ',H',x,N',k⟩:=g
  cases r with
  |true=>exact wW6 x (qW6 S a O V ha N' k)
  |false=>exact wW6 x (qW6 S b O V hb N' k)
 |.call g args=>@fun c env lc O V e φ H K s hx N h=>by
  obtain ⟨np,es,p,rfl,hd,hk,hl,ha⟩:=wY2 hx
  refine xO2 h fun f ef h=>?_
  have z:=List.all_eq_true.mp (yI6 c.w.params) _ (qX4 ef)
  simp only[Bool.and_eq_true,beq_iff_eq]at z
  refine Call_ (qJ8 O V N hd hk z.2 ?_)
  refine qB6 O ha z.1 (qJ1 S args O V ha N h) fun φ' H' avs vs s' x N' hv k=>wW6 x (qM3 S O N' hv k)
 |.mk g args=>@fun c env lc O V e φ H K s hx N h=>by
  obtain ⟨np,es,p,rfl,hd,hk,hl,ha⟩:=zE9 hx
  refine zT3 h fun ci f ef h=>?_
  have z:=List.all_eq_true.mp (yI3 c.w.params) _ (qX4 ef)
  simp only[yK3,Bool.and_eq_true,beq_iff_eq]at z
  refine Call_ (qJ8 O V N hd hk z.2 ?_)
  refine qB6 O ha z.1.2.2.2 (qJ1 S args O V ha N h) fun φ' H' avs vs s' x N' hv k=>wW6 x (yP1 S O N' ef hv k)
 |.bi g args=>@fun c env lc O V e φ H K s hx N h=>by
  obtain ⟨np,es,p,rfl,hd,hk,hl,ha⟩:=zP1 hx
  refine Call_ (zW9 O V N hd hk ?_)
  have q:∀(φ':FP) (H':AH) (avs:List AV) (vs:List Value) (s':Shared),Ext φ φ'->Now c φ' H' lc s'->qQ4 φ' avs vs->sBi g avs H' K->wpAny (MM c) A (call (biV g) ([]++vs)) (qX1 c φ lc K) NoE s':=
   fun φ' H' avs vs s' x N' hv k=>wW6 x (yP2 O N' k hv)
  have hh:=qJ1 S args O V (pos:=p) ha N h
  by_cases h3:g=3
  ·subst h3
   exact wO9 ha hh q
  ·obtain ⟨id,e⟩:=zG6 h3
   rw[e]at q ⊢
   exact xZ0 ha hh q
 |.meth o a args=>@fun c env lc O V e φ H K s hx N h=>by
  obtain ⟨v,ap,p,es,rfl,hb,hp,hl,ho,ha⟩:=wF5 hx
  refine wY4 hb hp hl (qZ8 ha) (qQ9 (qW6 S o O V ho N h) fun v s' φ' H' av x N' hv k pl=>?_)
  have bi:∀ kk,qA4 av H'=kk->qS4 kk a=true->(evs sp args lc H' fun vs H''=>match Nat.beq kk (qA4 av H'') with|true=>sBm a av vs H'' K|false=>False)->wpAny (MM c) A (getMethod v (nm a) pl) (fun fx sC=>wpAny (MM c) A (callWith p fx.1 fx.2 (backTo p (starEach es env)) []) (qX1 c φ lc K) NoE sC) NoE s':=by
   intro kk hkk hok hev
   refine zR0 N' hkk hok hv ?_
   obtain ⟨id,e⟩:=zE4 kk a
   have q:∀(φC:FP) (H₂:AH) (avs:List AV) (vs:List Value) (sC:Shared),Ext φ' φC->Now c φC H₂ lc sC->qQ4 φC avs vs->(match Nat.beq kk (qA4 av H₂) with|true=>sBm a av avs H₂ K|false=>False)->wpAny (MM c) A (call (bmV kk a) ([v]++vs)) (qX1 c φ lc K) NoE sC:=by
    intro φC H₂ avs vs sC xC NC hvs kC
    refine qK3 kC fun e1 kC=>?_
    exact wW6 (x.trans xC) (yT8 O NC (beq_eq e1).symm kC (hv.mono xC) hvs)
   rw[e]at q
   dsimp only
   rw[e]
   exact xZ0 ha (qJ1 S args O V ha N' hev) q
  refine zU1 k (fun j cl fs f e0 e1 e2 e3 k=>?_) (fun j xs f e0 e1 e2 k=>?_) (fun e4 k=>bi _ rfl e4 k) (fun y e0 e4 k=>bi 3 (e0▸rfl) e4 (by subst e0;exact k))
  ·refine xP3 O N' e1 e2 e3 (e0▸hv) ?_
   refine qB6 O ha (qI6 _ e2) (qJ1 S args O V ha N' k) fun φC H₂ avs vs sC xC NC hvs kC=>wW6 (x.trans xC) (qM3 S O NC (args:=.obj j::avs) ⟨_,_,rfl,e0▸hv.mono xC,hvs⟩ kC)
  ·refine zK3 O N' e1 e2 (e0▸hv) ?_
   refine qB6 O ha (qI6 _ e2) (qJ1 S args O V ha N' k) fun φC H₂ avs vs sC xC NC hvs kC=>wW6 (x.trans xC) (qM3 S O NC (args:=.obj j::avs) ⟨_,_,rfl,e0▸hv.mono xC,hvs⟩ kC)
 |.sub o i=>@fun c env lc O V e φ H K s hx N h=>by
  obtain ⟨v,j,p,rfl,ho,hi⟩:=wR0 hx
  refine wK8 (qQ9 (qW6 S o O V ho N h) fun v s' φ' H' av x N' hv k=>?_)
  refine qQ9 (qW6 S i O V hi N' k) fun u sC φC H₂ bv xC NC hu kC=>?_
  obtain ⟨T,id,h1,h2,h3⟩:=xH5 (A:=A) NC kC (hv.mono xC) hu
  exact ⟨T,id,h1,h2,wW6 (x.trans xC) (wpAny_mono h3 (fun r sD ⟨φD,HD,av,xD,ND,hr,⟨hk,e⟩⟩=>⟨φD,HD,av,xD,ND,hr,by rw[e];exact hk⟩) fun J J e=>e)⟩
 |.slice o lo hi=>@fun c env lc O V e φ H K s hx N h=>by
  obtain ⟨v,l,u,spp,p,rfl,ho,hl,hh⟩:=xZ9 hx
  refine wK8 (qQ9 (qW6 S o O V ho N h) fun v s' φ' H' av x N' hv k=>?_)
  have part:∀(xx:X) (hs:∀{e:Expr} {φ:FP} {H:AH} {K:AV->AH->Prop} {s:Shared},mX env.scope xx e=true->Now c φ H lc s->ev sp xx lc H K->wpAny (MM c) A (eval e env) (qX1 c φ lc K) NoE s) {oe:Option Expr} {φ:FP} {H:AH} {K:AV->AH->Prop} {s:Shared},mP env.scope xx oe=true->Now c φ H lc s->ev sp xx lc H K->wpAny (MM c) A (evalPart oe env) (qX1 c φ lc K) NoE s:=by
   intro xx hs oe φ H K s hm N h
   cases oe with
   |none=>
    rw[evalPart_none]
    rw[xU7 (show zE6 xx=true from hm)]at h
    exact wpAny_pure (qR7 N qM6 h)
   |some e=>
    rw[evalPart_some]
    exact hs (tt2 hm).2 N h
  refine wpAny_Slice (qQ9 (part lo (fun {_ _ _ _ _}=>qW6 S lo O V) hl N' k) fun a sC φC H₂ avC xC NC ha kC=>?_)
  refine qQ9 (part hi (fun {_ _ _ _ _}=>qW6 S hi O V) hh NC kC) fun b sD φD HD avD xD ND hb kD=>?_
  rw[evalPart_none]
  refine wpAny_pure ?_
  obtain ⟨T,id,h1,h2,h3⟩:=yF2 (A:=A) ND kD ((hv.mono xC).mono xD) (ha.mono xD) hb
  exact ⟨T,id,h1,h2,wW6 ((x.trans xC).trans xD) h3⟩
 |.list args=>@fun c env lc O V e φ H K s hx N h=>by
  obtain ⟨es,p,rfl,hl,ha⟩:=xF7 hx
  refine wpAny_List (wpAny_mono (qJ1 S args O V ha N h) (fun vs s' ⟨φ',H',avs,x,N',hv,hm,k⟩=>⟨by rw[hm,qV2];exact Nat.not_lt.mp fun gz=>lin [_] [] [(1,.nl (.v 0) (.c 20)),(1,.nl (.a (.c 16777216) (.c 1)) (.v 0))] rfl hl gz,?_⟩) fun J J e=>e)
  refine qX1.up x (xH9 (o:=mkL avs) (tk:=s'.toks) N' (fun b o e=>Heap.get?_push_of_some _ e) qQ7 (Heap.get?_push_size _ rfl) (fun φC xC=>wK4 (Heap.get?_push_size _ rfl) (by simpa using hv.mono xC) ?_) k)
  have:=hv.len
  omega
 |.tup args=>@fun c env lc O V e φ H K s hx N h=>by
  obtain ⟨es,kk,p,rfl,hl,ha⟩:=xU9 hx
  refine wpAny_Tuple (wpAny_mono (qJ1 S args O V ha N h) (fun vs s' ⟨φ',H',avs,x,N',hv,hm,k⟩=>⟨by rw[hm,qV2];exact Nat.not_lt.mp fun gz=>lin [_] [] [(1,.nl (.v 0) (.c 20)),(1,.nl (.a (.c 16777216) (.c 1)) (.v 0))] rfl hl gz,?_⟩) fun J J e=>e)
  refine ⟨_,_,_,x.trans (Ext.app _ _),N'.add (s':={s' with heap:=s'.heap.push _}) [s'.heap.objs.size] (.tp avs) (fun b o e=>Heap.get?_push_of_some _ e) (fun b hb=>?_) (by first|exact qQ6 rfl|exact .head _|simp) ⟨_,_,0,rfl,Heap.get?_push_size _ rfl,?_⟩ rfl rfl,qV6 N'.rel _ _,k⟩
  ·simp at hb
   subst hb
   exact ⟨qQ7,_,Heap.get?_push_size _ rfl⟩
  ·simpa using hv.mono (Ext.app _ _)
 |.dict ks args=>@fun c env lc O V e φ H K s hx N h=>by
  obtain ⟨keys,vals,p,rfl,hk,h8,hl,ha⟩:=xY6 hx
  refine qK3 h fun hko h=>?_
  have N1:Now c (φ++[[s.heap.objs.size]]) (H++[.sd []]) lc {s with heap:=s.heap.push {cls:=.type "dict", data:=.dict #[]}}:=by
   refine N.add (s':={s with heap:=s.heap.push _}) [s.heap.objs.size] (.sd []) (fun b o e=>Heap.get?_push_of_some _ e) (fun b hb=>?_) (by first|exact qQ6 rfl|exact .head _|simp) ⟨_,#[],0,rfl,Heap.get?_push_size _ rfl,rfl,by simp,by simp⟩ rfl rfl
   simp at hb
   subst hb
   exact ⟨qQ7,_,Heap.get?_push_size _ rfl⟩
  have ob:=qV6 N.rel s.heap.objs.size []
  cases ks with
  |nil=>
   cases keys with
   |cons k r=>exact nf hk
   |nil=>
    cases vals with
    |cons v r=>injection hl
    |nil=>
     refine wpAny_Dict_empty ?_
     cases args with
     |cons x xs=>obtain ⟨e,r,hr,J⟩:=qK1 ha;injection hr
     |nil=>
      refine xQ7 h fun e1 h=>?_
      have e2:qX7 (H++[AO.sd []]) H.length (.sd (List.zip ([]:List (List Nat)) ([]:List AV)))=H++[.sd []]:=by
       rw[qX2];simp
      rw[e2]at h
      exact ⟨_,_,_,Ext.app _ _,N1,ob,h⟩
  |cons k ks=>
   obtain ⟨hsh,hln⟩:=wB1 (sc:=env.scope) env p hk hl
   refine wpAny_Dict_pairs (knd:=SK c.w) hsh (by intro q;rw[q]at hln;simp at hln) (by rw[hln];exact Nat.not_lt.mp fun gz=>lin [_] [] [(1,.nl (.v 0) (.c 8)),(1,.nl (.a (.c 15) (.c 1)) (.v 0))] rfl h8 gz) ?_
   refine wpAny_mono (xX9 S args O V hk hl ha N1 h) (fun ps s' ⟨φ',H',avs,kvs,x,N',hc,hkv,hal,k'⟩=>?_) fun J J e=>e
   refine xQ7 k' fun e1 k'=>?_
   have hv:=ob.mono x
   obtain ⟨d,kv,ed,hf,h1,h2,h3,h4⟩:=qI1 N' e1 hv
   obtain rfl:s.heap.objs.size=d:=by simpa using ed
   subst h2
   have nd:(kvs.map (·.1)).Nodup:=by
    rw[hkv.nodup,wD7 hal]
    exact qI4 hko
   refine ⟨kvs,hc,h1,fun h' hd' hs=>?_⟩
   rw[xX5 nd]at hd'
   refine ⟨φ',_,.obj H.length,(Ext.app _ _).trans x,N'.upd (s':={s' with heap:=h',toks:=s'.toks+ps.length}) hf (by rw[e1];rfl) (.sd ((k::ks).zip avs)) (fun a o na ea=>(hs.2 a fun z=>na (by simp[z])).trans ea) (fun a ha=>?_) (wA2 hd' hkv ?_ ?_) rfl rfl,hv,k'⟩
   ·simp at ha
    subst ha
    obtain ⟨o,J,J,q,J⟩:=hd'
    exact ⟨o,q⟩
   ·rw[wD7 hal];exact qI4 hko
   ·rw[List.length_zip];exact Nat.not_lt.mp fun gz=>lin [_,_] [] [(1,.nl (.v 0) (.c 8)),(1,.nl (.v 1) (.v 0)),(1,.nl (.a (.c 100) (.c 1)) (.v 1))] rfl h8 (Nat.min_le_left ((k::ks).length) (avs.length)) gz
 |.comp rng x fv src ifs elt=>@fun c env lc O V e φ H K s hx N h=>by
  have ht:∀{scope:Scope} {cs:List Expr},cs.length<=1->mXs (rlb scope env.scope) ifs cs=true->∀(c':Cx) env' φ H lc s K,c'.w=c.w->Ok c' A (n+1)->qQ2 c' env'->env'.scope=rlb scope env.scope->Now c' φ H lc s->cdb sp true ifs lc H K->wpAny (MM c') A (qV4 cs env') (qA7 c' φ lc K) NoE s:=by
   intro scope cs hl hm c' env' φ H lc s K hw O' V' hs N k
   refine wC3 hl (qH8 S ifs O' V' (w:=true) (op:=.And) rfl (by rw[hs];exact hm) N k)
  cases rng with
  |true=>
   obtain ⟨el,px,rp,m,p,cs,scope,pos,rfl,hc,hr,hns,hsx,hl,hm,he⟩:=qU6 hx
   have hc':=qP4 hc
   obtain ⟨cl,hcl,c1,c2⟩:=qA2 V (scope:=scope) fun p hp hf=>by
    obtain ⟨y,hy,e⟩:=hc'.free p hp hf
    rw[e];exact qZ3 (hc'.cells y hy)
   rw[eval_ListComp]
   refine wpAny_comprehension_free (use:=none) rfl (fun J=>rfl) hcl hc'.kind hc'.loc ?_
   show wpAny (MM c) A (eval (.Call (.Name (Str.ofString "range") rp) [m] [] p) env) _ NoE s
   refine wpAny_mono (E:=NoE) (qA1 (KI:=fun i H=>0<=i/\i<=1000/\qZ7 (wX5 i) (fun lc H K=>cdb sp true ifs lc H K) (fun lc H K=>ev sp elt lc H K) x (qD6 lc fv) 64 0 [] H fun vs H=>K (.obj H.length) (H++[mkL vs])) O V hr hns hsx N
    (qQ9 (qW6 S src O V hsx N h) fun v s' φ' H' av x' N' hv k=>⟨φ',H',av,x',N',hv,wP4 k fun m e0 k=>⟨m,e0,k⟩⟩)) (fun u sB g=>?_) fun J J e=>e
   obtain ⟨φ₁,HB,i,r,t,u',v,xB,NB,rfl,hrg,k⟩:=g
   refine qN7 O V hc' c1 c2 (ht hl hm) (fun c' env' φ H lc s K hw O' V' hs N k=>qW6 S elt O' V' (by rw[hs];exact he) N k) NB hrg k.1 k.2.1 k.2.2 ?_
   intro φ' H' s' D C mm j x' N' UC hmm hv k'
   exact ⟨mm,hmm,fun h' hs=>⟨φ',H',.obj j,xB.trans x',N'.touch (s':={s' with heap:=h'}) UC (fun b o nb eb=>(hs.2 b nb).trans eb) rfl rfl,hv,k'⟩⟩
  |false=>
   obtain ⟨el,px,it,cs,scope,pos,rfl,hc,hset,hsx,hl,hm,he⟩:=wX6 hx
   have hc':=qP4 hc
   obtain ⟨cl,hcl,c1,c2⟩:=qA2 V (scope:=scope) fun p hp hf=>by
    obtain ⟨y,hy,e⟩:=hc'.free p hp hf
    rw[e];exact qZ3 (hc'.cells y hy)
   rw[eval_ListComp]
   refine wpAny_comprehension_free (use:=none) rfl (qH2 hset) hcl hc'.kind hc'.loc ?_
   show wpAny (MM c) A (eval it env) _ NoE s
   refine qQ9 (qW6 S src O V hsx N h) fun u sB φ₁ HB av xB NB hu k=>?_
   refine xX7 k fun m e0 k=>?_
   ·refine wE0 O V hc' c1 c2 (ht hl hm) (fun c' env' φ H lc s K hw O' V' hs N k=>qW6 S elt O' V' (by rw[hs];exact he) N k) NB (e0▸hu) k ?_
    intro φ' H' s' D C mm j x' N' UC hmm hv k'
    exact ⟨mm,hmm,fun h' hs=>⟨φ',H',.obj j,xB.trans x',N'.touch (s':={s' with heap:=h'}) UC (fun b o nb eb=>(hs.2 b nb).trans eb) rfl rfl,hv,k'⟩⟩
 )
theorem xX9 (S:qY4 n sp):∀(xs:Xs) {c:Cx} {env:Env} {lc:Loc} (O:Ok c A (n+1)) (V:qQ2 c env) {ks:List (List Nat)} {keys:List (Option Expr)} {vals:List Expr} {pos:Pos} {φ:FP} {H:AH} {K:List AV->AH->Prop} {s:Shared},mKs ks keys=true->keys.length=vals.length->mXs env.scope xs vals=true->Now c φ H lc s->evs sp xs lc H K->
  wpAny (MM c) A (evalPairs (qS9 env pos keys vals)) (yC3 c φ lc ks K) NoE s:=@fun ξ=>no_implicit_lambda%(match @ξ with
 |.nil=>@fun c env lc O V ks keys vals pos φ H K s hk hl hx N h=>by
  have:=qI9 hx
  subst this
  cases keys with
  |cons k r=>injection hl
  |nil=>
   cases ks with
   |cons k r=>exact nf hk
   |nil=>exact evalPairs_nil ⟨φ,H,[],[],Ext.refl φ,N,trivial,rfl,rfl,h⟩
 |.cons x xs=>@fun c env lc O V ks keys vals pos φ H K s hk hl hx N h=>by
  obtain ⟨e,r,rfl,hn,h1,h2⟩:=qK1 hx
  cases ks with
  |nil=>
   cases keys with
   |nil=>injection hl
   |cons k r=>exact nf hk
  |cons k ks=>
   obtain ⟨kk,p,kr,rfl,hk'⟩:=xX3 hk
   refine evalPairs_cons (wpAny_Constant_str ?_)
   refine wpAny_bind (qQ9 (qW6 S x O V h1 (N.tok rfl rfl rfl) h) fun v s' φ' H' av x' N' hv k'=>wpAny_bind (wpAny_standAt (wpAny_pure ?_)))
   refine wpAny_mono (xX9 S xs O V hk' (by simpa using hl) h2 N' k') (fun ps sC ⟨φC,H₂,avs,kvs,xC,NC,hc,hkv,hal,kC⟩=>?_) fun J J e=>e
   exact ⟨φC,H₂,av::avs,(⟨k.toArray⟩,v)::kvs,x'.trans xC,NC,⟨strKind_is pw c.w _ _,rfl,hc⟩,⟨v,kvs,rfl,hv.mono xC,hkv⟩,by simp[hal],kC⟩
 )
theorem qJ1 (S:qY4 n sp):∀(xs:Xs) {c:Cx} {env:Env} {lc:Loc} (O:Ok c A (n+1)) (V:qQ2 c env) {es:List Expr} {pos:Pos} {φ:FP} {H:AH} {K:List AV->AH->Prop} {s:Shared},mXs env.scope xs es=true->Now c φ H lc s->evs sp xs lc H K->
  wpAny (MM c) A (spliced (backTo pos (starEach es env))) (wO1 c φ lc es.length K) NoE s:=@fun ξ=>no_implicit_lambda%(match @ξ with
 |.nil=>@fun c env lc O V es pos φ H K s hx N h=>by
  rw[qI9 hx]
  exact wpAny_items_nil ⟨φ,H,[],Ext.refl φ,N,rfl,rfl,h⟩
 |.cons x xs=>@fun c env lc O V es pos φ H K s hx N h=>by
  obtain ⟨e,r,rfl,hn,h1,h2⟩:=qK1 hx
  refine qN5 hn (qQ9 (qW6 S x O V h1 N h) fun v s' φ' H' av x' N' hv k=>?_)
  refine wpAny_mono (qJ1 S xs O V h2 N' k) (fun vs sC ⟨φC,H₂,avs,xC,NC,hvs,hm,kC⟩=>?_) fun J J e=>e
  exact ⟨φC,H₂,av::avs,x'.trans xC,NC,⟨v,vs,rfl,hv.mono xC,hvs⟩,by simp[hm],kC⟩
 )
theorem wV5 (S:qY4 n sp):∀(xs:Xs) {c:Cx} {env:Env} {lc:Loc} (O:Ok c A (n+1)) (V:qQ2 c env) {w:Bool} {op:BoolOp} {es:List Expr} {pos:Pos} {φ:FP} {H:AH} {K:AV->AH->Prop} {s:Shared},op=(if w then .And else .Or)->mXs env.scope xs es=true->Now c φ H lc s->evb sp w xs lc H K->
  wpAny (MM c) A (boolOp pos op (evalEach es env)) (qX1 c φ lc K) NoE s:=@fun ξ=>no_implicit_lambda%(match @ξ with
 |.nil=>@fun c env lc O V w op es pos φ H K s hop hx N h=>h.elim
 |.cons x .nil=>@fun c env lc O V w op es pos φ H K s hop hx N h=>by
  obtain ⟨e,r,rfl,hn,h1,h2⟩:=qK1 hx
  rw[qI9 h2]
  exact qW6 S x O V h1 N h
 |.cons x (.cons y ys)=>@fun c env lc O V w op es pos φ H K s hop hx N h=>by
  obtain ⟨e,r,rfl,hn,h1,h2⟩:=qK1 hx
  have ih:∀{φ:FP} {H:AH} {K:AV->AH->Prop} {s:Shared},Now c φ H lc s->evb sp w (.cons y ys) lc H K->wpAny (MM c) A (boolOp pos op (evalEach r env)) (qX1 c φ lc K) NoE s:=fun N h=>wV5 S (.cons y ys) O V hop h2 N h
  obtain ⟨e',r',rfl,J⟩:=qK1 h2
  show wpAny (MM c) A (do
   let v <-eval e env
   standAt pos
   let t <-holding [v] (truthy v)
   match op,t with
   |.And,false|.Or,true=>pure v
   |J,J2=>boolOp pos op (evalEach (e'::r') env)) _ _ s
  refine wpAny_bind (qQ9 (qW6 S x O V h1 N h) fun v s' φ' H' av x' N' hv k=>wpAny_bind (wpAny_standAt (wpAny_bind (wpAny_holding ?_))))
  refine qL0 k hv fun t J k'=>?_
  subst hop
  cases w<;>cases t
  ·exact wW6 x' (ih N' k')
  ·exact wpAny_pure ⟨φ',H',av,x',N',hv,k'⟩
  ·exact wpAny_pure ⟨φ',H',av,x',N',hv,k'⟩
  ·exact wW6 x' (ih N' k')
 )
theorem wC8 (S:qY4 n sp):∀(x:X) {c:Cx} {env:Env} {lc:Loc} (O:Ok c A (n+1)) (V:qQ2 c env) {e:Expr} {φ:FP} {H:AH} {K:Bool->AH->Prop} {s:Shared},mX env.scope x e=true->Now c φ H lc s->cd sp x lc H K->wpAny (MM c) A (isTrue e env (eval e env)) (qA7 c φ lc K) NoE s:=@fun ξ=>no_implicit_lambda%(match @ξ with
 |.bad=>@fun c env lc O V e φ H K s J J2 h=>h.elim
 |.none=>@fun c env lc O V e φ H K s J J2 h=>h.elim
 |.bool b=>@fun c env lc O V e φ H K s hx N h=>by
  obtain ⟨k,p,rfl⟩:=qF9 hx
  exact wpAny_isTrue_value (wpAny_Constant_bool (wpAny_truthy_bool ⟨φ,H,Ext.refl φ,N,h⟩))
 |.int i=>@fun c env lc O V e φ H K s J J2 h=>h.elim
 |.str x=>@fun c env lc O V e φ H K s J J2 h=>h.elim
 |.loc x=>@fun c env lc O V e φ H K s hx N h=>by
  obtain ⟨p,rfl,h1,h2⟩:=qO8 hx
  refine qL5 h fun u e h=>?_
  refine wpAny_isTrue_value (qQ9 (wC2 V N h1 h2 e (K:=fun v H'=>qA8 v fun b=>K b H') h) fun v s' φ' H' av x N' hv k=>?_)
  exact qL0 k hv fun b J hk=>⟨φ',H',x,N',hk⟩
 |.glob g=>@fun c env lc O V e φ H K s J J2 h=>h.elim
 |.attr o a=>@fun c env lc O V e φ H K s hx N h=>by
  obtain ⟨v,p,rfl,hb,ho⟩:=wB8 hx
  refine wpAny_isTrue_value (wG4 hb (qQ9 (qW6 S o O V ho N h) fun v s' φ' H' av x N' hv k=>?_))
  refine xO7 k fun j cl fs u e0 e1 e2 e3 k=>?_
  refine qQ9 (xI5 O N' e1 e2 e3 (e0▸hv) (K:=fun v H'=>qA8 v fun b=>K b H') k) fun v sC φC H₂ av xC NC hv k=>?_
  exact qL0 k hv fun b J hk=>⟨φC,H₂,x.trans xC,NC,hk⟩
 |.bin op a b=>@fun c env lc O V e φ H K s J J2 h=>h.elim
 |.neg a=>@fun c env lc O V e φ H K s J J2 h=>h.elim
 |.not a=>@fun c env lc O V e φ H K s hx N h=>by
  obtain ⟨v,p,rfl,ha⟩:=wT8 hx
  exact wpAny_isTrue_Not (wpAny_mono (wC8 S a O V ha N h) (fun b s' ⟨φ',H',x,N',k⟩=>⟨φ',H',x,N',k⟩) fun J J e=>e)
 |.and xs=>@fun c env lc O V e φ H K s hx N h=>by
  obtain ⟨es,p,rfl,ha⟩:=xX1 hx
  exact wpAny_isTrue_BoolOp (qH8 S xs O V (w:=true) (op:=.And) rfl ha N h)
 |.or xs=>@fun c env lc O V e φ H K s hx N h=>by
  obtain ⟨es,p,rfl,ha⟩:=xI2 hx
  exact wpAny_isTrue_BoolOp (qH8 S xs O V (w:=false) (op:=.Or) rfl ha N h)
 |.cmp op a b=>@fun c env lc O V e φ H K s hx N h=>by
  obtain ⟨l,r,p,rfl,hm,ha,hb⟩:=xV0 hx
  refine wpAny_isTrue_Compare1 (qQ9 (qW6 S a O V ha N h) fun v s' φ' H' av x N' hv k=>?_) hm
  refine qQ9 (qW6 S b O V hb N' k) fun u sC φC H₂ bv xC NC hu kC=>?_
  exact zS6 O NC kC (hv.mono xC) hu fun t s' N' hk=>wpAny_truthy_bool ⟨φC,H₂,x.trans xC,N',hk⟩
 |.ite t a b=>@fun c env lc O V e φ H K s J J2 h=>h.elim
 |.call g args=>@fun c env lc O V e φ H K s hx N h=>by
  obtain ⟨np,es,p,rfl,hd,hk,hl,ha⟩:=wY2 hx
  refine xO2 h fun f ef h=>?_
  have z:=List.all_eq_true.mp (yI6 c.w.params) _ (qX4 ef)
  simp only[Bool.and_eq_true,beq_iff_eq]at z
  refine wpAny_isTrue_value (Call_ (qJ8 O V N hd hk z.2 ?_))
  refine qB6 O ha z.1 (qJ1 S args O V ha N h) fun φ' H' avs vs s' x N' hv k=>?_
  refine qQ9 (qM3 S O N' hv k) fun v sC φC H₂ av xC NC hv k=>?_
  exact qL0 k hv fun b J hk=>⟨φC,H₂,x.trans xC,NC,hk⟩
 |.mk g args=>@fun c env lc O V e φ H K s J J2 h=>h.elim
 |.bi g args=>@fun c env lc O V e φ H K s J J2 h=>h.elim
 |.meth o a args=>@fun c env lc O V e φ H K s hx N h=>by
  obtain ⟨v,ap,p,es,rfl,hb,hp,hl,ho,ha⟩:=wF5 hx
  refine wpAny_isTrue_value (wY4 hb hp hl (qZ8 ha) (qQ9 (qW6 S o O V ho N h) fun v s' φ' H' av x N' hv k pl=>?_))
  refine zL7 k fun j cl fs f e0 e1 e2 e3 k=>?_
  refine xP3 O N' e1 e2 e3 (e0▸hv) ?_
  refine qB6 O ha (qI6 _ e2) (qJ1 S args O V ha N' k) fun φC H₂ avs vs sC xC NC hvs kC=>?_
  ·refine qQ9 (qM3 S O NC (args:=.obj j::avs) ⟨_,_,rfl,e0▸hv.mono xC,hvs⟩ kC) fun v sD φD HD av xD ND hv k=>?_
   exact qL0 k hv fun b J hk=>⟨φD,HD,(x.trans xC).trans xD,ND,hk⟩
 |.sub o i=>@fun c env lc O V e φ H K s hx N h=>by
  obtain ⟨v,j,p,rfl,ho,hi⟩:=wR0 hx
  refine wpAny_isTrue_value (wK8 (qQ9 (qW6 S o O V ho N h) fun v s' φ' H' av x N' hv k=>?_))
  refine qQ9 (qW6 S i O V hi N' k) fun u sC φC H₂ bv xC NC hu kC=>?_
  obtain ⟨T,id,h1,h2,h3⟩:=xH5 (A:=A) NC kC (hv.mono xC) hu
  refine ⟨T,id,h1,h2,qQ9 h3 fun v sD φD HD av xD ND hv k=>?_⟩
  obtain ⟨k,rfl⟩:=k
  exact qL0 k hv fun b J hk=>⟨φD,_,(x.trans xC).trans xD,ND,hk⟩
 |.slice o lo hi=>@fun c env lc O V e φ H K s J J2 h=>h.elim
 |.list args=>@fun c env lc O V e φ H K s J J2 h=>h.elim
 |.tup args=>@fun c env lc O V e φ H K s J J2 h=>h.elim
 |.dict ks args=>@fun c env lc O V e φ H K s J J2 h=>h.elim
 |.comp J J2 J3 J4 J5 J6=>@fun c env lc O V e φ H K s J7 J8 h=>h.elim
 )
theorem qH8 (S:qY4 n sp):∀(xs:Xs) {c:Cx} {env:Env} {lc:Loc} (O:Ok c A (n+1)) (V:qQ2 c env) {w:Bool} {op:BoolOp} {es:List Expr} {φ:FP} {H:AH} {K:Bool->AH->Prop} {s:Shared},op=(if w then .And else .Or)->mXs env.scope xs es=true->Now c φ H lc s->cdb sp w xs lc H K->
  wpAny (MM c) A (allTrue op es env) (qA7 c φ lc K) NoE s:=@fun ξ=>no_implicit_lambda%(match @ξ with
 |.nil=>@fun c env lc O V w op es φ H K s hop hx N h=>by
  rw[qI9 hx]
  subst hop
  cases w
  ·exact wpAny_allTrue_Or_nil ⟨φ,H,Ext.refl φ,N,h⟩
  ·exact wpAny_allTrue_And_nil ⟨φ,H,Ext.refl φ,N,h⟩
 |.cons x xs=>@fun c env lc O V w op es φ H K s hop hx N h=>by
  obtain ⟨e,r,rfl,hn,h1,h2⟩:=qK1 hx
  have ih:∀{φ:FP} {H:AH} {K:Bool->AH->Prop} {s:Shared},Now c φ H lc s->cdb sp w xs lc H K->wpAny (MM c) A (allTrue op r env) (qA7 c φ lc K) NoE s:=fun N h=>qH8 S xs O V hop h2 N h
  have hc:=wC8 S x O V h1 N h
  subst hop
  cases w
  ·refine wpAny_allTrue_Or_cons (wpAny_mono hc (fun b s' ⟨φ',H',x,N',k⟩=>?_) fun J J e=>e)
   cases b
   ·exact wpAny_mono (ih N' k) (fun J J g=>g.up x) fun J J e=>e
   ·exact ⟨φ',H',x,N',k⟩
  ·refine wpAny_allTrue_And_cons (wpAny_mono hc (fun b s' ⟨φ',H',x,N',k⟩=>?_) fun J J e=>e)
   cases b
   ·exact ⟨φ',H',x,N',k⟩
   ·exact wpAny_mono (ih N' k) (fun J J g=>g.up x) fun J J e=>e
 )
end
theorem qD5 (S:qY4 n sp) (O:Ok c A (n+1)) (V:qQ2 c env) (x:X) {e:Expr} {φ:FP} {H:AH} {K:AV->AH->Prop} {s:Shared} (hx:mX env.scope x e=true) (N:Now c φ H lc s) (h:ev sp x lc H K):wpAny (MM c) A (eval e env) (qX1 c φ lc K) NoE s:=qW6 S x O V hx N h
theorem wM5 (S:qY4 n sp) (O:Ok c A (n+1)) (V:qQ2 c env) (xs:Xs) {es:List Expr} {pos:Pos} {φ:FP} {H:AH} {K:List AV->AH->Prop} {s:Shared} (hx:mXs env.scope xs es=true) (N:Now c φ H lc s) (h:evs sp xs lc H K) :
  wpAny (MM c) A (spliced (backTo pos (starEach es env))) (wO1 c φ lc es.length K) NoE s:=qJ1 S xs O V hx N h
theorem xU0 (S:qY4 n sp) (O:Ok c A (n+1)) (V:qQ2 c env) (x:X) {e:Expr} {φ:FP} {H:AH} {K:Bool->AH->Prop} {s:Shared} (hx:mX env.scope x e=true) (N:Now c φ H lc s) (h:cd sp x lc H K):wpAny (MM c) A (isTrue e env (eval e env)) (qA7 c φ lc K) NoE s:=wC8 S x O V hx N h
end
section
variable {c:Cx} {A:Around} {n:Nat} {φ:FP} {H:AH} {lc:Loc} {s:Shared} {K:AV->AH->Prop} {env:Env}
theorem wX9 {a b:List Value} {i j:Nat} {xs:List Int} (h:IntsAre a xs) {ys:List Int} (h':IntsAre b ys):IntsAre (a.take i++b++a.drop j) (xs.take i++ys++xs.drop j):=
 qR9 (qR9 (wW2 h i) h') (qL2 h j)
theorem xK3 {α:Type} {xs ys:List α} {a b:Nat} (h1:a<=b) (h2:b<=xs.length):(xs.take a++ys++xs.drop b).length<=xs.length+ys.length:=by
 rw[List.length_append,List.length_append,List.length_take,List.length_drop,Nat.add_right_comm]
 refine Nat.add_le_add_right ?_ _
 exact Nat.le_trans (Nat.add_le_add_right (Nat.le_trans (Nat.min_le_left _ _) h1) _) (Nat.le_of_eq (Nat.add_sub_cancel' h2))
theorem jW1 {n:Nat} (h:n<=10000):¬ (Builtin.List.listTooLong n=true):=by
 simp only[Builtin.List.listTooLong,decide_eq_true_eq]
 rw[qV2]
 exact fun gz=>lin [_] [] [(1,.nl (.v 0) (.c 10000)),(1,.nl (.a (.c 16777216) (.c 1)) (.v 0))] rfl h gz
theorem xF3 {p:Prop} {dp:Decidable p} {M:Model} {A:Around} {α:Type} {m1 m2:Sem α} {R:α->Shared->Prop} {E:Value->Shared->Prop} {s:Shared} (h1:wpAny M A m1 R E s) (h2:wpAny M A m2 R E s):wpAny M A (if p then m1 else m2) R E s:=by
 split
 ·exact h1
 ·exact h2
theorem wL0 {k l:Nat} {xs ys:List Int} {i j:Int} {v u va vb:Value} (N:Now c φ H lc s) (e:qQ0 H k=.il xs) (e':qQ0 H l=.il ys) (hv:qQ1 φ (.obj k) v) (hu:qQ1 φ (.obj l) u) (ha:qQ1 φ (.int i) va) (hb:qQ1 φ (.int j) vb)
  (h0:0<=i) (h1:i<=j) (h2:j<=xs.length) (h3:xs.length+ys.length<=10000)
  {Q:Unit->Shared->Prop} (kk:∀ s',Now c φ (qX7 H k (.il (xs.take i.toNat++ys++xs.drop j.toNat))) lc s'->Q () s') :
  wpAny (MM c) A (setItem v (.ref s.heap.objs.size) u) Q NoE {s with heap:=s.heap.push {cls:=.type "slice", data:=.fields #[va,vb,.none]}}:=by
 obtain ⟨x,its,m,rfl,hf,g1,g2,g3⟩:=qV7 N e hv
 obtain ⟨y,its',m',rfl,hf',g1',g2',g3'⟩:=qV7 N e' hu
 have N':=N.push {cls:=.type "slice", data:=.fields #[va,vb,.none]}
 have hl:=g2.length
 have hl':=g2'.length
 simp only[Array.length_toList]at hl hl'
 obtain ⟨p,rfl⟩:=Int.eq_ofNat_of_zero_le h0
 obtain ⟨q,rfl⟩:=Int.eq_ofNat_of_zero_le (Int.le_trans h0 h1)
 have hpq:p<=q:=Int.ofNat_le.mp h1
 have hq:q<=its.toList.length:=by rw[Array.length_toList,hl];exact Int.ofNat_le.mp h2
 have hs:its.size+its'.size<=10000:=by rw[hl,hl'];exact h3
 have hz:its.toList.length+its'.toList.length<=10000:=hs
 have q1:(s.heap.push {cls:=.type "slice", data:=.fields #[va,vb,.none]}).get? x=some (wX2 its m):=Heap.get?_push_of_some _ g1
 have q2:(s.heap.push {cls:=.type "slice", data:=.fields #[va,vb,.none]}).get? y=some (wX2 its' m'):=Heap.get?_push_of_some _ g1'
 have q3:(s.heap.push {cls:=.type "slice", data:=.fields #[va,vb,.none]}).get? s.heap.objs.size=some {cls:=.type "slice", data:=.fields #[va,vb,.none]}:=Heap.get?_push_size _ rfl
 have hTs:Shared.TypeIs {s with heap:=s.heap.push {cls:=.type "slice", data:=.fields #[va,vb,.none]}} (.ref s.heap.objs.size) "slice":=⟨_,q3,rfl⟩
 have hTx:Shared.TypeIs {s with heap:=s.heap.push {cls:=.type "slice", data:=.fields #[va,vb,.none]}} (.ref x) "list":=⟨_,q1,rfl⟩
 have hTy:Shared.TypeIs {s with heap:=s.heap.push {cls:=.type "slice", data:=.fields #[va,vb,.none]}} (.ref y) "list":=⟨_,q2,rfl⟩
 obtain ⟨ta,rfl⟩:=ha
 obtain ⟨tb,rfl⟩:=hb
 unfold setItem
 try with_reducible refine wpAny_holding ?_
 first|refine wpAny_bind (wpAny_pure ?_)|skip
 refine wpAny_bind (wpAny_sequenceKey hTx (by decide) ?_)
 refine wpAny_bind (wpAny_callSpecial?_slot (name:=Str.ofString "__setitem__") hTx PySem.slot_list_setitem
  (wpAny_call_entry PySem.slot_list_setitem hTx PySem.entry_list_setitem ?_ (PySem.args_list_setitem _ _ _)))
 show wpAny _ _ (Builtin.List.listSubscript? (.ref s.heap.objs.size)>>=_) _ _ _
 refine wpAny_bind ?_
 unfold Builtin.List.listSubscript?
 refine wpAny_bind (wpAny_specialOf hTs slice_no_index ?_)
 first|refine zE3 rfl (wpAny_pure ?_)|refine xO9 rfl (wpAny_pure ?_)
 show wpAny _ _ (typeOf (.ref s.heap.objs.size)>>=_) _ _ _
 refine wpAny_bind (wpAny_typeOf hTs ?_)
 first|refine xJ6 (by decide) ?_|refine wQ5 (by decide) ?_
 refine wpAny_bind (weq (listSliceParts_eq _) ?_)
 refine wpAny_bind (wpAny_field q3 rfl (x:=.none) rfl (wpAny_bind (wpAny_listPart (k:=none) .none ?_)))
 first|refine xJ6 Bool.false_ne_true ?_|refine wQ5 Bool.false_ne_true ?_
 refine wpAny_bind (wpAny_field q3 rfl (x:=.int p ta) rfl (wpAny_bind (wpAny_listPart (k:=some (p:Int)) (.int p ta) ?_)))
 refine wpAny_bind (wpAny_field q3 rfl (x:=.int q tb) rfl (wpAny_bind (wpAny_listPart (k:=some (q:Int)) (.int q tb) (wpAny_pure ?_))))
 have one:∀{R:Array Value->Shared->Prop},R its' {s with heap:=s.heap.push {cls:=.type "slice", data:=.fields #[.int p ta,.int q tb,.none]}}->wpAny (MM c) A.in1 (Builtin.List.listItems (.ref y)) R NoE {s with heap:=s.heap.push {cls:=.type "slice", data:=.fields #[.int p ta,.int q tb,.none]}}:=by
  intro R r
  unfold Builtin.List.listItems
  exact wpAny_bind (wpAny_seqItems q2 rfl (wpAny_pure r))
 have two:∀{R:Array Value->Shared->Prop},R its' {s with heap:=s.heap.push {cls:=.type "slice", data:=.fields #[.int p ta,.int q tb,.none]}}->wpAny (MM c) A.in1 (Builtin.List.listAllItems (.ref y) "must assign iterable to extended slice") R NoE {s with heap:=s.heap.push {cls:=.type "slice", data:=.fields #[.int p ta,.int q tb,.none]}}:=by
  intro R r
  unfold Builtin.List.listAllItems
  refine wpAny_bind (wpAny_typeOf hTy ?_)
  rw[if_pos (by rfl)]
  exact one r
 have sb:sliceBounds (some (p:Int)) (some (q:Int)) none its.size=((p:Int),(q:Int),1):=by
  unfold sliceBounds
  simp only[Option.getD,show ((1:Int) > 0)=True by simp,if_true]
  have cl:∀ k:Nat,k<=its.size->max 0 (min (if (k:Int)<0 then (k:Int)+(its.size:Int) else (k:Int)) (its.size:Int))=k:=fun k h=>by
   rw[if_neg (Int.not_lt.mpr (Int.natCast_nonneg k)),Int.min_eq_left (Int.ofNat_le.mpr h),Int.max_eq_right (Int.natCast_nonneg k)]
  rw[cl p (Nat.le_trans hpq hq),cl q hq]
 have tl:¬ (Builtin.List.listTooLong (its.size+its'.size)=true):=jW1 hs
 have mx:max (p:Int) q=q:=Int.max_eq_right h1
 have eL:(its.extract 0 p++its'++its.extract q its.size).toList=its.toList.take p++its'.toList++its.toList.drop q:=by
  simp only[Array.toList_append,Array.toList_extract,List.extract_eq_take_drop,List.drop_zero,Nat.sub_zero]
  congr 1
  rw[List.take_of_length_le]
  simp
 have sz:(its.extract 0 p++its'++its.extract q its.size).size<=10000:=by
  rw[<-Array.length_toList]
  show (its.extract 0 p++its'++its.extract q its.size).toList.length<=_
  rw[eL]
  exact Nat.le_trans (xK3 hpq hq) hz
 have hup:((s.heap.push {cls:=.type "slice", data:=.fields #[.int p ta,.int q tb,.none]}).update x (Obj.mapSeq fun xs=>xs.extract 0 p++its'++xs.extract q xs.size)).get? x=some (Obj.mapSeq (fun xs=>xs.extract 0 p++its'++xs.extract q xs.size) (wX2 its m)):=Heap.get?_update_self _ q1 rfl
 have fin:Now c φ (qX7 H k (.il (xs.take p++ys++xs.drop q))) lc {s with heap:=(s.heap.push {cls:=.type "slice", data:=.fields #[.int p ta,.int q tb,.none]}).update x (Obj.mapSeq fun xs=>xs.extract 0 p++its'++xs.extract q xs.size)}:=by
  refine sup (o':=.il (xs.take p++ys++xs.drop q)) (tk:=s.toks) N' hf (by rw[e];rfl) q1 rfl ⟨x,its.extract 0 p++its'++its.extract q its.size,_,rfl,hup,?_,?_⟩
  ·rw[eL]
   exact wX9 g2 g2'
  ·exact Nat.le_trans (xK3 hpq (by rw[<-hl];exact hq)) h3
 refine (fun rest=>xF3 (wpAny_bind (one rest)) (wpAny_bind (two rest))) ?_
 ·skip
  refine wpAny_bind (m:=Builtin.List.listItems (.ref x)) ?_
  unfold Builtin.List.listItems
  refine wpAny_bind (wpAny_seqItems q1 rfl (wpAny_pure ?_))
  refine wpAny_bind (wpAny_of_eq (sliceIndices_raw (some (p:Int)) (some (q:Int)) none its.size (by first|exact qQ6 rfl|exact .head _|simp)) ?_)
  rw[sb]
  dsimp only
  first|refine zE3 rfl ?_|refine xO9 rfl ?_
  refine wpAny_bind (wpAny_rule ?_)
  first|refine xJ6 tl ?_|refine wQ5 tl ?_
  rw[mx]
  refine wpAny_bind ?_
  show wpAny _ _ (updateSeq x _) _ _ _
  refine wpAny_updateSeq q1 rfl ?_ (Nat.le_trans (Nat.le_trans (Nat.le_add_right _ _) hs) (by rw[qV2];decide)) (Nat.le_trans sz (by rw[qV2];decide))
  exact wpAny_bind (wpAny_letGo (wpAny_pure ⟨_,rfl,wpAny_pure (kk _ fin)⟩))
end
inductive qC1 (c:Cx) (φ:FP) (K:Loc->AH->Prop) (_u:Unit) (s:Shared):Prop where
 |mk (φ':FP) (H':AH) (lc':Loc) (x:Ext φ φ') (N:Now c φ' H' lc' s) (k:K lc' H')
theorem qC1.up {c:Cx} {K:Loc->AH->Prop} {φ φ':FP} (x:Ext φ φ') {v:Unit} {s':Shared} (g:qC1 c φ' K v s'):qC1 c φ K v s':=by
 obtain ⟨φC,H',lc,e,N,k⟩:=g
 exact ⟨φC,H',lc,x.trans e,N,k⟩
theorem wP0 {e:Expr} {rest:List Expr} {env:Env} (h:qZ5 e=true):assignEach (e::rest) env=(false,assign e env)::assignEach rest env:=by
 cases e<;>first|rfl|exact nf h
section
variable {c:Cx} {A:Around} {n:Nat} {env:Env} {sp:Sp}
theorem zD1 {P:Prop} {a b:Bool} {A:Prop} (h:match a,b with|true,true=>A|J,J2=>False) (q:a=true->b=true->A->P):P:=by
 cases a
 ·exact False.elim h
 ·cases b
  ·exact False.elim h
  ·exact q rfl rfl h
theorem zY1 {P:Prop} {v:AV} {H:AH} {a:Nat} {A:Nat->Nat->Loc->Prop} (h:match v with|.obj k=>(match qQ0 H k with|.inst c fs=>(match qJ3 (okA c) a,Nat.ble fs.length 40 with|true,true=>A k c fs|J,J2=>False)|J=>False)|J=>False)
  (q:∀ k c fs,v=.obj k->qQ0 H k=.inst c fs->qJ3 (okA c) a=true->Nat.ble fs.length 40=true->A k c fs->P):P:=
 qB8 h fun k e h=>qS7 h fun c fs e1 h=>zD1 h fun e2 e3 h=>q k c fs e e1 e2 e3 h
theorem xT3 {P:Prop} {v w:AV} {H:AH} {A:Nat->List Nat->List (List Nat×AV)->Prop} (h:match v,w with|.obj k,.str s=>(match qQ0 H k with|.sd es=>A k s es|J=>False)|J,J2=>False)
  (q:∀ k s es,v=.obj k->w=.str s->qQ0 H k=.sd es->A k s es->P):P:=by
 cases v<;>first|exact False.elim h|skip
 cases w<;>first|exact False.elim h|skip
 exact wY9 h fun es e h=>q _ _ es rfl rfl e h
theorem wS0 (S:qY4 n sp) (O:Ok c A (n+1)) (V:qQ2 c env) {t:T1} {e:Expr} {φ:FP} {H:AH} {lc:Loc} {s:Shared} {av:AV} {v:Value} {K:Loc->AH->Prop} (hm:mT1 env.scope t e=true) (N:Now c φ H lc s) (hv:qQ1 φ av v)
  (h:zF4 sp t av lc H K):wpAny (MM c) A (assign e env v) (qC1 c φ K) NoE s:=by
 cases t with
 |loc x=>
  obtain ⟨p,rfl,hk⟩:=qG6 hm
  show wpAny (MM c) A (do standAt p;bindName env (nm x) v) _ _ s
  exact wpAny_bind (wpAny_standAt (qI5 O V N hk hv fun s' N'=>⟨φ,H,_,Ext.refl φ,N',h⟩))
 |attr o a=>
  obtain ⟨w,p,rfl,ho⟩:=qY8 hm
  show wpAny (MM c) A (do
   let ov <-holding [v] (eval w env)
   standAt p.atName
   holding [v,ov] (setAttr ov (nm a) v)
   release [v,ov] []) _ _ s
  refine wpAny_bind (wpAny_holding (qQ9 (qD5 S O V o ho N h) fun u s' φ' H' av' x N' hu k=>?_))
  refine wpAny_bind (wpAny_standAt (wpAny_bind (wpAny_holding ?_)))
  refine zY1 k fun j cl fs e0 e1 e2 e3 k'=>?_
  exact yD8 O N' e1 e2 (e0▸hu) (hv.mono x) (Nat.ble_eq.mp e3) fun sC NC=>wpAny_release ⟨φ',_,lc,x,NC,k'⟩
 |sub o i=>
  obtain ⟨w,j,p,rfl,ho,hi⟩:=qG7 hm
  rw[assign_Subscript]
  refine wpAny_bind (wpAny_holding (qQ9 (qD5 S O V o ho N h) fun u s' φ' H' av' x N' hu k=>?_))
  refine wpAny_bind (wpAny_holding (qQ9 (qD5 S O V i hi N' k) fun u' sC φC H₂ avC xC NC hu' k=>?_))
  refine wpAny_bind (wpAny_standAt (wpAny_bind (wpAny_holding ?_)))
  refine xT3 k fun j t es e0 e1 e2 k'=>?_
  subst e1
  obtain ⟨t,rfl⟩:=hu'
  exact xT7 NC e2 (e0▸hu.mono xC) ((hv.mono x).mono xC) k'.1 fun sD ND=>wpAny_release ⟨φC,_,lc,x.trans xC,ND,k'.2⟩
theorem xK1 (S:qY4 n sp) (O:Ok c A (n+1)) (V:qQ2 c env):∀{ts:List T1} {es:List Expr} {φ:FP} {H:AH} {lc:Loc} {s:Shared} {avs:List AV} {vs:List Value} {K:Loc->AH->Prop},mTs env.scope ts es=true->Now c φ H lc s->qQ4 φ avs vs->
  xQ8 sp ts avs lc H K->wpAny (MM c) A (assignInOrder ((assignEach es env).map (·.2)) vs) (qC1 c φ K) NoE s:=@fun ξ ξ2 ξ3 ξ4 ξ5 ξ6 ξ7=>no_implicit_lambda%(match @ξ,@ξ2,@ξ3,@ξ4,@ξ5,@ξ6,@ξ7 with
 |[],es,φ,H,lc,s,[]=>@fun vs K hm N hv h=>by
  rw[qR5 hm]
  subst hv
  exact wpAny_pure ⟨φ,H,lc,Ext.refl φ,N,h⟩
 |[],es,φ,H,lc,s,J::J2=>@fun vs K hm N hv h=>False.elim h
 |t::ts,es,φ,H,lc,s,[]=>@fun vs K hm N hv h=>False.elim h
 |t::ts,es,φ,H,lc,s,av::avs=>@fun vs K hm N hv h=>by
  obtain ⟨e,r,rfl,hn,h1,h2⟩:=qL4 hm
  obtain ⟨v,vs',rfl,hv1,hv2⟩:=hv
  rw[wP0 hn]
  show wpAny (MM c) A (do holding vs' (assign e env v);assignInOrder ((assignEach r env).map (·.2)) vs') _ _ s
  refine wpAny_bind (wpAny_holding (wpAny_mono (wS0 S O V h1 N hv1 (show zF4 sp t av lc H (fun lc H=>xQ8 sp ts avs lc H K) from h)) (fun J s' ⟨φ',H',lc',x,N',k⟩=>?_) fun J J e=>e))
  exact wpAny_mono (xK1 S O V h2 N' (hv2.mono x) k) (fun J J g=>g.up x) fun J J e=>e
 )
theorem qN0 {sc:Scope}:∀{ts:List T1} {es:List Expr},mTs sc ts es=true->(assignEach es env).findIdx? (·.1)=none/\(assignEach es env).length=es.length/\es.length=ts.length:=@fun ξ=>no_implicit_lambda%(match @ξ with
 |[]=>@fun es h=>by rw[qR5 h];exact ⟨rfl,rfl,rfl⟩
 |t::ts=>@fun es h=>by
  obtain ⟨e,r,rfl,hn,h1,h2⟩:=qL4 h
  obtain ⟨a,b,d⟩:=qN0 h2
  rw[wP0 hn]
  refine ⟨?_,by simp[b],by simp[d]⟩
  rw[List.findIdx?_cons]
  simp[a]
 )
theorem yJ0:∀{ts:List T1} {avs:List AV} {lc:Loc} {H:AH} {K:Loc->AH->Prop},xQ8 sp ts avs lc H K->True:=fun J=>trivial
theorem zT4 {φ:FP} {H:AH} {lc:Loc} {s:Shared} {k:Nat} {xs:List AV} {v:Value} (N:Now c φ H lc s) (e:qQ0 H k=.tp xs) (hv:qQ1 φ (.obj k) v):∃ x its m,v=.ref x/\s.heap.get? x=some (yY7 its m)/\qQ4 φ xs its.toList:=by
 obtain ⟨f,hf,x,its,m,rfl,h1,h2⟩:=N.at e (qQ6 rfl)
 obtain ⟨a,l,h4,rfl⟩:=hv
 rw[hf]at h4
 cases h4
 exact ⟨_,its,m,rfl,h1,h2⟩
end
noncomputable def qS3 (lc:Loc) (ps:List (Nat×AV)):Loc:=ps.foldl (fun l p=>st l p.1 p.2) lc
theorem qR1:∀(ps:List (Nat×AV)) (lc:Loc) (y:Nat),(ps.map (·.1)).Nodup->(∀ v,(y,v)∈ps->lk (qS3 lc ps) y=some v)/\(y∉ps.map (·.1)->lk (qS3 lc ps) y=lk lc y):=@fun ξ=>no_implicit_lambda%(match @ξ with
 |[]=>@fun lc y J=>⟨fun v h=>(nomatch h),fun J=>rfl⟩
 |p::ps=>@fun lc y nd=>by
  obtain ⟨n1,n2⟩:=List.nodup_cons.mp nd
  obtain ⟨h1,h2⟩:=qR1 ps (st lc p.1 p.2) y n2
  refine ⟨fun v h=>?_,fun h=>?_⟩
  ·show lk (qS3 (st lc p.1 p.2) ps) y=_
   rcases List.mem_cons.mp h with h|h
   ·subst h
    rw[h2 n1,qA5,if_pos rfl]
   ·exact h1 v h
  ·show lk (qS3 (st lc p.1 p.2) ps) y=_
   rw[List.map_cons,List.mem_cons,not_or]at h
   rw[h2 h.2,qA5,if_neg h.1]
 )
theorem zF5 (ps:List (Nat×AV)) (lc:Loc) (y:Nat) (nd:(ps.map (·.1)).Nodup):lk (qS3 lc ps) y=lk (qS3 lc ps.reverse) y:=by
 have nd':(ps.reverse.map (·.1)).Nodup:=by rw[List.map_reverse];exact List.pairwise_reverse.mpr (nd.imp Ne.symm)
 obtain ⟨h1,h2⟩:=qR1 ps lc y nd
 obtain ⟨g1,g2⟩:=qR1 ps.reverse lc y nd'
 by_cases q:y∈ps.map (·.1)
 ·obtain ⟨p,hp,rfl⟩:=List.mem_map.mp q
  rw[h1 p.2 hp,g1 p.2 (List.mem_reverse.mpr hp)]
 ·rw[h2 q,g2 (by rw[List.map_reverse];simpa using q)]
theorem wW8 {sp:Sp}:∀{xs:List Nat} {avs:List AV} {lc:Loc} {H:AH} {K:Loc->AH->Prop},xQ8 sp (xs.map .loc) avs lc H K->avs.length=xs.length/\K (qS3 lc (xs.zip avs)) H:=@fun ξ ξ2=>no_implicit_lambda%(match @ξ,@ξ2 with
 |[],[]=>@fun lc H K h=>⟨rfl,h⟩
 |[],J::J2=>@fun lc H K h=>False.elim h
 |J::J2,[]=>@fun lc H K h=>False.elim h
 |x::xs,v::avs=>@fun lc H K h=>by
  obtain ⟨h1,h2⟩:=wW8 (sp:=sp) (lc:=st lc x v) (K:=K) h
  exact ⟨congrArg (·+1) h1,h2⟩
 )
theorem qQ4.rev {φ:FP}:∀{as:List AV} {vs:List Value},qQ4 φ as vs->qQ4 φ as.reverse vs.reverse:=@fun ξ ξ2 ξ3=>match @ξ,@ξ2,@ξ3 with
 |[],J,h=>by subst h;rfl
 |a::as,J,⟨v,r,e,h1,h2⟩=>by
  subst e
  rw[List.reverse_cons,List.reverse_cons]
  exact h2.rev.app ⟨v,[],rfl,h1,rfl⟩
theorem xI6 {α β:Type} (f:α->Option β):∀{l:List α},(l.filterMap f).length=l.length->l.map f=(l.filterMap f).map some:=@fun ξ ξ2=>match @ξ,@ξ2 with
 |[],J=>rfl
 |a::l,h=>by
  rw[List.filterMap_cons]at h ⊢
  cases e:f a with
  |none=>
   rw[e]at h
   have:=List.length_filterMap_le f l
   simp at h
   omega
  |some b=>
   rw[e]at h
   simp only[List.length_cons,Nat.add_right_cancel_iff]at h
   rw[List.map_cons,e,List.map_cons,xI6 f h]
theorem xW8 {sc:Scope} {f:Expr->Option Str} (hf:∀ e x,f e=some x->∃ pos,e=.Name x pos/\sc.names.lookup x=some .local):∀{ts:List T1} {es:List Expr} {names:List Str},mTs sc ts es=true->es.map f=names.map some->
  ∃ xs:List Nat,ts=xs.map .loc/\names=xs.map nm/\qN4 ts=xs/\∀ x∈xs,qX8 sc (nm x) .local=true:=@fun ξ=>no_implicit_lambda%(match @ξ with
 |[]=>@fun es names h e=>by
  rw[qR5 h]at e
  have:names=[]:=by simpa using e.symm
  subst this
  exact ⟨[],rfl,rfl,rfl,fun J h=>nomatch h⟩
 |t::ts=>@fun es names h e=>by
  obtain ⟨e0,r,rfl,hn,h1,h2⟩:=qL4 h
  cases names with
  |nil=>simp at e
  |cons nme names=>
   rw[List.map_cons,List.map_cons]at e
   obtain ⟨e1,e2⟩:=List.cons.inj e
   obtain ⟨xs,g1,g2,g3,g4⟩:=xW8 hf h2 e2
   obtain ⟨pos,rfl,hl⟩:=hf _ _ e1
   cases t with
   |loc x=>
    obtain ⟨p,hp,hk⟩:=qG6 h1
    (injection hp with hp;subst hp)
    refine ⟨x::xs,by rw[g1];rfl,by rw[g2];rfl,congrArg (x::·) g3,fun y hy=>?_⟩
    rcases List.mem_cons.mp hy with rfl|hy
    ·unfold qX8
     rw[hl]
     decide
    ·exact g4 y hy
   |attr o a=>
    obtain ⟨w,p,hp,J⟩:=qY8 h1
    injection hp
   |sub o i=>
    obtain ⟨w,j,p,hp,J⟩:=qG7 h1
    injection hp
 )
theorem zQ2 {env:Env} {es:List Expr} {k:Nat} {p:Pos} {value:Expr} (h:∀ vs kk pv,value≠.Tuple vs kk pv):swappedStores [.Tuple es k p] value env=pure none:=by
 cases value<;>first|rfl|exact absurd rfl (h _ _ _)
theorem wM2 {c:Prop} [Decidable c] {α:Type} {x y:α} {P:α->Prop} (h1:c->P x) (h2:¬c->P y):P (if c then x else y):=by
 by_cases h:c
 ·rw[if_pos h];exact h1 h
 ·rw[if_neg h];exact h2 h
theorem zZ7 {α:Type} {c:Prop} [Decidable c] {a b:α} (h:(if c then some a else none)=some b):c/\a=b:=by
 by_cases q:c
 ·rw[if_pos q]at h;exact ⟨q,Option.some.inj h⟩
 ·rw[if_neg q]at h;injection h
theorem b23:∀{n:Nat} {b c:Bool},¬(!(n==2 || n==3) || b || c)=true->2<=n:=@fun ξ=>no_implicit_lambda%(match @ξ with
 |0=>@fun J J2 h=>absurd rfl h
 |1=>@fun J J2 h=>absurd rfl h
 |J+2=>@fun J2 J3 J4=>Nat.le_add_left _ _
 )
theorem jX8 {n:Nat} {a f:Bool} (h:(decide (n<=8)&&!(decide (n≥2)&&(a&&!f)))=true) (h2:2<=n) (ha:a=true):f=true:=by
 subst ha
 cases f with
 |true=>rfl
 |false=>
  rw[decide_eq_true h2,Bool.and_eq_true]at h
  exact nf h.2
theorem yA8 {a b:Nat} {c:Bool} (h:¬(a != b || c)=true):a=b:=Decidable.byContradiction fun n=>h (by rw[bne_iff_ne.mpr n];rfl)
noncomputable def SwP (sc:Scope) (ts:List T1) (r:Sem (Option (List Str))):Prop:=r=pure none∨∃ xs:List Nat,r=pure (some (xs.map nm))/\ts=xs.map .loc/\qN4 ts=xs/\∀ x∈xs,qX8 sc (nm x) .local=true
theorem zV1 {env:Env} {ts:List T1} {es:List Expr} {k:Nat} {p:Pos} {value:Expr} (hm:mTs env.scope ts es=true) (ht:xY3 (.Tuple es k p) value=true) :
  SwP env.scope ts (swappedStores [.Tuple es k p] value env):=by
 rcases Classical.em (∃ vs kk pv,value=.Tuple vs kk pv) with ⟨vs,kk,pv,rfl⟩|hn
 rotate_left
 ·exact .inl (zQ2 fun vs kk pv e=>hn ⟨vs,kk,pv,e⟩)
 delta swappedStores
 dsimp only
 refine wM2 (P:=SwP env.scope ts) (fun J=>.inl rfl) fun c1=>?_
 refine wM2 (P:=SwP env.scope ts) (fun J=>.inl rfl) fun J=>?_
 refine wM2 (P:=SwP env.scope ts) (fun J=>.inl rfl) fun c3=>?_
 refine wM2 (P:=SwP env.scope ts) (fun J=>.inl rfl) fun c4=>?_
 refine wM2 (P:=SwP env.scope ts) (fun c5=>absurd (jX8 ht (b23 c1) c5) c4) fun J=>?_
 obtain ⟨xs,g1,g2,g3,g4⟩:=xW8 (fun e x h=>by
  cases e<;>first|(injection h;done)|skip
  obtain ⟨q,rfl⟩:=zZ7 h
  exact ⟨_,rfl,eq_of_beq (Bool.and_eq_true _ _▸q).1⟩) hm (xI6 _ (yA8 c3))
 exact .inr ⟨xs,congrArg (fun l=>(pure (some l):Sem (Option (List Str)))) g2,g1,g3,g4⟩
section
variable {c:Cx} {A:Around} {n:Nat} {env:Env} {sp:Sp}
theorem wQ2 (O:Ok c A n) (V:qQ2 c env):∀{ps:List (Nat×AV)} {φ:FP} {H:AH} {lc:Loc} {s:Shared} {vs:List Value} {Q:Unit->Shared->Prop},(∀ p∈ps,qX8 env.scope (nm p.1) .local=true)->Now c φ H lc s->qQ4 φ (ps.map (·.2)) vs->
  (∀ s',Now c φ H (qS3 lc ps) s'->Q () s')->wpAny (MM c) A (assignInOrder (ps.map fun p=>bindName env (nm p.1)) vs) Q NoE s:=@fun ξ=>no_implicit_lambda%(match @ξ with
 |[]=>@fun φ H lc s vs Q J N hv q=>by
  subst hv
  exact wpAny_pure (q s N)
 |p::ps=>@fun φ H lc s vs Q hk N hv q=>by
  obtain ⟨v,r,rfl,h1,h2⟩:=hv
  rw[List.map_cons,assignInOrder]
  refine wpAny_bind (wpAny_holding (qI5 O V N (.inl (hk p (.head _))) h1 fun s' N'=>?_))
  exact wQ2 O V (fun p hp=>hk p (.tail _ hp)) N' h2 q
 )
theorem zW7 {v tg:Expr} {ln:Nat} {env:Env} (hc:wA6 v=true):swapsWith v (some tg) ln env=pure false:=by cases v<;>first|rfl|exact nf hc
theorem yB6 {sc:Scope} {t:T} {tg:Expr} (h:mT sc t tg=true):qZ5 tg=true:=by
 cases t with
 |one t=>cases t with
  |loc x=>obtain ⟨J,rfl,J⟩:=qG6 h;rfl
  |attr o a=>obtain ⟨J,J,rfl,J⟩:=qY8 h;rfl
  |sub o i=>obtain ⟨J,J,J,rfl,J⟩:=qG7 h;rfl
 |slice o lo hi=>obtain ⟨J,J,J,J,J,rfl,J⟩:=xZ4 h;rfl
 |tup ts=>obtain ⟨J,J,J,rfl,J⟩:=wG2 h;rfl
theorem zF8 {sc:Scope} {t:T1} {tg v:Expr} {env:Env} (h:mT1 sc t tg=true):swappedStores [tg] v env=pure none:=by
 cases t with
 |loc x=>obtain ⟨J,rfl,J⟩:=qG6 h;rfl
 |attr o a=>obtain ⟨J,J,rfl,J⟩:=qY8 h;rfl
 |sub o i=>obtain ⟨J,J,J,rfl,J⟩:=qG7 h;rfl
section
variable {P:Prop}
theorem zU5 {a b c d:AV} {H:AH} {A:Nat->Nat->Int->Int->List Int->List Int->Prop} (h:match a,b,c,d with|.obj k,.int i,.int j,.obj l=>(match qQ0 H k,qQ0 H l with|.il xs,.il ys=>A k l i j xs ys|J,J2=>False)|J,J2,J3,J4=>False)
  (q:∀ k l i j xs ys,a=.obj k->b=.int i->c=.int j->d=.obj l->qQ0 H k=.il xs->qQ0 H l=.il ys->A k l i j xs ys->P):P:=by
 cases a<;>first|exact False.elim h|skip
 cases b<;>first|exact False.elim h|skip
 cases c<;>first|exact False.elim h|skip
 cases d<;>first|exact False.elim h|exact xM2 h fun xs ys=>q _ _ _ _ xs ys rfl rfl rfl rfl
theorem zH7 {o:AO} {A:List AV->Prop} (h:match o with|.tp xs=>A xs|_=>False) (q:∀ xs,o=.tp xs->A xs->P):P:=by
 cases o<;>first|exact False.elim h|exact q _ rfl h
end
theorem zQ3 (S:qY4 n sp) (O:Ok c A (n+1)) (V:qQ2 c env) {t:T} {e:X} {tg v:Expr} {pos:Pos} {φ:FP} {H:AH} {lc:Loc} {s:Shared} {K:Loc->AH->Prop} (hm:mT env.scope t tg=true) (hc:wA6 v=true) (ht:xY3 tg v=true) (hx:mX env.scope e v=true)
  (N:Now c φ H lc s) (h:ev sp e lc H fun av H=>asg sp t av lc H K):wpAny (MM c) A (exec (.Assign [tg] v pos) env) (fun f s'=>f=.next/\qC1 c φ K () s') NoE s:=by
 have hsw:swapsWithSole [tg] v pos.line env=pure false:=zW7 hc
 rw[arm_exec_Assign]
 refine wpAny_bind (wpAny_standAt ?_)
 rw[hsw]
 refine wpAny_bind (wpAny_pure ?_)
 first|refine xJ6 (by decide) ?_|refine wQ5 (by decide) ?_|rw[if_neg (by decide)]
 refine wpAny_bind (qQ9 (qD5 S O V e hx N h) fun u s' φ' H' av x N' hv k=>?_)
 have plain:swappedStores [tg] v env=pure none->wpAny (MM c) A (assign tg env u) (qC1 c φ' K) NoE s'->wpAny (MM c) A (do assignStores env u (<-swappedStores [tg] v env) ((assignEach [tg] env).map (·.2))) (fun f s'=>f=.next/\qC1 c φ K () s') NoE s':=by
  intro hs ha
  rw[hs]
  refine wpAny_bind (wpAny_pure ?_)
  rw[wP0 (yB6 hm)]
  show wpAny (MM c) A (do assignAll u [assign tg env];pure Flow.next) _ _ s'
  exact wpAny_bind (wpAny_mono ha (fun J J g=>wpAny_pure ⟨rfl,g.up x⟩) fun J J e=>e)
 cases t with
 |one t=>
  exact plain (zF8 hm) (wS0 S O V hm N' hv k)
 |slice o lo hi=>
  obtain ⟨w,l,u',spp,p,rfl,h1,h2,h3⟩:=xZ4 hm
  refine plain rfl ?_
  rw[assign_Subscript]
  refine wpAny_bind (wpAny_holding (qQ9 (qD5 S O V o h1 N' k) fun ov sC φC H₂ oav xC NC ho kC=>?_))
  refine wpAny_bind (wpAny_holding (wpAny_Slice ?_))
  rw[evalPart_some,evalPart_some]
  refine qQ9 (qD5 S O V lo h2 NC kC) fun lv sD φD HD lav xD ND hl kD=>?_
  refine qQ9 (qD5 S O V hi h3 ND kD) fun hv' sE φE HE hav xE NE hh kE=>?_
  rw[evalPart_none]
  refine wpAny_pure ?_
  refine wpAny_bind (wpAny_standAt (wpAny_bind (wpAny_holding ?_)))
  refine zU5 kE fun k l i j xs ys a1 a2 a3 a4 e1 e2 kE=>?_
  exact wL0 NE e1 e2 (a1▸(ho.mono xD).mono xE) (a4▸((hv.mono xC).mono xD).mono xE) (a2▸hl.mono xE) (a3▸hh) kE.1 kE.2.1 kE.2.2.1 kE.2.2.2.1 fun s₅ NF=>wpAny_release ⟨φE,_,lc,(xC.trans xD).trans xE,NF,kE.2.2.2.2⟩
 |tup ts=>
  obtain ⟨es,kk,p,rfl,h1,h2⟩:=wG2 hm
  refine qB8 k fun kk' e0 k=>zH7 k fun avs e1 k=>qK3 k fun e2 k=>?_
  obtain ⟨xx,its,m,rfl,g1,g2⟩:=zT4 N' e1 (e0▸hv)
  have ht':IsTup s'.heap xx its:=⟨_,g1,rfl,m,rfl⟩
  obtain ⟨p1,p2,p3⟩:=qN0 (env:=env) h1
  have hz:es.length=its.size:=by
   have a1:=g2.len
   have a2:=beq_eq e2
   simp only[Array.length_toList]at a1
   omega
  have keepN:∀ h',Heap.ExtBut s'.heap.objs.size s'.heap h'->Now c φ' H' lc {s' with heap:=h'}:=fun h' hk=>N'.keep (s':={s' with heap:=h'}) (fun a o e=>hk a o (Nat.ne_of_lt (Heap.lt_size e)) e) rfl rfl
  rcases zV1 h1 ht with hs|⟨xs,hs,rfl,hlo,hloc⟩
  ·refine plain hs ?_
   exact assign_Tuple_tuple O.room.hand ht' (by rw[p2,hz]) p1 fun h' hk=>xK1 S O V h1 (keepN h' hk) g2 k
  ·rw[hs]
   refine wpAny_bind (wpAny_pure ?_)
   obtain ⟨q1,q2⟩:=wW8 k
   have nd:xs.Nodup:=qC7 (by rw[<-hlo];exact h2)
   show wpAny (MM c) A (do
    rule "assign.swapped-stores"
    let items <-unpackItems (.ref xx) (xs.map nm).length none
    assignInOrder ((xs.map nm).reverse.map fun n=>bindName env n) items.reverse
    pure Flow.next) _ _ s'
   have hlen:(xs.map nm).length=its.size:=by
    have a1:=g2.len
    simp only[Array.length_toList]at a1
    simp;omega
   rw[hlen]
   refine wpAny_bind (wpAny_rule (wpAny_bind (unpackItems_tuple O.room.hand ht' fun h' hk=>?_)))
   refine wpAny_bind ?_
   have eq:((xs.map nm).reverse.map fun n=>bindName env n)=((xs.zip avs).reverse.map fun p=>bindName env (nm p.1)):=by
    rw[<-List.map_reverse,List.map_map]
    have:(xs.zip avs).reverse.map (fun p=>bindName env (nm p.1))=((xs.zip avs).map Prod.fst).reverse.map fun x=>bindName env (nm x):=by
     rw[<-List.map_reverse,List.map_map];rfl
    rw[this,List.map_fst_zip (by exact Nat.not_lt.mp fun gz=>lin [_,_] [] [(1,.nl (.v 0) (.v 1)),(1,.nl (.a (.v 1) (.c 1)) (.v 0))] rfl (Nat.le_of_eq q1.symm) gz)]
    rfl
   rw[eq]
   refine wQ2 O V (fun p hp=>hloc p.1 ?_) (keepN h' hk) ?_ fun sC NC=>wpAny_pure ⟨rfl,φ',H',qS3 lc (xs.zip avs),x,NC.locEq (fun y av e=>?_),q2⟩
   ·have:=List.mem_reverse.mp hp
    exact (List.of_mem_zip this).1
   ·have:(xs.zip avs).reverse.map (·.2)=avs.reverse:=by
     rw[List.map_reverse]
     exact congrArg List.reverse (List.map_snd_zip (by exact Nat.not_lt.mp fun gz=>lin [_,_] [] [(1,.nl (.v 0) (.v 1)),(1,.nl (.a (.v 1) (.c 1)) (.v 0))] rfl (Nat.le_of_eq q1) gz))
    rw[this]
    exact g2.rev
   ·rw[<-zF5 _ _ _ (by rw[show (fun(x:Nat×AV)=>x.1)=Prod.fst from rfl,List.map_fst_zip (by exact Nat.not_lt.mp fun gz=>lin [_,_] [] [(1,.nl (.v 0) (.v 1)),(1,.nl (.a (.v 1) (.c 1)) (.v 0))] rfl (Nat.le_of_eq q1.symm) gz)];exact nd)]
    exact e
end
section
variable {c:Cx} {A:Around} {n:Nat} {env:Env} {sp:Sp}
theorem wP2 (O:Ok c A n) (V:qQ2 c env) {x:Nat} {p:Pos} {φ:FP} {H:AH} {lc:Loc} {s:Shared} {av:AV} {v:Value} {C:Addr} {mm:Str->Option Value} {Q:Shared->Prop} (hk:qX8 env.scope (nm x) .local=true) (N:Now c φ H lc s) (UC:qV5 c φ C) (hC:s.heap.Ns C mm)
  (hv:qQ1 φ av v) (q:∀ sC,Now c φ H (st lc x av) sC->Q sC) :
  wpAny (MM c) A (assign (.Name (nm x) p) env v) (fun J s''=>∃ m,s''.heap.Ns C m/\∀ h',Heap.SameBut C s''.heap h'->Q {s'' with heap:=h'}) NoE s:=by
 show wpAny (MM c) A (do standAt p;bindName env (nm x) v) _ _ s
 have N1:=N.rebase
 refine wpAny_bind (wpAny_standAt (qI5 (c:={c with h₀:=s.heap,φ₀:=φ}) (O.re s.heap φ) (V.re s.heap φ) N1 (.inl hk) hv fun s' N2=>?_))
 have N3:=N.back0 N2
 have UC':qV5 c φ C:=⟨UC.fl,UC.b,UC.h,UC.L,UC.ce,UC.fr⟩
 refine ⟨mm,hC.at' fun o e=>N1.kept N2 e UC,fun h' hs=>q _ (N3.touch (s':={s' with heap:=h'}) UC' (fun b o nb eb=>(hs.2 b nb).trans eb) rfl rfl)⟩
theorem wT7 {e:X} (h:wA5 e=true):∃ rng y fv src ifs elt,e=.comp rng y fv src ifs elt:=by
 cases e<;>first|exact nf h|exact ⟨_,_,_,_,_,_,rfl⟩
theorem yY8 {P:Prop} {p:Pos} {t:Str} {v:Expr} (h:yJ5 p t v=true) (q:∀ el gs s q,v=.ListComp el gs s q->(p.line==q.line&&!(s.names.any fun(n,k)=>n==t&&(k==.local || k==.cell)))=true->P):P:=
 zC1 h fun el gs s q' e h=>q el gs s q' e h
theorem zQ8 {env:Env} (hk:env.scope.kind=.function) {x:Nat} {p:Pos} {v:Expr} {ln:Nat} (hx:qX8 env.scope (nm x) .local=true) (el:Expr) (gs:List Comprehension) (s:Scope) (q:Pos) (e:v=.ListComp el gs s q) (h:(p.line==q.line&&!(s.names.any fun(n,k)=>n==nm x&&(k==.local || k==.cell)))=true):swapsWith v (some (.Name (nm x) p)) ln env=pure true:=by
 subst e
 show (pure (env.blockKind==.function&&env.kindOf (nm x)==some .local&&_&&_):Sem Bool)=_
 have h1:(env.blockKind==.function)=true:=by
  unfold Env.blockKind
  rw[hk];rfl
 have h2:(env.kindOf (nm x)==some .local)=true:=by
  show (env.scope.names.lookup (nm x)==some .local)=true
  rw[qZ3 hx];rfl
 rw[h1,h2]
 exact congrArg pure h
theorem zK0 (S:qY4 n sp) (O:Ok c A (n+1)) (V:qQ2 c env) {x:Nat} {e:X} {p pos:Pos} {v:Expr} {φ:FP} {H:AH} {lc:Loc} {s:Shared} {K:Loc->AH->Prop} (hk:qX8 env.scope (nm x) .local=true) (hi:wA5 e=true) (hsw:yJ5 p (nm x) v=true) (hx:mX env.scope e v=true)
  (N:Now c φ H lc s) (h:ev sp e lc H fun av H=>K (st lc x av) H):wpAny (MM c) A (exec (.Assign [.Name (nm x) p] v pos) env) (fun f s'=>f=.next/\qC1 c φ K () s') NoE s:=by
 have sw:swapsWith v (some (.Name (nm x) p)) pos.line env=pure true:=yY8 hsw fun el gs s q e h=>zQ8 V.kind hk el gs s q e h
 rw[exec_Assign_Name_used _ _ _ _ sw]
 refine wpAny_bind (wpAny_standAt (wpAny_bind ?_))
 obtain ⟨rng,y,fv,src,ifs,elt,rfl⟩:=wT7 hi
 have ht:∀{scope:Scope} {cs:List Expr},cs.length<=1->mXs (rlb scope env.scope) ifs cs=true->∀(c':Cx) env' φ H lc s K,c'.w=c.w->Ok c' A (n+1)->qQ2 c' env'->env'.scope=rlb scope env.scope->Now c' φ H lc s->cdb sp true ifs lc H K->wpAny (MM c') A (qV4 cs env') (qA7 c' φ lc K) NoE s:=by
  intro scope cs hl hm c' env' φ H lc s K hw O' V' hs N k
  exact wC3 hl (qH8 S ifs O' V' (w:=true) (op:=.And) rfl (by rw[hs];exact hm) N k)
 have fin:∀{φ₁:FP},Ext φ φ₁->∀ φ' H' s' (D C:Addr) mm j,Ext φ₁ φ'->Now c φ' H' lc s'->qV5 c φ' C->s'.heap.Ns C mm->qQ1 φ' (.obj j) (.ref D)->K (st lc x (.obj j)) H'->
   compPost (MM c) A NoE (some (assign (.Name (nm x) p) env)) (fun J sB=>wpAny (MM c) A (pure Flow.next:Sem Flow) (fun f s'=>f=.next/\qC1 c φ K () s') NoE sB) (.ref D) C (.ok .next) s':=by
  intro φ₁ xB φ' H' s' D C mm j x' N' UC hmm hv k'
  exact wP2 O V hk N' UC hmm hv fun sC NC=>wpAny_pure ⟨rfl,φ',H',st lc x (.obj j),xB.trans x',NC,k'⟩
 cases rng with
 |true=>
  obtain ⟨el,px,rp,m,p',cs,scope,pos',rfl,hc,hr,hns,hsx,hl,hm,he⟩:=qU6 hx
  have hc':=qP4 hc
  obtain ⟨cl,hcl,c1,c2⟩:=qA2 V (scope:=scope) fun p hp hf=>by
   obtain ⟨y,hy,e⟩:=hc'.free p hp hf
   rw[e];exact qZ3 (hc'.cells y hy)
  show wpAny (MM c) A (do let _ <-comprehension (.ListComp el [⟨.Name (nm y) px,.Call (.Name (Str.ofString "range") rp) [m] [] p',cs,0⟩] scope pos') scope env _ (newList []) false (eval (.Call (.Name (Str.ofString "range") rp) [m] [] p') env) (some (assign (.Name (nm x) p) env))) _ _ s
  refine wpAny_bind (wpAny_mono (wpAny_comprehension_free (use:=some (assign (.Name (nm x) p) env)) (Q:=fun J sB=>wpAny (MM c) A (pure Flow.next:Sem Flow) (fun f s'=>f=.next/\qC1 c φ K () s') NoE sB) rfl (fun J=>rfl) hcl hc'.kind hc'.loc ?_) (fun J s' hq=>wpAny_pure hq) fun J J e=>e)
  refine wpAny_mono (E:=NoE) (qA1 (KI:=fun i H=>0<=i/\i<=1000/\qZ7 (wX5 i) (fun lc H K=>cdb sp true ifs lc H K) (fun lc H K=>ev sp elt lc H K) y (qD6 lc fv) 64 0 [] H fun vs H'=>K (st lc x (.obj H'.length)) (H'++[mkL vs])) O V hr hns hsx N
   (qQ9 (qD5 S O V src hsx N h) fun v s' φ' H' av x' N' hv k=>⟨φ',H',av,x',N',hv,wP4 k fun m e0 k=>⟨m,e0,k⟩⟩)) (fun u sB g=>?_) fun J J e=>e
  obtain ⟨φ₁,HB,i,r,t,u',v,xB,NB,rfl,hrg,k⟩:=g
  exact qN7 (K:=fun av H=>K (st lc x av) H) O V hc' c1 c2 (ht hl hm) (fun c' env' φ H lc s K hw O' V' hs N k=>qW6 S elt O' V' (by rw[hs];exact he) N k) NB hrg k.1 k.2.1 k.2.2 (fin xB)
 |false=>
  obtain ⟨el,px,it,cs,scope,pos',rfl,hc,hset,hsx,hl,hm,he⟩:=wX6 hx
  have hc':=qP4 hc
  obtain ⟨cl,hcl,c1,c2⟩:=qA2 V (scope:=scope) fun p hp hf=>by
   obtain ⟨y,hy,e⟩:=hc'.free p hp hf
   rw[e];exact qZ3 (hc'.cells y hy)
  show wpAny (MM c) A (do let _ <-comprehension (.ListComp el [⟨.Name (nm y) px,it,cs,0⟩] scope pos') scope env _ (newList []) false (eval it env) (some (assign (.Name (nm x) p) env))) _ _ s
  refine wpAny_bind (wpAny_mono (wpAny_comprehension_free (use:=some (assign (.Name (nm x) p) env)) (Q:=fun J sB=>wpAny (MM c) A (pure Flow.next:Sem Flow) (fun f s'=>f=.next/\qC1 c φ K () s') NoE sB) rfl (qH2 hset) hcl hc'.kind hc'.loc ?_) (fun J s' hq=>wpAny_pure hq) fun J J e=>e)
  refine qQ9 (qD5 S O V src hsx N h) fun u sB φ₁ HB av xB NB hu k=>?_
  refine xX7 k fun m e0 k=>?_
  ·exact wE0 (K:=fun av H=>K (st lc x av) H) O V hc' c1 c2 (ht hl hm) (fun c' env' φ H lc s K hw O' V' hs N k=>qW6 S elt O' V' (by rw[hs];exact he) N k) NB (e0▸hu) k (fin xB)
end
inductive yK6 (c:Cx) (φ:FP) (KR:AV->AH->Prop) (v:Value) (s:Shared):Prop where
 |mk (φ':FP) (H':AH) (lc':Loc) (av:AV) (x:Ext φ φ') (N:Now c φ' H' lc' s) (hv:qQ1 φ' av v) (k:KR av H')
noncomputable def qZ4 (c:Cx) (φ:FP) (KR:AV->AH->Prop) (K:Loc->AH->Prop) (f:Flow) (s:Shared):Prop:=match f with
 |.next=>qC1 c φ K () s
 |.ret v=>yK6 c φ KR v s
 |J=>False
theorem qZ4.up {c:Cx} {KR:AV->AH->Prop} {K:Loc->AH->Prop} {φ φ':FP} (x:Ext φ φ') {f:Flow} {s':Shared} (g:qZ4 c φ' KR K f s'):qZ4 c φ KR K f s':=by
 cases f with
 |next=>exact qC1.up x g
 |ret v=>obtain ⟨φC,H',lc,av,e,N,hv,k⟩:=g;exact ⟨φC,H',lc,av,x.trans e,N,hv,k⟩
 |_=>exact g.elim
noncomputable def qE2 (c:Cx) (A:Around) (n:Nat) (env:Env) (sp:Sp) (KE:AH->Prop) (E:Value->Shared->Prop):Prop:=
 ∀(φ:FP) (H:AH) (lc:Loc) (s:Shared) (xs:Xs) (es:List Expr) (np p pos:Pos),Ok c A (n+1)->qQ2 c env->Now c φ H lc s->mXs env.scope xs es=true->qX8 env.scope (nm qK9) .globalImplicit=true->es.length=2->
  evs sp xs lc H (fun J H=>KE H)->wpAny (MM c) A (exec (.Raise (some (.Call (.Name (nm qK9) np) es [] p)) none pos) env) (fun J J=>False) E s
theorem qE3 (P:Params):(keepIn (KP P) (.ref (qH5 0))&&nsIn (KP P) mainGlobals (nm qK9)==some (some (.ref (qH5 0))))=true:=by kernel_rfl!
theorem qI3:(nm qK9==("__debug__":Str))=false:=by decide +kernel
section
variable {c:Cx} {A:Around} {n:Nat} {env:Env} {sp:Sp}
theorem qW4 (S:qY4 n sp):qE2 c A n env sp (fun J=>False) NoE:=by
 intro φ H lc s xs es np p pos O V N hx hk hl h
 have z:=qE3 c.w.params
 simp only[Bool.and_eq_true,beq_iff_eq]at z
 rw[arm_exec_Raise]
 refine wpAny_bind (wpAny_standAt ?_)
 show wpAny (MM c) A (raiseStmt env (some (do let v <-eval (.Call (.Name (nm qK9) np) es [] p) env;standAt pos;pure v)) none) _ _ s
 have one:wpAny (MM c) A (eval (.Call (.Name (nm qK9) np) es [] p) env) (fun J J=>False) NoE s:=by
  refine Call_ (qJ8 O V N qI3 hk z.2 ?_)
  exact qB6 O hx z.1 (wM5 S O V xs hx N h) fun φ' H' avs vs s' x N' hv k=>k.elim
 unfold raiseStmt
 refine wpAny_bind (wpAny_bind (wpAny_mono one (fun J J x=>x.elim) fun J J x=>x))
theorem qU9 (V:qQ2 c env):interactive env=false:=by
 unfold interactive
 rw[V.kind]
 rfl
end
noncomputable def yI2 (c:Cx) (φ:FP) (KR:AV->AH->Prop) (I:FP->AH->Loc->Shared->Prop) (f:Flow) (s:Shared):Prop:=match f with
 |.next=>∃ φ' H' lc',Ext φ φ'/\Now c φ' H' lc' s/\I φ' H' lc' s
 |.ret v=>∃ φ' H' lc' av,Ext φ φ'/\Now c φ' H' lc' s/\qQ1 φ' av v/\KR av H'
 |J=>False
section
variable {c:Cx} {A:Around} {n:Nat} {env:Env} {sp:Sp}
theorem wY5 {E:Value->Shared->Prop} {test:Expr} {body:List Stmt} {pos:Pos} {φ:FP} {H:AH} {lc:Loc} {s:Shared} {KR:AV->AH->Prop} {K:Loc->AH->Prop} (I:Nat->Loc->AH->Prop) (m:Nat) (h0:I m lc H) (N:Now c φ H lc s)
  (qY6:∀ m φ' H' lc' s',Ext φ φ'->Now c φ' H' lc' s'->I m lc' H'->
   wpAny (MM c) A (isTrue test env (eval test env)) (qA7 c φ' lc' fun b H''=>match b with
    |true=>∀ φC sC,Ext φ' φC->Now c φC H'' lc' sC->wpAny (MM c) A (execs body env) (qZ4 c φC KR fun lc H=>∃ m',m'<m/\I m' lc H) NoE sC
    |false=>K lc' H'') NoE s') :
  wpAny (MM c) A (exec (.While test body [] pos) env) (qZ4 c φ KR K) E s:=by
 refine wpAny_While (codeAny_whileLoop (fun m s'=>∃ φ' H' lc',Ext φ φ'/\Now c φ' H' lc' s'/\I m lc' H') (fun m s' ⟨φ',H',lc',x,N',hI⟩=>?_) m ⟨φ,H,lc,Ext.refl φ,N,h0⟩)
 refine wpAny_mono (qY6 m φ' H' lc' s' x N' hI) (fun b sC ⟨φC,H₂,xC,NC,k⟩=>?_) fun J J e=>e.elim
 cases b with
 |false=>exact wpAny_execs_nil ⟨φC,H₂,lc',x.trans xC,NC,k⟩
 |true=>
  refine wpAny_mono (k φC sC xC NC) (fun f sD g=>?_) fun J J e=>e.elim
  cases f with
  |next=>obtain ⟨φD,HD,lcD,xD,ND,m',h1,h2⟩:=g;exact ⟨m',h1,φD,HD,lcD,(x.trans xC).trans xD,ND,h2⟩
  |ret v=>exact qZ4.up (x.trans xC) (c:=c) (f:=.ret v) g
  |_=>exact g.elim
theorem qR6 (O:Ok c A (n+1)) (V:qQ2 c env) {x:Nat} {px:Pos} {body:List Stmt} {φ:FP} {H:AH} {lc:Loc} {s:Shared} {it:Addr} {oi:Obj} {av:AV} {v:Value} {KR:AV->AH->Prop} {K:Loc->AH->Prop} {Q:Flow->Shared->Prop}
  (hk:qX8 env.scope (nm x) .local=true) (N:Now c φ H lc s) (U:qV5 c φ it) (hi:s.heap.get? it=some oi) (hv:qQ1 φ av v)
  (hb:∀ s',Now {c with h₀:=s.heap,φ₀:=φ} φ H (st lc x av) s'->wpAny (MM c) A (execs body env) (qZ4 {c with h₀:=s.heap,φ₀:=φ} φ KR K) NoE s')
  (q1:∀ φ' H' lc' s',Ext φ φ'->Now c φ' H' lc' s'->qV5 c φ' it->s'.heap.get? it=some oi->K lc' H'->Q .next s')
  (q2:∀ v s',qZ4 c φ KR K (.ret v) s'->Q (.ret v) s') :
  wpAny (MM c) A (assign (.Name (nm x) px) env v) (fun J sC=>wpAny (MM c) A (execs body env) Q NoE sC) NoE s:=by
 have N1:=N.rebase
 show wpAny (MM c) A (do standAt px;bindName env (nm x) v) _ _ s
 refine wpAny_bind (wpAny_standAt (qI5 (c:={c with h₀:=s.heap,φ₀:=φ}) (O.re s.heap φ) (V.re s.heap φ) N1 (.inl hk) hv fun s' N2=>?_))
 refine wpAny_mono (hb s' N2) (fun f sC g=>?_) fun J J e=>e
 cases f with
 |next=>
  obtain ⟨φ',H',lc',x',N3,k⟩:=g
  exact q1 φ' H' lc' sC x' (N.back0 N3) (U.on N3 hi) (N1.kept N3 hi U) k
 |ret v=>
  obtain ⟨φ',H',lc',av,x',N3,hv',k⟩:=g
  exact q2 v sC ⟨φ',H',lc',av,x',N.back0 N3,hv',k⟩
 |_=>exact g.elim
noncomputable def lIt (ax:Addr) (i:Nat) (o:Obj):Prop:=o.cls=.type "list_iterator"/\o.data=.fields #[.ref ax,.int i 0]
noncomputable abbrev yH2 (c:Cx) (A:Around) (env:Env) (x:Nat) (px:Pos) (body:List Stmt) (φ:FP) (KR:AV->AH->Prop) (K:Loc->AH->Prop) (E:Value->Shared->Prop) (u:Value) (s:Shared):Prop:=
 wpAny (MM c) A (pyIter u) (fun it sC=>codeAny (MM c) A (.forLoop (.Name (nm x) px) it body [] env) (fun r s'=>match r with|.ok f=>qZ4 c φ KR K f s'|.error e=>cameBackBy (MM c) A env E e s') sC) E s
set_option tactic.hygienic true in
theorem qU7 {P:Prop} {B:Loc->AH->(Loc->AH->Prop)->Prop} {x k m i:Nat} {lc:Loc} {H:AH} {K:Loc->AH->Prop} (h:qE1 B x k (m+1) i lc H K) (q1:qQ0 H k=.il []->K lc H->P)
  (q2:∀ xs,qQ0 H k=.vl xs->(match qU0 xs i with|some v=>B (st lc x v) H fun lc H=>qE1 B x k m (i+1) lc H K|none=>K lc H)->P):P:=by
 have key:∀{o:AO},(match o with|.il []=>K lc H|.vl xs=>(match qU0 xs i with|some v=>B (st lc x v) H fun lc H=>qE1 B x k m (i+1) lc H K|none=>K lc H)|_=>False)->qQ0 H k=o->P:=fun {o} h e=>by
  cases o<;>first|exact False.elim h|exact q2 _ e h|skip
  rename_i xs
  cases xs with
  |nil=>exact q1 e h
  |cons a r=>exact False.elim h
 exact key h rfl
inductive zU6 (c:Cx) (φ₁:FP) (it ax:Addr) (B:Loc->AH->(Loc->AH->Prop)->Prop) (x k:Nat) (K:Loc->AH->Prop) (m:Nat) (s:Shared):Prop
 |mk (φ':FP) (H':AH) (lc':Loc) (i:Nat) (oi:Obj) (x':Ext φ₁ φ') (N:Now c φ' H' lc' s) (U:qV5 c φ' it) (hi:s.heap.get? it=some oi) (hl:lIt ax i oi) (q:qE1 B x k m i lc' H' K)
set_option tactic.hygienic true in
theorem zW5 {E:Value->Shared->Prop} (O:Ok c A (n+1)) (V:qQ2 c env) {x:Nat} {px:Pos} {body:List Stmt} {φ φ₁:FP} {HB:AH} {lc:Loc} {sB:Shared} {u:Value} {KR:AV->AH->Prop} {K:Loc->AH->Prop} {k:Nat} {m:Nat} {B:Loc->AH->(Loc->AH->Prop)->Prop}
  (hk:qX8 env.scope (nm x) .local=true) (xB:Ext φ φ₁) (NB:Now c φ₁ HB lc sB) (hu:qQ1 φ₁ (.obj k) u) (hkind:qQ0 HB k=.il []∨∃ xs,qQ0 HB k=.vl xs) (hl:qE1 B x k m 0 lc HB K)
  (hb:∀(c':Cx) φ' H' lc' s' K',c'.w=c.w->Ok c' A (n+1)->qQ2 c' env->Now c' φ' H' lc' s'->B lc' H' K'->wpAny (MM c') A (execs body env) (qZ4 c' φ' KR K') NoE s') :
  yH2 c A env x px body φ KR K E u sB:=by
 obtain ⟨ax,its,mm,rfl,hget⟩:∃ ax its mm,u=.ref ax/\sB.heap.get? ax=some (wX2 its mm):=by
  rcases hkind with e|⟨xs,e⟩
  ·obtain ⟨ax,its,mm,e',J,h1,J⟩:=qV7 NB e hu;exact ⟨ax,its,mm,e',h1⟩
  ·obtain ⟨ax,its,mm,e',J,h1,J⟩:=qP6 NB e hu;exact ⟨ax,its,mm,e',h1⟩
 refine wpAny_pyIter_list ⟨_,hget,rfl,mm,rfl⟩ ?_
 have U0:qV5 c φ₁ sB.heap.objs.size:=NB.untr qQ7
 have N2:=NB.push {cls:=.type "list_iterator", data:=.fields #[.ref ax,.int 0 0]}
 refine codeAny_forLoop (zU6 c φ₁ sB.heap.objs.size ax B x k K) (fun m s' hI=>?_) m
  ⟨φ₁,HB,lc,0,_,Ext.refl φ₁,N2,U0,Heap.get?_push_size _ rfl,⟨rfl,rfl⟩,hl⟩
 obtain ⟨φ',H',lc',i,oi,x',N',U',hi,hli,hl'⟩:=hI
 have hv':=hu.mono x'
 cases m with
 |zero=>exact hl'.elim
 |succ m=>
  refine qU7 hl' (fun e hl'=>?_) fun xs e hl'=>?_
  ·obtain ⟨ax',its',mm',eq,J,h1,h2,J⟩:=qV7 N' e hv'
   (injection eq with eq;subst eq)
   have hz:its'.size=0:=(Array.length_toList).symm.trans h2.length
   refine wpAny_pyNext_list_end (items:=its') O.room.hand ⟨oi,hi,hli.1,hli.2⟩ ⟨_,h1,rfl,mm',rfl⟩ (by rw[Array.eq_empty_of_size_eq_zero hz];rfl) fun h' hk'=>?_
   exact wpAny_execs_nil ⟨φ',H',lc',xB.trans x',N'.touch (s':={s' with heap:=h'}) U' (fun b o nb eb=>hk' b o nb eb) rfl rfl,hl'⟩
  ·obtain ⟨ax',its',mm',eq,J,h1,h2,J⟩:=qP6 N' e hv'
   (injection eq with eq;subst eq)
   rcases wN4 i h2 with ⟨g1,g2⟩|⟨av,v,g1,g2,g3⟩
   ·rw[g1]at hl'
    refine wpAny_pyNext_list_end (items:=its') O.room.hand ⟨oi,hi,hli.1,hli.2⟩ ⟨_,h1,rfl,mm',rfl⟩ (by simpa using g2) fun h' hk'=>?_
    exact wpAny_execs_nil ⟨φ',H',lc',xB.trans x',N'.touch (s':={s' with heap:=h'}) U' (fun b o nb eb=>hk' b o nb eb) rfl rfl,hl'⟩
   ·rw[g1]at hl'
    refine wpAny_pyNext_list_item (items:=its') ⟨oi,hi,hli.1,hli.2⟩ ⟨_,h1,rfl,mm',rfl⟩ (by simpa using g2) fun h' hit' hs'=>?_
    have N3:Now c φ' H' lc' {s' with heap:=h'}:=N'.touch (s':={s' with heap:=h'}) U' (fun b o nb eb=>(hs'.2 b nb).trans eb) rfl rfl
    obtain ⟨oj,hj,hj1,hj2⟩:=hit'
    refine wpAny_mono (qR6 (s:={s' with heap:=h'}) O V hk N3 U' hj g3 (fun sC N4=>hb {c with h₀:=h',φ₀:=φ'} _ _ _ sC _ rfl (O.re _ _) (V.re _ _) N4 hl') (Q:=fun f sD=>match f with
      |.next|.cont=>∃ m',m'<m+1/\zU6 c φ₁ sB.heap.objs.size ax B x k K m' sD
      |.brk=>qZ4 c φ KR K .next sD
      |.ret v=>qZ4 c φ KR K (.ret v) sD)
     (fun φC H₂ lcC sD xC N4 U4 h4 k4=>⟨m,Nat.lt_succ_self _,φC,H₂,lcC,i+1,oj,x'.trans xC,N4,U4,h4,⟨hj1,by rw[hj2]⟩,k4⟩)
     (fun v sD g=>qZ4.up (c:=c) (f:=.ret v) (xB.trans x') g)) (fun J sC g=>wpAny_mono g (fun f sD z=>?_) fun J J e=>e.elim) fun J J e=>e.elim
    cases f<;>exact z
end
section
variable {c:Cx} {A:Around} {n:Nat} {env:Env} {sp:Sp}
inductive zS9 (c:Cx) (d:Addr) (o:Obj) (φ₁:FP) (it:Addr) (kl ep:Nat) (es:List (List Nat×AV)) (B:Loc->AH->(Loc->AH->Prop)->Prop) (x k:Nat) (K:Loc->AH->Prop) (m:Nat) (s:Shared):Prop
 |mk (φ':FP) (H':AH) (lc':Loc) (i:Nat) (x':Ext φ₁ φ') (N:Now {c with fz:=(d,o)::c.fz} φ' H' lc' s) (U:qV5 c φ' it) (h:s.heap.IsKeyIter it d i kl ep) (hi:i<=es.length) (e:m=es.length+1-i)
  (q:wV8 B x (es.drop i) lc' H' fun lc H=>match qQ0 H k with|.fd J=>K lc (qX7 H k (.sd es))|_=>False)
theorem zK8 {o:AO} {A:Prop} (h:match o with|.fd J=>A|_=>False):∃ es,o=.fd es/\A:=by
 cases o<;>first|exact False.elim h|exact ⟨_,rfl,h⟩
theorem xT2 {E:Value->Shared->Prop} (O:Ok c A (n+1)) (V:qQ2 c env) {x:Nat} {px:Pos} {body:List Stmt} {φ φ₁:FP} {HB:AH} {lc:Loc} {sB:Shared} {u:Value} {KR':AV->AH->Prop} {K:Loc->AH->Prop} {k:Nat} {es:List (List Nat×AV)} {B:Loc->AH->(Loc->AH->Prop)->Prop}
  (hk:qX8 env.scope (nm x) .local=true) (xB:Ext φ φ₁) (NB:Now c φ₁ HB lc sB) (hu:qQ1 φ₁ (.obj k) u) (he:qQ0 HB k=.sd es)
  (hl:wV8 B x es lc (qX7 HB k (.fd es)) fun lc H=>match qQ0 H k with|.fd J=>K lc (qX7 H k (.sd es))|_=>False)
  (hb:∀(c':Cx) φ' H' lc' s' K',c'.w=c.w->Ok c' A (n+1)->qQ2 c' env->Now c' φ' H' lc' s'->B lc' H' K'->wpAny (MM c') A (execs body env) (qZ4 c' φ' (fun J J=>False) K') NoE s') :
  yH2 c A env x px body φ KR' K E u sB:=by
 obtain ⟨d,kv,rfl,hf,hd,hkr,hnd,hlen⟩:=qI1 NB he hu
 obtain ⟨ep,hda⟩:=hd.dictAt
 obtain ⟨o,ho,hback⟩:=wY6 hda
 have lo:=qM1 O NB hf
 refine wpAny_pyIter_dict (knd:=SK c.w) lo hda ?_
 have U0:qV5 c φ₁ sB.heap.objs.size:=NB.untr qQ7
 have N2:=NB.push {cls:=.type "dict_keyiterator", data:=.fields #[.ref d,.int 0 0,.int kv.length 0,.int ep 0]}
 have N3:=N2.freeze he hf (Heap.get?_push_of_some _ ho)
 have Of:=O.fz ((d,o)::c.fz)
 have Vf:=V.fz ((d,o)::c.fz)
 have kvlen:=hkr.len
 refine codeAny_forLoop (zS9 c d o φ₁ sB.heap.objs.size kv.length ep es B x k K) (fun m s' hI=>?_) (es.length+1)
  ⟨φ₁,_,lc,0,Ext.refl φ₁,N3,U0,⟨_,Heap.get?_push_size _ rfl,rfl,rfl⟩,Nat.zero_le _,rfl,by simpa using hl⟩
 obtain ⟨φ',H',lc',i,x',N',U',hit',hi,rfl,hl'⟩:=hI
 have hdo:s'.heap.get? d=some o:=N'.fz (d,o) (.head _)
 have hda':=hback s'.heap hdo
 cases hei:es[i]? with
 |none=>
  have hin:i=es.length:=Nat.le_antisymm hi (by simpa using hei)
  have hdr:es.drop i=[]:=by rw[hin];simp
  rw[hdr]at hl'
  obtain ⟨es',e',hl'⟩:=zK8 hl'
  refine wpAny_pyNext_dict_end O.room.hand hit' hda' (List.getElem?_eq_none (by exact Nat.not_lt.mp fun gz=>lin [_,_,_] [] [(1,.nl (.v 0) (.v 1)),(1,.nl (.v 1) (.v 2)),(1,.nl (.a (.v 2) (.c 1)) (.v 0))] rfl (Nat.le_of_eq kvlen) (Nat.le_of_eq hin.symm) gz)) fun h' hk'=>?_
  have hdI:d≠sB.heap.objs.size:=Nat.ne_of_lt (Heap.lt_size ho)
  have N4:Now {c with fz:=(d,o)::c.fz} φ' H' lc' {s' with heap:=h'}:=N'.touch (s':={s' with heap:=h'}) ⟨U'.fl,U'.b,U'.h,U'.L,U'.ce,U'.fr⟩ (fun b o nb eb=>hk' b o nb eb) rfl rfl
  exact wpAny_execs_nil ⟨φ',_,lc',xB.trans x',NB.thaw he hf x' N4 e' (hback h' (hk' d o hdI hdo)).dictOf hkr hnd hlen,hl'⟩
 |some en=>
  have hlt:i<es.length:=(List.getElem?_eq_some_iff.mp hei).1
  obtain ⟨v,hv⟩:=xW9 i hkr hei
  have hdr:es.drop i=en::es.drop (i+1):=by
   rw[List.drop_eq_getElem_cons hlt]
   congr 1
   rw[List.getElem?_eq_getElem hlt]at hei
   exact Option.some.inj hei
  rw[hdr]at hl'
  refine wpAny_pyNext_dict_item hit' hda' hv fun key h' hkey hit2 hs'=>?_
  obtain ⟨t,rfl⟩:=Value.isStrOf_shape hkey
  have N4:Now {c with fz:=(d,o)::c.fz} φ' H' lc' {s' with heap:=h'}:=N'.touch (s':={s' with heap:=h'}) ⟨U'.fl,U'.b,U'.h,U'.L,U'.ce,U'.fr⟩ (fun b o nb eb=>(hs'.2 b nb).trans eb) rfl rfl
  obtain ⟨oj,hj,hj1⟩:=hit2
  refine wpAny_mono (qR6 (c:={c with fz:=(d,o)::c.fz}) (s:={s' with heap:=h'}) Of Vf hk N4 ⟨U'.fl,U'.b,U'.h,U'.L,U'.ce,U'.fr⟩ hj (av:=.str en.1) ⟨t,rfl⟩
    (fun sC N5=>hb {c with fz:=(d,o)::c.fz,h₀:=h',φ₀:=φ'} _ _ _ sC _ rfl (Of.re _ _) (Vf.re _ _) N5 hl') (Q:=fun f sD=>match f with
     |.next|.cont=>∃ m',m'<es.length+1-i/\zS9 c d o φ₁ sB.heap.objs.size kv.length ep es B x k K m' sD
     |.brk=>qZ4 c φ KR' K .next sD
     |.ret v=>qZ4 c φ KR' K (.ret v) sD)
    (fun φC H₂ lcC sD xC N5 U5 h5 k5=>⟨_,by omega,φC,H₂,lcC,i+1,x'.trans xC,N5,⟨U5.fl,U5.b,U5.h,U5.L,U5.ce,U5.fr⟩,⟨oj,h5,hj1⟩,hlt,rfl,k5⟩)
    (fun v sD g=>?_)) (fun J sC g=>wpAny_mono g (fun f sD z=>?_) fun J J e=>e.elim) fun J J e=>e.elim
  ·obtain ⟨J,J,J,J,J,J,J,z⟩:=g
   exact z.elim
  ·cases f<;>exact z
end
section
variable {c:Cx} {A:Around} {n:Nat} {env:Env} {sp:Sp}
theorem wY7 {φ:FP} {lc:Loc} {KI:Int->AH->Prop} {m:Sem Value} {s:Shared} (h:wpAny (MM c) A m (qX1 c φ lc fun v H=>match v with|.int i=>KI i H|_=>False) NoE s):wpAny (MM c) A m (qX1 c φ lc fun v H=>∃ i,v=.int i/\KI i H) NoE s:=
 wpAny_mono h (fun v s' g=>by
  obtain ⟨φ',H',av,x,N',hv,k⟩:=g
  exact ⟨φ',H',av,x,N',hv,qT1 k fun i e k=>⟨i,e,k⟩⟩) fun J J e=>e
theorem xQ2 {P:Prop} {B:Loc->AH->(Loc->AH->Prop)->Prop} {x m:Nat} {i j:Int} {lc:Loc} {H:AH} {K:Loc->AH->Prop} (h:qM5 B x i (m+1) j lc H K) (q1:j<i->B (st lc x (.int j)) H (fun lc H=>qM5 B x i m (j+1) lc H K)->P) (q2:¬ j<i->K lc H->P):P:=by
 have h':(match decide (j<i) with|true=>B (st lc x (.int j)) H (fun lc H=>qM5 B x i m (j+1) lc H K)|false=>K lc H:Prop):=h
 cases e:decide (j<i) with
 |true=>rw[e]at h';exact q1 (of_decide_eq_true e) h'
 |false=>rw[e]at h';exact q2 (of_decide_eq_false e) h'
inductive yQ4 (c:Cx) (φ₁:FP) (it:Addr) (i:Int) (B:Loc->AH->(Loc->AH->Prop)->Prop) (x:Nat) (K:Loc->AH->Prop) (m:Nat) (s:Shared):Prop
 |mk (φ':FP) (H':AH) (lc':Loc) (j:Int) (x':Ext φ₁ φ') (N:Now c φ' H' lc' s) (U:qV5 c φ' it) (h:IsRangeIter s.heap it j (i-j) 1) (hj:0<=j) (q:qM5 B x i m j lc' H' K)
set_option tactic.hygienic true in
theorem zW4 {E:Value->Shared->Prop} (S:qY4 n sp) (O:Ok c A (n+1)) (V:qQ2 c env) {x m:Nat} {px pos np p:Pos} {e:X} {ne:Expr} {body:List Stmt} {φ:FP} {H:AH} {lc:Loc} {s:Shared} {KR:AV->AH->Prop} {K:Loc->AH->Prop} {B:Loc->AH->(Loc->AH->Prop)->Prop}
  (hk:qX8 env.scope (nm x) .local=true) (hr:qX8 env.scope (Str.ofString "range") .globalImplicit=true) (hns:qZ5 ne=true) (hx:mX env.scope e ne=true) (N:Now c φ H lc s)
  (h:ev sp e lc H fun v H=>match v with|.int i=>0<=i/\i<=1000/\qM5 B x i m 0 lc H K|_=>False)
  (hb:∀(c':Cx) φ' H' lc' s' K',c'.w=c.w->Ok c' A (n+1)->qQ2 c' env->Now c' φ' H' lc' s'->B lc' H' K'->wpAny (MM c') A (execs body env) (qZ4 c' φ' KR K') NoE s') :
  wpAny (MM c) A (exec (.For (.Name (nm x) px) (.Call (.Name (Str.ofString "range") np) [ne] [] p) body [] pos) env) (qZ4 c φ KR K) E s:=by
 refine wpAny_For (E:=E) (wpAny_mono (qA1 (KI:=fun i H=>0<=i/\i<=1000/\qM5 B x i m 0 lc H K) O V hr hns hx N (wY7 (qD5 S O V e hx N h))) (fun u sB g=>?_) fun J J e=>e.elim) (fun y=>rfl)
 obtain ⟨φ₁,HB,i,r,t,u',v,xB,NB,rfl,hrg,hi0,hi,hl⟩:=g
 have hsz:Builtin.Range.rangeSize 0 i 1=i:=by rw[rangeSize_one,Int.sub_zero];exact if0 hi0
 refine wpAny_pyIter_range hrg (small_one (by omega) (by omega) (by omega) (by omega)) ?_
 rw[hsz]
 have U0:qV5 c φ₁ sB.heap.objs.size:=NB.untr qQ7
 have N2:=NB.push {cls:=.type "range_iterator", data:=.fields #[rawInt 0,rawInt i,rawInt 1]}
 refine codeAny_forLoop (yQ4 c φ₁ sB.heap.objs.size i B x K) (fun m s' hI=>?_) m
  ⟨φ₁,HB,lc,0,Ext.refl φ₁,N2,U0,by rw[Int.sub_zero];exact Heap.get?_push_size _ rfl,by exact Int.not_lt.mp fun gz=>lin [] [] [(1,.il (.a (.c (0)) (.c 1)) (.c (0)))] rfl gz,hl⟩
 obtain ⟨φ',H',lc',j,x',N',U',hit',hj,hl'⟩:=hI
 cases m with
 |zero=>exact hl'.elim
 |succ m=>
  refine xQ2 hl' (fun hlt hl'=>?_) fun hlt hl'=>?_
  ·refine wpAny_pyNext_range_item hit' (Int.sub_pos_of_lt hlt) fun h' hit2 hs'=>?_
   have N3:Now c φ' H' lc' {s' with heap:=h',toks:=s'.toks+1}:=N'.touch (s':={s' with heap:=h',toks:=s'.toks+1}) U' (fun b o nb eb=>(hs'.2 b nb).trans eb) rfl rfl
   refine wpAny_mono (qR6 (s:={s' with heap:=h',toks:=s'.toks+1}) O V hk N3 U' hit2 (av:=.int j) ⟨_,rfl⟩ (fun sC N4=>hb {c with h₀:=h',φ₀:=φ'} _ _ _ sC _ rfl (O.re _ _) (V.re _ _) N4 hl') (Q:=fun f sD=>match f with
     |.next|.cont=>∃ m',m'<m+1/\yQ4 c φ₁ sB.heap.objs.size i B x K m' sD
     |.brk=>qZ4 c φ KR K .next sD
     |.ret v=>qZ4 c φ KR K (.ret v) sD)
    (fun φC H₂ lcC sD xC N4 U4 h4 k4=>⟨m,Nat.lt_succ_self _,φC,H₂,lcC,j+1,x'.trans xC,N4,U4,by rw[<-Int.sub_sub];exact h4,Int.le_add_one hj,k4⟩)
    (fun v sD g=>qZ4.up (c:=c) (f:=.ret v) (xB.trans x') g)) (fun J sC g=>wpAny_mono g (fun f sD z=>?_) fun J J e=>e.elim) fun J J e=>e.elim
   cases f<;>exact z
  ·refine wpAny_pyNext_range_end O.room.hand hit' (Int.sub_nonpos_of_le (Int.not_lt.mp hlt)) fun h' hk'=>?_
   exact wpAny_execs_nil ⟨φ',H',lc',xB.trans x',N'.touch (s':={s' with heap:=h'}) U' (fun b o nb eb=>hk' b o nb eb) rfl rfl,hl'⟩
end
section
variable {A:Around} {n:Nat} {env:Env} {sp:Sp}
theorem zP2 {P:Sem Flow->Prop} {pos:Pos} (hp:P (pure Flow.next)) (hg:P (do standAt pos;let _ <-runValue (.builtin "proto.let_go" {});pure Flow.next)) {e:Expr} (hc:zG5 e=true) (v:Value):P (dropValue e pos v):=by
 cases e<;>first|exact nf hc|skip
 all_goals
  cases v<;>first|exact hp|exact hg
theorem wU4 {c:Cx} {e:Expr} {pos:Pos} {v:Value} {E:Value->Shared->Prop} {s:Shared} {Q:Flow->Shared->Prop} (hc:zG5 e=true) (q:Q .next s):wpAny (MM c) A (dropValue e pos v) Q E s:=by
 have go:wpAny (MM c) A (do standAt pos;let _ <-runValue (.builtin "proto.let_go" {});pure Flow.next) Q E s:=
  wpAny_bind (wpAny_standAt (wpAny_bind (wpAny_runValue (codeAny_builtin entry_let_go (show wpAny _ _ (ret .none) _ _ s from wpAny_pure (wpAny_pure q))))))
 exact zP2 (P:=fun m=>wpAny (MM c) A m Q E s) (wpAny_pure q) go hc v
theorem xE0 {v:Expr} {ln:Nat} {env:Env} (hc:zG5 v=true):swapsWith v none ln env=pure false:=by cases v<;>first|rfl|exact nf hc
theorem zE2 {P:Prop} {v:AV} {H:AH} {A:Nat->List (List Nat×AV)->Prop} {B:Nat->Prop} (h:match v with|.obj k=>(match qQ0 H k with|.sd es=>A k es|_=>B k)|_=>False) (q1:∀ k es,v=.obj k->qQ0 H k=.sd es->A k es->P) (q2:∀ k,v=.obj k->B k->P):P:=
 qB8 h fun k e0 h=>by
  have key:∀{o:AO},(match o with|.sd es=>A k es|_=>B k)->qQ0 H k=o->P:=fun {o} h e=>by
   cases o<;>first|exact q1 k _ e0 e h|exact q2 k e0 h
  exact key h rfl
theorem wI0 {body:Loc->AH->(Loc->AH->Prop)->Prop} {x j m i:Nat} {lc:Loc} {H:AH} {K:Loc->AH->Prop} (h:qE1 body x j (m+1) i lc H K):qQ0 H j=.il []∨∃ xs,qQ0 H j=.vl xs:=by
 exact qU7 h (fun e J=>.inl e) fun xs e J=>.inr ⟨xs,e⟩
mutual
theorem zC6 (S:qY4 n sp):∀(y:Y) {c:Cx} {st:Stmt} {φ:FP} {H:AH} {lc:Loc} {s:Shared} {KE:AH->Prop} {KR:AV->AH->Prop} {K:Loc->AH->Prop} {E:Value->Shared->Prop},Ok c A (n+1)->qQ2 c env->qE2 c A n env sp KE E->mY env.scope y st=true->Now c φ H lc s->ex sp KE KR y lc H K->
  wpAny (MM c) A (exec st env) (qZ4 c φ KR K) E s:=@fun ξ=>no_implicit_lambda%(match @ξ with
 |.expr e=>@fun c st φ H lc s KE KR K E O V R hy N h=>by
  obtain ⟨v,p,rfl,hc,hx⟩:=xJ1 hy
  rw[arm_exec_Expr]
  refine wpAny_bind (wpAny_standAt ?_)
  rw[qU9 V]
  rw[xE0 hc]
  refine wpAny_bind (wpAny_pure ?_)
  refine wpAny_bind (wpAny_mono (qD5 S O V e hx N h) (fun u s' ⟨φ',H',av,x,N',hv,k⟩=>wU4 hc ⟨φ',H',lc,x,N',k⟩) fun J J e=>e.elim)
 |.asgn t e=>@fun c st φ H lc s KE KR K E O V R hy N h=>by
  obtain ⟨tg,v,p,rfl,hm,hc,ht,hx⟩:=wQ3 hy
  rcases hc with hc|rfl
  ·refine wpAny_mono (zQ3 S O V hm hc ht hx N h) (fun f s' g=>?_) fun J J e=>e.elim
   obtain ⟨rfl,g⟩:=g
   exact g
  ·exact h.elim
 |.asgc x e=>@fun c st φ H lc s KE KR K E O V R hy N h=>by
  obtain ⟨p,v,pos,rfl,hk,hi,hsw,hx⟩:=wO3 hy
  refine wpAny_mono (zK0 S O V hk hi hsw hx N h) (fun f s' g=>?_) fun J J e=>e.elim
  obtain ⟨rfl,g⟩:=g
  exact g
 |.ret e=>@fun c st φ H lc s KE KR K E O V R hy N h=>by
  obtain ⟨v,p,rfl,hx⟩:=xB6 hy
  exact wpAny_Return_some (wpAny_mono (qD5 S O V e hx N h) (fun u s' ⟨φ',H',av,x,N',hv,k⟩=>⟨φ',H',lc,av,x,N',hv,k⟩) fun J J e=>e.elim)
 |.ret0=>@fun c st φ H lc s KE KR K E O V R hy N h=>by
  obtain ⟨p,rfl⟩:=wN2 hy
  exact wpAny_Return_none ⟨φ,H,lc,.none,Ext.refl φ,N,qM6,h⟩
 |.ife e a b=>@fun c st φ H lc s KE KR K E O V R hy N h=>by
  obtain ⟨v,x,y,p,rfl,h1,h2,h3⟩:=zY9 hy
  refine wpAny_If (wpAny_mono (xU0 S O V e h1 N h) (fun t s' ⟨φ',H',x',N',k⟩=>?_) fun J J e=>e.elim)
  cases t with
  |true=>exact wpAny_mono (qK8 S a O V R h2 N' k) (fun J J g=>g.up x') fun J J e=>e
  |false=>exact wpAny_mono (qK8 S b O V R h3 N' k) (fun J J g=>g.up x') fun J J e=>e
 |.forl m x e b=>@fun c st φ H lc s KE KR K E O V R hy N h=>by
  obtain ⟨px,it,bd,p,rfl,hk,hi,hx,hb⟩:=xW2 hy
  refine wpAny_For (wpAny_mono (qD5 S O V e hx N h) (fun u sB g=>?_) fun J J e=>e.elim) (qH2 hi)
  obtain ⟨φ₁,HB,av,xB,NB,hu,k⟩:=g
  refine zE2 k (fun j es e0 e1 k=>?_) fun j e0 k=>?_
  ·exact xT2 O V hk xB NB (e0▸hu) e1 k fun c' φ' H' lc' s' K' J O' V' N' k=>qK8 S b O' V' (qW4 S) hb N' k
  ·cases m with
   |zero=>exact k.elim
   |succ m=>exact zW5 O V hk xB NB (e0▸hu) (wI0 k) k fun c' φ' H' lc' s' K' J O' V' N' k=>qK8 S b O' V' (qW4 S) hb N' k
 |.forr m x e b=>@fun c st φ H lc s KE KR K E O V R hy N h=>by
  obtain ⟨px,np,ne,p,bd,pos,rfl,hk,hr,hns,hx,hb⟩:=wX3 hy
  exact zW4 S O V hk hr hns hx N h fun c' φ' H' lc' s' K' J O' V' N' k=>qK8 S b O' V' (qW4 S) hb N' k
 |.whl m e b=>@fun c st φ H lc s KE KR K E O V R hy N h=>by
  obtain ⟨v,bd,p,rfl,hx,hb⟩:=xE7 hy
  refine wY5 (fun m lc H=>xV9 (fun lc H K=>cd sp e lc H K) (fun lc H K=>exs sp (fun J=>False) KR b lc H K) m lc H K) m h N fun m φ' H' lc' s' x N' k=>?_
  cases m with
  |zero=>exact k.elim
  |succ m=>
   refine wpAny_mono (xU0 S O V e hx N' k) (fun t sC ⟨φC,H₂,xC,NC,kC⟩=>⟨φC,H₂,xC,NC,?_⟩) fun J J e=>e
   cases t with
   |false=>exact kC
   |true=>
    intro φD sD xD ND
    refine wpAny_mono (qK8 S b O V (qW4 S) hb ND kC) (fun f sE g=>?_) fun J J e=>e
    cases f with
    |next=>obtain ⟨a1,a2,a3,a4,a5,a6⟩:=g;exact ⟨a1,a2,a3,a4,a5,m,Nat.lt_succ_self _,a6⟩
    |ret v=>exact g
    |_=>exact g.elim
 |.whs e b=>@fun c st φ H lc s KE KR K E O V R hy N h=>by
  obtain ⟨v,bd,p,rfl,hx,hb⟩:=xG1 hy
  obtain ⟨I,⟨m,h0⟩,hI⟩:=h
  refine wY5 I m h0 N fun m φ' H' lc' s' x N' k=>?_
  refine wpAny_mono (xU0 S O V e hx N' (hI m lc' H' k)) (fun t sC ⟨φC,H₂,xC,NC,kC⟩=>⟨φC,H₂,xC,NC,?_⟩) fun J J e=>e
  cases t with
  |false=>exact kC
  |true=>exact fun φD sD xD ND=>qK8 S b O V (qW4 S) hb ND kC
 |.raise g xs=>@fun c st φ H lc s KE KR K E O V R hy N h=>by
  obtain ⟨np,es,p,pos,rfl,hk,hl,hx⟩:=wH0 hy
  exact wpAny_mono (R φ H lc s xs es np p pos O V N hx hk hl h) (fun J J z=>z.elim) fun J J e=>e
 |.no=>@fun c st φ H lc s KE KR K E O V R hy N h=>h.elim
 )
theorem qK8 (S:qY4 n sp):∀(ys:Ys) {c:Cx} {ts:List Stmt} {φ:FP} {H:AH} {lc:Loc} {s:Shared} {KE:AH->Prop} {KR:AV->AH->Prop} {K:Loc->AH->Prop} {E:Value->Shared->Prop},Ok c A (n+1)->qQ2 c env->qE2 c A n env sp KE E->mYs env.scope ys ts=true->Now c φ H lc s->exs sp KE KR ys lc H K->
  wpAny (MM c) A (execs ts env) (qZ4 c φ KR K) E s:=@fun ξ=>no_implicit_lambda%(match @ξ with
 |.nil=>@fun c ts φ H lc s KE KR K E O V R hy N h=>by
  rw[qT3 hy]
  exact wpAny_execs_nil ⟨φ,H,lc,Ext.refl φ,N,h⟩
 |.cons y ys=>@fun c ts φ H lc s KE KR K E O V R hy N h=>by
  obtain ⟨t,r,rfl,h1,h2⟩:=qK5 hy
  refine wpAny_execs_cons (wpAny_mono (zC6 S y O V R h1 N h) (fun f s' g=>?_) fun J J e=>e)
  cases f with
  |next=>
   obtain ⟨φ',H',lc',x,N',k⟩:=g
   exact wpAny_mono (qK8 S ys O V R h2 N' k) (fun J J g=>g.up x) fun J J e=>e
  |ret v=>exact g
  |_=>exact g.elim
 )
end
end
theorem wB3:∀{ns:List Str} {vs:List Value},ns.Nodup->vs.length=ns.length->∀ x∈ns,((ns.zip vs).lookup x).isSome=true:=@fun ξ ξ2=>no_implicit_lambda%(match @ξ,@ξ2 with
 |[],J=>@fun J2 J3 x h=>nomatch h
 |n::ns,[]=>@fun J hl x h=>by injection hl
 |n::ns,v::vs=>@fun nd hl x h=>by
  rw[List.zip_cons_cons,List.lookup_cons]
  by_cases q:x=n
  ·simp[q]
  ·have:(x==n)=false:=beq_eq_false_iff_ne.mpr q
   rw[this]
   rcases List.mem_cons.mp h with h|h
   ·exact absurd h q
   ·exact wB3 (List.nodup_cons.mp nd).2 (by simpa using hl) x h
 )
theorem qO2 {α β:Type} {f g:α->Option β}:∀{l:List α},(∀ a∈l,f a=g a)->l.filterMap f=l.filterMap g:=@fun ξ ξ2=>match @ξ,@ξ2 with
 |[],J=>rfl
 |a::l,h=>by rw[List.filterMap_cons,List.filterMap_cons,h a (.head _),qO2 fun b hb=>h b (.tail _ hb)]
theorem xK2:∀{ns:List Str} {vs:List Value},ns.Nodup->vs.length=ns.length->ns.filterMap (fun n=>((ns.zip vs).lookup n).map (n,·))=ns.zip vs:=@fun ξ ξ2=>no_implicit_lambda%(match @ξ,@ξ2 with
 |[],vs=>@fun J J2=>rfl
 |n::ns,[]=>@fun J hl=>by injection hl
 |n::ns,v::vs=>@fun nd hl=>by
  obtain ⟨n1,n2⟩:=List.nodup_cons.mp nd
  rw[List.filterMap_cons]
  have e1:((n::ns).zip (v::vs)).lookup n=some v:=by rw[List.zip_cons_cons,List.lookup_cons];simp
  rw[e1]
  have e2:ns.filterMap (fun m=>(((n::ns).zip (v::vs)).lookup m).map (m,·))=ns.filterMap (fun m=>((ns.zip vs).lookup m).map (m,·)):=by
   apply qO2
   intro m hm
   rw[List.zip_cons_cons,List.lookup_cons]
   have:(m==n)=false:=beq_eq_false_iff_ne.mpr fun q=>n1 (q▸hm)
   rw[this]
  rw[e2,xK2 n2 (by simpa using hl)]
  rfl
 )
theorem zM5 {f1 f2:Str} {f4:FuncBody} {f5:Scope} {f6 b:Addr} {f7:List (Str×Addr)} {f9 f10 f11 cd ct:Value} {an:Option Addr} {ps:List Arg} {kd:List (Option Expr)} {df:List Expr} {vs:List Value} (nd:(ps.map (·.arg)).Nodup) (hl:vs.length=(ps.map (·.arg)).length) :
  bindArgs ⟨f1,f2,⟨[],ps,none,[],kd,none,df⟩,f4,f5,f6,f7,.none,f9,f10,f11,an,cd,ct,b⟩ ⟨vs,[]⟩=pure ((ps.map (·.arg)).zip vs):=by
 refine (if_neg ?_).trans ?_
 ·show ¬ ((decide (vs.length > (ps.map (·.arg)).length)&&true)=true)
  simp[hl]
 refine (if_neg ?_).trans ?_
 ·have e2:((ps.map (·.arg)).take ((ps.map (·.arg)).length-(List.drop (0-(ps.map (·.arg)).length) ([]:List Value)).length)).filter (fun n=>(((ps.map (·.arg)).zip vs).lookup n).isNone)=[]:=by
   rw[List.filter_eq_nil_iff]
   intro a ha
   have:=wB3 nd hl a (List.mem_of_mem_take ha)
   rw[Option.isNone_iff_eq_none]
   intro z
   rw[z]at this
   exact nf this
  exact fun z=>nf ((congrArg (fun l=>!(List.isEmpty l)) e2).symm.trans z)
 have e3:∀(X:List Str) (n:Nat),X.zip (List.drop n ([]:List Value))=[]:=fun X n=>by rw[List.drop_nil,List.zip_nil_right]
 refine (congrArg (fun l=>(forIn l _ _:Sem _)>>=_) (e3 _ _)).trans ?_
 exact congrArg (fun x=>(pure x:Sem (List (Str×Value)))) ((congrArg (List.filterMap _) (List.append_nil _)).trans (xK2 nd hl))
theorem qD9 {fd:FuncData} {vs:List Value} (h1:fd.params.posonlyargs=[]) (h2:fd.params.vararg=none) (h3:fd.params.kwonlyargs=[]) (h4:fd.params.kwarg=none) (h5:fd.defaults=.none)
  (nd:(fd.params.args.map (·.arg)).Nodup) (hl:vs.length=(fd.params.args.map (·.arg)).length):bindArgs fd ⟨vs,[]⟩=pure ((fd.params.args.map (·.arg)).zip vs):=by
 obtain ⟨f1,f2,⟨p1,p2,p3,p4,p5,p6,p7⟩,f4,f5,f6,f7,f8,f9,f10,f11,f12,f13,f14,f15⟩:=fd
 obtain rfl:p1=[]:=h1
 obtain rfl:p3=none:=h2
 obtain rfl:p4=[]:=h3
 obtain rfl:p6=none:=h4
 obtain rfl:f8=.none:=h5
 exact zM5 nd hl
noncomputable abbrev qX9 (c:Cx) (s:Shared) (φ:FP) (env:Env) (cells:List (Str×Addr)):Cx:={w:=c.w,b:=c.b,L:=s.heap.objs.size,cells:=cells,h₀:=s.heap,φ₀:=φ,gens:=c.gens,os:=c.os,frs:=env::c.frs,fz:=c.fz}
section
variable {c:Cx} {φ:FP} {H:AH} {lc:Loc} {s:Shared}
theorem xS9 (N:Now c φ H lc s):∃ o,s.heap.get? c.L=some o:=by
 obtain ⟨m,⟨o,J,J,e,J⟩,J⟩:=N.loc
 exact ⟨o,e⟩
set_option tactic.hygienic true in
theorem Now.back (N:Now c φ H lc s) {env:Env} {cells:List (Str×Addr)} (hf:env.frame=some s.heap.objs.size) (hce:∀ x a,cells.lookup x=some a->s.heap.get? a=none) {φ':FP} {H':AH} {lc':Loc} {s':Shared}
  (N':Now (qX9 c s φ env cells) φ' H' lc' s'):Now c φ' H' lc s':=by
 have x:Ext φ φ':=N'.ext
 have up:∀ a o,s.heap.get? a=some o->a∉φ.flatten->xS5 c.frs s'.heap a o:=by
  intro a o e h
  have aL:a≠s.heap.objs.size:=Nat.ne_of_lt (Heap.lt_size e)
  obtain ⟨sl,e1,k⟩:=N'.out a o e h aL (fun y q=>by rw[hce y a q]at e;injection e)
  refine ⟨sl,e1,fun z=>k fun e' he'=>?_⟩
  rcases List.mem_cons.mp he' with rfl|he'
  ·rw[hf]
   exact fun q=>aL (Option.some.inj q).symm
  ·exact z e' he'
 have notφ:∀ a,(∃ o,s.heap.get? a=some o)->a∉φ.flatten->a∉φ'.flatten:=by
  rintro a ⟨o,e⟩ h q
  rcases N'.own a q with z|z
  ·exact h z
  ·have z':s.heap.get? a=none:=z
   rw[z']at e;injection e
 refine ⟨N'.rel,fun a o e h h2 h3=>?_,fun a h=>?_,N.ext.trans x,fun e he=>?_,?_,notφ _ (xS9 N) N.lout,fun y a e=>?_,N'.gens,N'.os,N'.fz,N'.fzh⟩
 ·obtain ⟨sl,e1,k1⟩:=N.out a o e h h2 h3
  obtain ⟨sl',e2,k2⟩:=up a _ e1 (fun q=>by
   rcases N.own a q with z|z
   ·exact h z
   ·rw[z]at e;injection e)
  exact ⟨sl',e2,fun z=>(k2 z).trans (k1 z)⟩
 ·rcases N'.own a h with z|z
  ·exact N.own a z
  ·refine .inr ?_
   cases e:c.h₀.get? a with
   |none=>rfl
   |some o=>
    obtain ⟨o',e'⟩:=N.live0 e
    have z':s.heap.get? a=none:=z
    rw[z']at e';injection e'
 ·exact N'.frs e (.tail _ he)
 ·obtain ⟨m,⟨o,es,ep,e,hd,r⟩,hl⟩:=N.loc
  obtain ⟨sl,e1,J⟩:=up c.L o e N.lout
  refine ⟨m,⟨_,es,ep,e1,hd,r⟩,fun y av q=>?_⟩
  have z:=hl y av q
  unfold qV3 at z ⊢
  split
  ·rename_i e'
   rw[e']at z
   obtain ⟨v,a1,a2⟩:=z
   exact ⟨v,a1,a2.mono x⟩
  ·rename_i a e'
   rw[e']at z
   obtain ⟨o',v,a1,a2,a3⟩:=z
   obtain ⟨sl',e2,J⟩:=up a o' a1 (N.cout _ _ e').1
   exact ⟨_,v,e2,a2,a3.mono x⟩
 ·obtain ⟨h1,o,h2,hd⟩:=N.cout y a e
  obtain ⟨sl',e2,J⟩:=up a o h2 h1
  exact ⟨notφ a ⟨o,h2⟩ h1,_,e2,hd⟩
end
section
variable {c:Cx} {φ:FP} {H:AH} {lc:Loc} {s:Shared}
set_option tactic.hygienic true in
theorem qG0 {α:Type}:∀{ps:List Nat} {vs:List α} {x:Nat},ps.Nodup->vs.length=ps.length->(((ps.map nm).zip vs).reverse).lookup (nm x)=((ps.zip vs).lookup x):=@fun ξ ξ2=>no_implicit_lambda%(match @ξ,@ξ2 with
 |[],vs=>@fun x J J2=>rfl
 |p::ps,[]=>@fun x J hl=>by injection hl
 |p::ps,v::vs=>@fun x nd hl=>by
  obtain ⟨n1,n2⟩:=List.nodup_cons.mp nd
  have ih:=qG0 (x:=x) n2 (show vs.length=ps.length by simpa using hl)
  rw[List.map_cons,List.zip_cons_cons,List.zip_cons_cons,List.reverse_cons,List.lookup_append,ih,List.lookup_cons]
  by_cases q:x=p
  ·subst q
   have:(ps.zip vs).lookup x=none:=by
    cases e:(ps.zip vs).lookup x with
    |none=>rfl
    |some w=>
     exfalso
     have:∀{l:List (Nat×α)} {w:α},l.lookup x=some w->∃ p∈l,p.1=x:=by
      intro l
      induction l with
      |nil=>intro w h;injection h
      |cons p l ih=>
       intro w h
       rw[List.lookup_cons]at h
       split at h
       ·rename_i hb;exact ⟨p,.head _,(eq_of_beq hb).symm⟩
       ·obtain ⟨p',h1,h2⟩:=ih h;exact ⟨p',.tail _ h1,h2⟩
     obtain ⟨p',h1,h2⟩:=this e
     exact n1 (h2▸(List.of_mem_zip (a:=p'.1) (b:=p'.2) h1).1)
   simp[this,List.lookup_cons]
  ·have b1:(x==p)=false:=beq_eq_false_iff_ne.mpr q
   have b2:(nm x==nm p)=false:=beq_eq_false_iff_ne.mpr fun h=>q (qK6 h)
   simp only[List.lookup_cons,b1,b2,List.lookup_nil,Option.or_none]
 )
theorem wP6 {φ:FP}:∀{ps:List Nat} {as:List AV} {vs:List Value} {x:Nat} {av:AV},qQ4 φ as vs->lk (ps.zip as) x=some av->∃ v,(ps.zip vs).lookup x=some v/\qQ1 φ av v:=@fun ξ ξ2 ξ3 ξ4 ξ5 ξ6 ξ7=>match @ξ,@ξ2,@ξ3,@ξ4,@ξ5,@ξ6,@ξ7 with
 |[],as,vs,x,av,J,h=>nn h
 |p::ps,[],vs,x,av,J,h=>nn h
 |p::ps,a::as,J,x,av,⟨v,r,e,h1,h2⟩,h=>by
  subst e
  rw[List.zip_cons_cons]at h ⊢
  rw[List.lookup_cons]
  refine qC5 h (fun q e2=>?_) fun q h=>?_
  ·subst q;subst e2
   rw[beq_self_eq_true]
   exact ⟨v,rfl,h1⟩
  ·rw[show (x==p)=false from beq_eq_false_iff_ne.mpr fun h=>q h.symm]
   exact wP6 h2 h
theorem Now.enter (N:Now c φ H lc s) {env:Env} (hf:env.frame=some s.heap.objs.size) (hk:env.scope.kind≠.module) {ps:List Nat} {as:List AV} {vs:List Value} (nd:ps.Nodup) (hl:vs.length=ps.length) (hv:qQ4 φ as vs) {h₀:Heap} {tk:Tok}
  (hn:h₀.Ns s.heap.objs.size (fun x=>((ps.map nm).zip vs).reverse.lookup x)) (keep:∀ b o,s.heap.get? b=some o->h₀.get? b=some o) :
  Now (qX9 c s φ env []) φ H (ps.zip as) {s with heap:=h₀,toks:=tk}:=by
 have Lφ:s.heap.objs.size∉φ.flatten:=(N.untr qQ7).fl
 have Lb:c.b.get? s.heap.objs.size=none:=(N.untr qQ7).b
 refine ⟨⟨fun a o e=>keep a o (N.rel.stays a o e),N.rel.len,fun k o f e e'=>(N.rel.cov k o f e e').move (Ext.refl φ) fun a J ob h=>keep a ob h,N.rel.nd,fun a h=>⟨(N.rel.fresh a h).1,let ⟨o,e⟩:=(N.rel.fresh a h).2;⟨o,keep a o e⟩⟩⟩,fun a o e J J J=>⟨o.slots,keep a o e,fun J=>rfl⟩,fun a h=>.inl h,Ext.refl φ,fun e he=>?_,⟨_,hn,fun x av q=>?_⟩,Lφ,fun x a e=>(nomatch e),N.gens,N.os,fun p hp=>keep _ _ (N.fz p hp),N.fzh⟩
 ·rcases List.mem_cons.mp he with rfl|he
  ·obtain ⟨o,es,ep,e1,e2,J⟩:=hn
   exact ⟨hk,_,o,hf,Lb,Lφ,e1,fun vs z=>by rw[e2]at z;injection z⟩
  ·obtain ⟨k1,L,o,k2,k3,k4,k5,k6⟩:=N.frs e he
   exact ⟨k1,L,o,k2,k3,k4,keep L o k5,k6⟩
 ·show qV3 (qX9 c s φ env []) φ h₀ _ x av
  unfold qV3
  obtain ⟨v,h1,h2⟩:=wP6 hv q
  exact ⟨v,(qG0 nd hl).trans h1,h2⟩
end
noncomputable def wD3:List (Str×NameKind)->Bool
 |[]=>true
 |p::r=>!(decide (p.2=.cell))&&wD3 r
noncomputable def yK4 (sc:Scope) (ps:List Nat):Bool:=ps.all fun x=>qX8 sc (nm x) .local
noncomputable def yJ9 (K:Frag) (fd:FuncData) (ps:List Nat) (b:Ys):Bool:=
 fd.params.posonlyargs.isEmpty&&(fd.params.vararg.isNone&&(fd.params.kwonlyargs.isEmpty&&(fd.params.kwarg.isNone&&(decide (fd.params.args.map (·.arg)=ps.map nm)&&(qH0 ps &&
 (decide (fd.scope.kind=.function)&&(!fd.scope.isCoroutine&&(!fd.scope.isGenerator&&(wD3 fd.scope.names&&(yK4 fd.scope ps&&(decide (fd.globals=mainGlobals)&&(fd.closure.isEmpty&&(decide (fd.builtins=builtinsNs) &&
 (codeIn K fd.code fd.qualname&&(match fd.body with|.stmts body=>mYs fd.scope b body|J=>false)))))))))))))))
noncomputable def zG9 (K:Frag) (f:Addr) (k:FuncData->Bool):Bool:=match K.lookup f with
 |some ⟨J,J2,.func fd,J3⟩=>k fd
 |J=>false
set_option tactic.hygienic true in
theorem wF7 {K:Frag} {f:Addr} {k:FuncData->Bool} (h:zG9 K f k=true) {P:Prop} (q:∀ oc od fd sl,K.lookup f=some ⟨oc,od,.func fd,sl⟩->k fd=true->P):P:=by
 have key:∀{o:Option Obj},(match o with|some ⟨J,J2,.func fd,J3⟩=>k fd|_=>false)=true->K.lookup f=o->P:=fun {o} h e=>by
  cases o<;>first|exact nf h|skip
  rename_i o
  obtain ⟨oc,od,dt,sl⟩:=o
  cases dt<;>first|exact nf h|exact q _ _ _ _ e h
 exact key h rfl
noncomputable def wH6 (K:Frag) (f:Addr) (ps:List Nat) (b:Ys):Bool:=zG9 K f fun fd=>decide (fd.defaults=.none)&&yJ9 K fd ps b
structure zH6 (K:Frag) (fd:FuncData) (ps:List Nat) (b:Ys) (body:List Stmt):Prop where
 po:fd.params.posonlyargs=[]
 va:fd.params.vararg=none
 ko:fd.params.kwonlyargs=[]
 kw:fd.params.kwarg=none
 ar:fd.params.args.map (·.arg)=ps.map nm
 nd:ps.Nodup
 ki:fd.scope.kind=.function
 co:fd.scope.isCoroutine=false
 ge:fd.scope.isGenerator=false
 ce:∀ x∈fd.scope.names,x.2≠.cell
 pa:∀ x∈ps,qX8 fd.scope (nm x) .local=true
 gl:fd.globals=mainGlobals
 cl:fd.closure=[]
 bu:fd.builtins=builtinsNs
 cd:codeIn K fd.code fd.qualname=true
 bo:fd.body=.stmts body
 ok:mYs fd.scope b body=true
theorem wW0:∀{l:List (Str×NameKind)},wD3 l=true->∀ x∈l,x.2≠.cell:=@fun ξ=>no_implicit_lambda%(match @ξ with
 |[]=>@fun J x h=>nomatch h
 |p::r=>@fun e x h=>by
  have e:(!(decide (p.2=.cell))&&wD3 r)=true:=e
  simp only[Bool.and_eq_true,Bool.not_eq_true',decide_eq_false_iff_not]at e
  rcases List.mem_cons.mp h with rfl|h
  ·exact e.1
  ·exact wW0 e.2 x h
 )
set_option tactic.hygienic true in
theorem zN4 {K:Frag} {fd:FuncData} {ps:List Nat} {b:Ys} (h:yJ9 K fd ps b=true):∃ body,zH6 K fd ps b body:=by
 simp only[yJ9,Bool.and_eq_true,List.isEmpty_iff,Option.isNone_iff_eq_none,decide_eq_true_eq,Bool.not_eq_true']at h
 obtain ⟨h1,h2,h3,h4,h5,h6,h7,h8,h9,h10,h11,h12,h13,h14,h15,h16⟩:=h
 split at h16
 ·rename_i body e
  exact ⟨body,h1,h2,h3,h4,h5,qC7 h6,h7,h8,h9,wW0 h10,List.all_eq_true.mp h11,h12,h13,h14,h15,e,h16⟩
 ·exact nf h16
theorem qA9 {l:List (Str×NameKind)} (h:∀ x∈l,x.2≠.cell) (x:Str):l.lookup x≠some .cell:=by
 induction l with
 |nil=>simp
 |cons p r ih=>
  rw[List.lookup_cons]
  split
  ·intro e
   exact h p (.head _) (Option.some.inj e)
  ·exact ih fun y hy=>h y (.tail _ hy)
section
variable {c:Cx} {A:Around} {n:Nat} {sp:Sp}
theorem wZ7 (S:qY4 n sp) (O:Ok c A (n+2)) {φ:FP} {H:AH} {lc:Loc} {s:Shared} (N:Now c φ H lc s) {f:Addr} {oc:Value} {od:Option Addr} {fd:FuncData} {sl:Array (Option Value)} {ps:List Nat} {b:Ys} {body:List Stmt} {vs us:List Value} {as:List AV}
  (hf:(KP c.w.params).lookup f=some ⟨oc,od,.func fd,sl⟩) (F:zH6 (KP c.w.params) fd ps b body) (hbind:BindsTo s fd ⟨us,[]⟩ ((ps.map nm).zip vs)) (hl:vs.length=ps.length) (hv:qQ4 φ as vs)
  {KR:AV->AH->Prop} {KE:AH->Prop} {E:Value->Shared->Prop} {R:Result->Shared->Prop} (h:exs sp KE KR b (ps.zip as) H fun J H=>KR .none H)
  (re:∀ A',qE2 (qX9 c s φ (callEnv fd s.heap.objs.size f) []) A' n (callEnv fd s.heap.objs.size f) sp KE E)
  (ok:∀ v s',qX1 c φ lc KR v s'->R (.ok (.ret v)) s')
  (er:∀ e s',E e s'->wpAny (MM c) (A.deeper (callEnv fd s.heap.objs.size f)) (leaving (callEnv fd s.heap.objs.size f) e) (fun J s''=>R (.error e) s'') (fun e' s''=>R (.error e') s'') s') :
  codeAny (MM c) A (.call (.ref f) ⟨us,[]⟩) R s:=by
 have X:=O.here N
 have hroom:A.depth<recursionLimit:=by
  have:=O.room.depth
  have e:recursionLimit=1000:=rfl
  omega
 have hnl:s.heap.NoLimit:=O.base.nl.keeps N.rel.stays
 refine codeAny_call_def hroom (X f _ hf) rfl hnl (codeRec_of X F.cd) F.bo hbind F.ce (fun x hx=>?_) (fun h₀ hn keep=>?_) F.co F.ge F.ki
 ·obtain ⟨y,hy,e⟩:=List.mem_map.mp (List.of_mem_zip (a:=x.1) (b:=x.2) hx).1
  rw[<-e]
  exact qZ3 (F.pa y hy)
 ·have N':=N.enter (env:=callEnv fd s.heap.objs.size f) rfl (by show fd.scope.kind≠.module;rw[F.ki];decide) F.nd hl hv (tk:=s.toks+((ps.map nm).zip vs).length) hn keep
  have O':Ok (qX9 c s φ (callEnv fd s.heap.objs.size f) []) (A.deeper (callEnv fd s.heap.objs.size f)) (n+1):=by
   refine ⟨O.base,(N.untr qQ7).b,fun y=>by simp[qX9],fun y a e=>by simp[qX9]at e,fun x y a e=>by simp[qX9]at e,?_,?_,?_,O.room.hand,O.room.grd⟩
   ·show A.frames.map _=_
    rw[O.frames];rfl
   ·have:=O.room.depth
    show A.depth+1+_<=_
    exact Nat.not_lt.mp fun gz=>lin [_,_] [] [(1,.nl (.a (.v 0) (.m 2 (.a (.v 1) (.c 2)))) (.c 950)),(1,.nl (.a (.c 950) (.c 1)) (.a (.a (.v 0) (.c 1)) (.m 2 (.a (.v 1) (.c 1)))))] rfl this gz
   ·have:=O.room.units
    show A.units+3+_<=_
    exact Nat.not_lt.mp fun gz=>lin [_,_] [] [(1,.nl (.a (.v 0) (.m 40 (.a (.v 1) (.c 2)))) (.c 9700)),(1,.nl (.a (.c 9700) (.c 1)) (.a (.a (.v 0) (.c 3)) (.m 40 (.a (.v 1) (.c 1)))))] rfl this gz
  have V':qQ2 (qX9 c s φ (callEnv fd s.heap.objs.size f) []) (callEnv fd s.heap.objs.size f):=by
   refine ⟨F.ki,rfl,F.gl,F.bu,fun x J=>rfl,fun x e=>?_⟩
   exact absurd e (qA9 F.ce x)
  refine wpAny_mono (qK8 (c:=qX9 c s φ (callEnv fd s.heap.objs.size f) []) S b O' V' (re _) F.ok N' h) (fun fl s' g=>?_) fun e s' z=>er e s' z
  cases fl with
  |next=>
   obtain ⟨φ',H',lc',x,N2,k⟩:=g
   exact ok _ _ ⟨φ',H',.none,x,N.back (cells:=[]) rfl (fun x a e=>by simp at e) N2,qM6,k⟩
  |ret v=>
   obtain ⟨φ',H',lc',av,x,N2,hv',k⟩:=g
   exact ok _ _ ⟨φ',H',av,x,N.back (cells:=[]) rfl (fun x a e=>by simp at e) N2,hv',k⟩
  |_=>exact g.elim
end
theorem qT9 {k:Str->Option NameKind}:∀(binds:List (Str×Value)) (m:Str->Option Value) (y:Str),k y=some .local->bindL k binds m y=(match binds.reverse.lookup y with|some v=>some v|none=>m y):=@fun ξ=>no_implicit_lambda%(match @ξ with
 |[]=>@fun m y h=>rfl
 |(n,v)::r=>@fun m y h=>by
  unfold bindL
  rw[qT9 r _ y h,List.reverse_cons,List.lookup_append]
  cases e:r.reverse.lookup y with
  |some u=>simp
  |none=>
   by_cases q:y=n
   ·subst q
    rw[if_pos h]
    simp[List.lookup_cons]
   ·have:(y==n)=false:=beq_eq_false_iff_ne.mpr q
    simp only[List.lookup_cons,this,List.lookup_nil]
    split
    ·exact if_neg q
    ·rfl
 )
theorem qP8 {k:Str->Option NameKind}:∀(binds:List (Str×Value)) (m:Str->Option Value) (y:Str),k y=some .cell->bindC k binds m y=(match binds.reverse.lookup y with|some v=>some v|none=>m y):=@fun ξ=>no_implicit_lambda%(match @ξ with
 |[]=>@fun m y h=>rfl
 |(n,v)::r=>@fun m y h=>by
  unfold bindC
  rw[qP8 r _ y h,List.reverse_cons,List.lookup_append]
  cases e:r.reverse.lookup y with
  |some u=>simp
  |none=>
   by_cases q:y=n
   ·subst q
    rw[if_neg (by rw[h];decide)]
    simp[List.lookup_cons]
   ·have:(y==n)=false:=beq_eq_false_iff_ne.mpr q
    simp only[List.lookup_cons,this,List.lookup_nil]
    split
    ·rfl
    ·exact if_neg q
 )
set_option tactic.hygienic true in
theorem qZ1:∀(names:List (Str×NameKind)) (n:Nat) (acc:List (Str×Addr)) (y:Str) (a:Addr),(y,a)∈cellsFrom n names acc->(y,a)∈acc∨(y,NameKind.cell)∈names:=@fun ξ=>no_implicit_lambda%(match @ξ with
 |[]=>@fun n acc y a h=>.inl h
 |(x,k)::r=>@fun n acc y a h=>by
  unfold cellsFrom at h
  split at h
  ·rename_i hk
   rcases qZ1 r _ _ y a h with q|q
   ·rcases List.mem_cons.mp q with e|q
    ·(injection e with e;subst e)
     right
     have:k=.cell:=by simpa using hk
     rw[this]
     exact .head _
    ·exact .inl q
   ·exact .inr (.tail _ q)
  ·rcases qZ1 r _ _ y a h with q|q
   ·exact .inl q
   ·exact .inr (.tail _ q)
 )
set_option tactic.hygienic true in
theorem qX6:∀(names:List (Str×NameKind)) (n:Nat) (acc:List (Str×Addr)) (y:Str),((y,NameKind.cell)∈names∨(acc.lookup y).isSome=true)->((cellsFrom n names acc).lookup y).isSome=true:=@fun ξ=>no_implicit_lambda%(match @ξ with
 |[]=>@fun n acc y h=>by rcases h with h|h;exact nomatch h;exact h
 |(x,k)::r=>@fun n acc y h=>by
  unfold cellsFrom
  split
  ·rename_i hk
   refine qX6 r _ _ y ?_
   rw[List.lookup_cons]
   rcases h with h|h
   ·rcases List.mem_cons.mp h with e|h
    ·cases e;right;simp
    ·exact .inl h
   ·right
    split
    ·rfl
    ·exact h
  ·rename_i hk
   refine qX6 r _ _ y ?_
   rcases h with h|h
   ·rcases List.mem_cons.mp h with e|h
    ·cases e;exact absurd rfl hk
    ·exact .inl h
   ·exact .inr h
 )
noncomputable def zZ8 (sc:Scope):Bool:=sc.names.all fun p=>p.2 != .cell || sc.names.lookup p.1==some .cell
noncomputable def zN3 (sc:Scope) (ps:List Nat):Bool:=ps.all fun x=>qX8 sc (nm x) .local || qX8 sc (nm x) .cell
noncomputable def xG0 (K:Frag) (fd:FuncData) (ps:List Nat) (b:List Stmt->Bool):Bool:=
 fd.params.posonlyargs.isEmpty&&(fd.params.vararg.isNone&&(fd.params.kwonlyargs.isEmpty&&(fd.params.kwarg.isNone&&(decide (fd.params.args.map (·.arg)=ps.map nm)&&(qH0 ps &&
 (decide (fd.scope.kind=.function)&&(!fd.scope.isCoroutine&&(!fd.scope.isGenerator&&(zZ8 fd.scope&&(zN3 fd.scope ps&&(decide (fd.globals=mainGlobals)&&(fd.closure.isEmpty&&(decide (fd.builtins=builtinsNs) &&
 (codeIn K fd.code fd.qualname&&(match fd.body with|.stmts body=>b body|J=>false)))))))))))))))
noncomputable def xC3 (K:Frag) (f:Addr) (ps:List Nat) (b:Ys):Bool:=zG9 K f fun fd=>decide (fd.defaults=.none)&&xG0 K fd ps (fun body=>mYs fd.scope b body)
structure xB8 (K:Frag) (fd:FuncData) (ps:List Nat) (b:List Stmt->Bool) (body:List Stmt):Prop where
 po:fd.params.posonlyargs=[]
 va:fd.params.vararg=none
 ko:fd.params.kwonlyargs=[]
 kw:fd.params.kwarg=none
 ar:fd.params.args.map (·.arg)=ps.map nm
 nd:ps.Nodup
 ki:fd.scope.kind=.function
 co:fd.scope.isCoroutine=false
 ge:fd.scope.isGenerator=false
 ce:∀ x∈fd.scope.names,x.2=.cell->fd.scope.names.lookup x.1=some .cell
 pa:∀ x∈ps,qX8 fd.scope (nm x) .local=true∨qX8 fd.scope (nm x) .cell=true
 gl:fd.globals=mainGlobals
 cl:fd.closure=[]
 bu:fd.builtins=builtinsNs
 cd:codeIn K fd.code fd.qualname=true
 bo:fd.body=.stmts body
 ok:b body=true
set_option tactic.hygienic true in
theorem xR7 {K:Frag} {fd:FuncData} {ps:List Nat} {b:List Stmt->Bool} (h:xG0 K fd ps b=true):∃ body,xB8 K fd ps b body:=by
 simp only[xG0,Bool.and_eq_true,List.isEmpty_iff,Option.isNone_iff_eq_none,decide_eq_true_eq,Bool.not_eq_true']at h
 obtain ⟨h1,h2,h3,h4,h5,h6,h7,h8,h9,h10,h11,h12,h13,h14,h15,h16⟩:=h
 split at h16
 ·rename_i body e
  refine ⟨body,h1,h2,h3,h4,h5,qC7 h6,h7,h8,h9,fun x hx hk=>?_,fun x hx=>?_,h12,h13,h14,h15,e,h16⟩
  ·have:=List.all_eq_true.mp h10 x hx
   simp only[Bool.or_eq_true,bne_iff_ne,beq_iff_eq]at this
   rcases this with q|q
   ·exact absurd hk q
   ·exact q
  ·have:=List.all_eq_true.mp h11 x hx
   simpa using this
 ·exact nf h16
section
variable {c:Cx} {A:Around} {n:Nat} {sp:Sp}
set_option tactic.hygienic true in
theorem Now.enterC {φ:FP} {H:AH} {lc:Loc} {s sB:Shared} (N:Now c φ H lc s) {env:Env} (hf:env.frame=some s.heap.objs.size) (hk:env.scope.kind≠.module) {ps:List Nat} {as:List AV} {vs:List Value} (nd:ps.Nodup) (hl:vs.length=ps.length) (hv:qQ4 φ as vs)
  (hL:env.locals=s.heap.objs.size) {k:Str->Option NameKind} (X:InCallC s env.locals (bindL k ((ps.map nm).zip vs) fun J=>none) env.cells (bindC k ((ps.map nm).zip vs) fun J=>none) sB)
  (pa:∀ x∈ps,(k (nm x)=some .local/\env.cells.lookup (nm x)=none)∨(k (nm x)=some .cell/\(env.cells.lookup (nm x)).isSome=true)) :
  Now (qX9 c s φ env env.cells) φ H (ps.zip as) sB:=by
 have Lφ:s.heap.objs.size∉φ.flatten:=(N.untr qQ7).fl
 have Lb:c.b.get? s.heap.objs.size=none:=(N.untr qQ7).b
 have keep:=X.toInCall.keep
 obtain ⟨h₁,tk,es⟩:=X.toInCall.same
 have N':Now c φ H lc sB:=N.keep keep (by rw[es]) (by rw[es])
 have fresh:∀ y a,env.cells.lookup y=some a->s.heap.get? a=none:=by
  intro y a e
  cases q:s.heap.get? a with
  |none=>rfl
  |some o=>
   have h1:=X.above y a (PySem.mem_of_lookup e)
   rw[hL]at h1
   exact absurd (Heap.lt_size q) (Nat.not_lt.mpr (Nat.le_of_lt h1))
 refine ⟨N'.rel,fun a o e J J J=>⟨o.slots,keep a o e,fun J=>rfl⟩,fun a h=>.inl h,Ext.refl φ,fun e he=>?_,⟨_,hL▸X.toInCall.ns,fun x av q=>?_⟩,Lφ,fun y a e=>?_,N'.gens,N'.os,N'.fz,N'.fzh⟩
 ·rcases List.mem_cons.mp he with rfl|he
  ·obtain ⟨o,es',ep,e1,e2,J⟩:=X.toInCall.ns
   rw[hL]at e1
   exact ⟨hk,_,o,hf,Lb,Lφ,e1,fun vs z=>by rw[e2]at z;injection z⟩
  ·exact N'.frs e he
 ·obtain ⟨v,h1,h2⟩:=wP6 hv q
  have hr:=qG0 (x:=x) nd hl
  rw[h1]at hr
  have hx:x∈ps:=by
   have:∀{l:List (Nat×Value)} {w:Value},l.lookup x=some w->∃ p∈l,p.1=x:=by
    intro l
    induction l with
    |nil=>intro w h;injection h
    |cons p l ih=>
     intro w h
     rw[List.lookup_cons]at h
     split at h
     ·rename_i hb;exact ⟨p,.head _,(eq_of_beq hb).symm⟩
     ·obtain ⟨p',h1,h2⟩:=ih h;exact ⟨p',.tail _ h1,h2⟩
   obtain ⟨p,hp,e⟩:=this h1
   rw[<-e]
   exact (List.of_mem_zip (a:=p.1) (b:=p.2) hp).1
  show qV3 (qX9 c s φ env env.cells) φ sB.heap _ x av
  unfold qV3
  rcases pa x hx with ⟨p1,p2⟩|⟨p1,p2⟩
  ·have e:(qX9 c s φ env env.cells).cells.lookup (nm x)=none:=p2
   rw[e]
   exact ⟨v,by rw[qT9 _ _ _ p1,hr],h2⟩
  ·obtain ⟨a,ha⟩:=Option.isSome_iff_exists.mp p2
   have e:(qX9 c s φ env env.cells).cells.lookup (nm x)=some a:=ha
   rw[e]
   have z:=X.cell _ _ ha
   rw[qP8 _ _ _ p1,hr]at z
   obtain ⟨o,z1,z2⟩:=z
   exact ⟨o,v,z1,z2,h2⟩
 ·have e':env.cells.lookup y=some a:=e
  obtain ⟨o,z1,z2⟩:=X.cell _ _ e'
  exact ⟨(N.untr (fresh y a e')).fl,o,z1,_,z2⟩
theorem qS1 (O:Ok c A (n+2)) {φ:FP} {H:AH} {lc:Loc} {s:Shared} (N:Now c φ H lc s) {f:Addr} {oc:Value} {od:Option Addr} {fd:FuncData} {sl:Array (Option Value)} {ps:List Nat} {b:List Stmt->Bool} {body:List Stmt} {vs:List Value} {as:List AV}
  (hf:(KP c.w.params).lookup f=some ⟨oc,od,.func fd,sl⟩) (F:xB8 (KP c.w.params) fd ps b body) (hd:fd.defaults=.none) (hl:vs.length=ps.length) (hv:qQ4 φ as vs)
  {KR:AV->AH->Prop} {R:Result->Shared->Prop}
  (h:∀ sB,Ok (qX9 c s φ (callEnvC fd s.heap.objs.size f) (callEnvC fd s.heap.objs.size f).cells) (A.deeper (callEnvC fd s.heap.objs.size f)) (n+1)->qQ2 (qX9 c s φ (callEnvC fd s.heap.objs.size f) (callEnvC fd s.heap.objs.size f).cells) (callEnvC fd s.heap.objs.size f)->
   Now (qX9 c s φ (callEnvC fd s.heap.objs.size f) (callEnvC fd s.heap.objs.size f).cells) φ H (ps.zip as) sB->
   wpAny (MM c) (A.deeper (callEnvC fd s.heap.objs.size f)) (execs body (callEnvC fd s.heap.objs.size f)) (qZ4 (qX9 c s φ (callEnvC fd s.heap.objs.size f) (callEnvC fd s.heap.objs.size f).cells) φ KR fun J H=>KR .none H) NoE sB)
  (ok:∀ v s',qX1 c φ lc KR v s'->R (.ok (.ret v)) s') :
  codeAny (MM c) A (.call (.ref f) ⟨vs,[]⟩) R s:=by
 have X:=O.here N
 have hroom:A.depth<recursionLimit:=by
  have:=O.room.depth
  have e:recursionLimit=1000:=rfl
  omega
 have hnl:s.heap.NoLimit:=O.base.nl.keeps N.rel.stays
 have ndn:(fd.params.args.map (·.arg)).Nodup:=by
  rw[F.ar]
  exact F.nd.map _ fun a b q e=>q (qK6 e)
 have hb:bindArgs fd ⟨vs,[]⟩=pure ((ps.map nm).zip vs):=by
  have:=qD9 (vs:=vs) F.po F.va F.ko F.kw hd ndn (by rw[F.ar];simpa using hl)
  rw[F.ar]at this
  exact this
 have par:∀ x∈ps,(fd.scope.names.lookup (nm x)=some .local/\(cellsFrom (s.heap.objs.size+1) fd.scope.names []).lookup (nm x)=none)∨(fd.scope.names.lookup (nm x)=some .cell/\((cellsFrom (s.heap.objs.size+1) fd.scope.names []).lookup (nm x)).isSome=true):=by
  intro x hx
  rcases F.pa x hx with q|q
  ·refine .inl ⟨qZ3 q,?_⟩
   cases e:(cellsFrom (s.heap.objs.size+1) fd.scope.names []).lookup (nm x) with
   |none=>rfl
   |some a=>
    rcases qZ1 _ _ _ _ _ (PySem.mem_of_lookup e) with z|z
    ·exact nomatch z
    ·have:=F.ce _ z rfl
     rw[qZ3 q]at this;cases this
  ·exact .inr ⟨qZ3 q,qX6 _ _ _ _ (.inl (PySem.mem_of_lookup (qZ3 q)))⟩
 refine codeAny_call_cells hroom (X f _ hf) rfl hnl (codeRec_of X F.cd) F.bo hb F.cl (fun x hx=>?_) (fun sB Y=>?_) F.co F.ge F.ki
 ·obtain ⟨y,hy,e⟩:=List.mem_map.mp (List.of_mem_zip (a:=x.1) (b:=x.2) hx).1
  rw[<-e]
  rcases par y hy with q|q
  ·exact .inl q.1
  ·exact .inr q
 ·have N':=N.enterC (env:=callEnvC fd s.heap.objs.size f) rfl (by show fd.scope.kind≠.module;rw[F.ki];decide) F.nd hl hv rfl Y par
  have fresh:∀ y a,(callEnvC fd s.heap.objs.size f).cells.lookup y=some a->s.heap.get? a=none:=by
   intro y a e
   cases q:s.heap.get? a with
   |none=>rfl
   |some o=>
    have h1:=Y.above y a (PySem.mem_of_lookup e)
    exact absurd (Heap.lt_size q) (Nat.not_lt.mpr (Nat.le_of_lt h1))
  have O':Ok (qX9 c s φ (callEnvC fd s.heap.objs.size f) (callEnvC fd s.heap.objs.size f).cells) (A.deeper (callEnvC fd s.heap.objs.size f)) (n+1):=by
   refine ⟨O.base,(N.untr qQ7).b,fun y e=>?_,fun y a e=>(N.untr (fresh y a e)).b,fun x y a e1 e2=>PySem.name_of_addr Y.apart (PySem.mem_of_lookup e1) (PySem.mem_of_lookup e2),?_,?_,?_,O.room.hand,O.room.grd⟩
   ·have e':(callEnvC fd s.heap.objs.size f).cells.lookup y=some s.heap.objs.size:=e
    exact absurd (Y.above y _ (PySem.mem_of_lookup e')) (Nat.lt_irrefl _)
   ·show A.frames.map _=_
    rw[O.frames];rfl
   ·have:=O.room.depth
    show A.depth+1+_<=_
    exact Nat.not_lt.mp fun gz=>lin [_,_] [] [(1,.nl (.a (.v 0) (.m 2 (.a (.v 1) (.c 2)))) (.c 950)),(1,.nl (.a (.c 950) (.c 1)) (.a (.a (.v 0) (.c 1)) (.m 2 (.a (.v 1) (.c 1)))))] rfl this gz
   ·have:=O.room.units
    show A.units+3+_<=_
    exact Nat.not_lt.mp fun gz=>lin [_,_] [] [(1,.nl (.a (.v 0) (.m 40 (.a (.v 1) (.c 2)))) (.c 9700)),(1,.nl (.a (.c 9700) (.c 1)) (.a (.a (.v 0) (.c 3)) (.m 40 (.a (.v 1) (.c 1)))))] rfl this gz
  have V':qQ2 (qX9 c s φ (callEnvC fd s.heap.objs.size f) (callEnvC fd s.heap.objs.size f).cells) (callEnvC fd s.heap.objs.size f):=by
   refine ⟨F.ki,rfl,F.gl,F.bu,fun x e=>?_,fun x e=>?_⟩
   ·show (cellsFrom (s.heap.objs.size+1) fd.scope.names []).lookup x=none
    cases e2:(cellsFrom (s.heap.objs.size+1) fd.scope.names []).lookup x with
    |none=>rfl
    |some a=>
     rcases qZ1 _ _ _ _ _ (PySem.mem_of_lookup e2) with z|z
     ·exact nomatch z
     ·have:=F.ce _ z rfl
      have e':fd.scope.names.lookup x=some .local:=e
      rw[e']at this;cases this
   ·obtain ⟨a,ha⟩:=Option.isSome_iff_exists.mp (qX6 fd.scope.names (s.heap.objs.size+1) [] x (.inl (PySem.mem_of_lookup (e:fd.scope.names.lookup x=some .cell))))
    exact ⟨a,ha,ha⟩
  refine wpAny_mono (h sB O' V' N') (fun fl s' g=>?_) fun e s' z=>z.elim
  cases fl with
  |next=>
   obtain ⟨φ',H',lc',x,N2,k⟩:=g
   exact ok _ _ ⟨φ',H',.none,x,N.back rfl fresh N2,qM6,k⟩
  |ret v=>
   obtain ⟨φ',H',lc',av,x,N2,hv',k⟩:=g
   exact ok _ _ ⟨φ',H',av,x,N.back rfl fresh N2,hv',k⟩
  |_=>exact g.elim
end
noncomputable abbrev qB3 (c:Cx) (h:Heap) (φu:FP):Cx:={w:=c.w,b:=c.b,L:=c.L,cells:=c.cells,h₀:=h,φ₀:=φu,gens:=c.gens,os:=c.os,frs:=c.frs,fz:=[]}
section
variable {c:Cx} {φ:FP} {H:AH} {lc:Loc} {s:Shared}
set_option tactic.hygienic true in
theorem Now.reform (N:Now c φ H lc s) {φu:FP} {Hu:AH} {lcu:Loc} (len:φu.length=Hu.length) (cov:∀(k:Nat) (o:AO) (f:List Addr),Hu[k]?=some o->φu[k]?=some f->Cov c.w.params s.heap φu o f) (nd:φu.flatten.Nodup)
  (sub:∀ a∈φu.flatten,a∈φ.flatten) (hlc:∀ x avu,lk lcu x=some avu->∃ av,lk lc x=some av/\∀ v,qQ1 φ av v->qQ1 φu avu v):Now (qB3 c s.heap φu) φu Hu lcu s:=by
 refine ⟨⟨N.rel.stays,len,cov,nd,fun a h=>N.rel.fresh a (sub a h)⟩,fun a o e J J J=>⟨o.slots,e,fun J=>rfl⟩,fun a h=>.inl h,Ext.refl φu,fun env he=>?_,?_,fun h=>N.lout (sub _ h),fun y a e=>?_,N.gens,N.os,fun p hp=>(nomatch hp),fun p hp=>(nomatch hp)⟩
 ·obtain ⟨k1,L,o,k2,k3,k4,k5,k6⟩:=N.frs env he
  exact ⟨k1,L,o,k2,k3,fun h=>k4 (sub _ h),k5,k6⟩
 ·obtain ⟨m,hm,hl⟩:=N.loc
  refine ⟨m,hm,fun x avu e=>?_⟩
  obtain ⟨av,e1,e2⟩:=hlc x avu e
  have w:=hl x av e1
  unfold qV3 at w ⊢
  split
  ·rename_i q
   have q':c.cells.lookup (nm x)=none:=q
   rw[q']at w
   obtain ⟨v,w1,w2⟩:=w
   exact ⟨v,w1,e2 v w2⟩
  ·rename_i a q
   have q':c.cells.lookup (nm x)=some a:=q
   rw[q']at w
   obtain ⟨o,v,w1,w2,w3⟩:=w
   exact ⟨o,v,w1,w2,e2 v w3⟩
 ·obtain ⟨h1,h2⟩:=N.cout y a e
  exact ⟨fun h=>h1 (sub _ h),h2⟩
section
variable {φu:FP} {φC:FP} {H₂:AH} {lcC:Loc} {s':Shared}
theorem Now.others (N:Now c φ H lc s) (N2:Now (qB3 c s.heap φu) φC H₂ lcC s') {a:Addr} {o:Obj} (h:a∈φ.flatten) (hn:a∉φu.flatten) (e:s.heap.get? a=some o):s'.heap.get? a=some o:=by
 obtain ⟨sl,e1,k⟩:=N2.out a o e hn (fun q=>N.lout (by rw[show a=c.L from q]at h;exact h)) fun y q=>(N.cout y a q).1 h
 rw[k fun env he q=>?_]at e1
 ·exact e1
 ·obtain ⟨J,L,J,k2,J,k4,J⟩:=N.frs env he
  rw[k2]at q
  obtain rfl:=Option.some.inj q
  exact k4 h
theorem Now.pack (N:Now c φ H lc s) (su:∀ a∈φu.flatten,a∈φ.flatten) (N2:Now (qB3 c s.heap φu) φC H₂ lcC s') {φ':FP} {H':AH} (len:φ'.length=H'.length)
  (cov:∀(k:Nat) (o:AO) (f:List Addr),H'[k]?=some o->φ'[k]?=some f->Cov c.w.params s'.heap φ' o f) (nd:φ'.flatten.Nodup) (sub:∀ a∈φ'.flatten,a∈φC.flatten∨a∈φ.flatten) (ext:Ext c.φ₀ φ') (hzu:∀ p∈c.fz,p.1∉φu.flatten) (hz:∀ p∈c.fz,yI4 φ' H' p.1):Now c φ' H' [] s':=by
 have live:∀ a∈φ.flatten,∃ o,s'.heap.get? a=some o:=by
  intro a h
  by_cases q:a∈φu.flatten
  ·exact N2.live (N2.ext.flat q)
  ·obtain ⟨o,e⟩:=N.live h
   exact ⟨o,N.others N2 h q e⟩
 refine ⟨⟨N2.rel.stays,len,cov,nd,fun a h=>?_⟩,fun a o e h h2 h3=>?_,fun a h=>?_,ext,fun env he=>?_,?_,fun h=>?_,fun y a e=>?_,N2.gens,N2.os,fun p hp=>?_,hz⟩
 ·rcases sub a h with q|q
  ·exact N2.rel.fresh a q
  ·exact ⟨(N.rel.fresh a q).1,live a q⟩
 ·obtain ⟨sl,e1,k1⟩:=N.out a o e h h2 h3
  obtain ⟨sl',e2,k2⟩:=N2.out a _ e1 (fun q=>by
   rcases N.own a (su a q) with z|z
   ·exact h z
   ·rw[z]at e;injection e) h2 h3
  exact ⟨sl',e2,fun z=>(k2 z).trans (k1 z)⟩
 ·rcases sub a h with q|q
  ·rcases N2.own a q with z|z
   ·exact N.own a (su a z)
   ·refine .inr ?_
    cases e:c.h₀.get? a with
    |none=>rfl
    |some o=>
     obtain ⟨o',e'⟩:=N.live0 e
     have z':s.heap.get? a=none:=z
     rw[z']at e';injection e'
  ·exact N.own a q
 ·obtain ⟨k1,L,o,k2,k3,k4,k5,k6⟩:=N2.frs env he
  obtain ⟨J,L',J,k2',J,k4',J⟩:=N.frs env he
  rw[k2]at k2'
  obtain rfl:=Option.some.inj k2'
  exact ⟨k1,L,o,k2,k3,fun h=>(sub _ h).elim k4 k4',k5,k6⟩
 ·obtain ⟨m,hm,J⟩:=N2.loc
  exact ⟨m,hm,fun x av q=>by simp[lk]at q⟩
 ·exact (sub _ h).elim N2.lout N.lout
 ·obtain ⟨h1,h2⟩:=N2.cout y a e
  exact ⟨fun h=>(sub _ h).elim h1 (N.cout y a e).1,h2⟩
 ·obtain ⟨k,es,e1,e2⟩:=N.fzh p hp
  exact N.others N2 (qQ5 e2 (.head _)) (hzu p hp) (N.fz p hp)
end
end
section
variable {c:Cx} {A:Around} {n:Nat} {sp:Sp}
theorem xG2 (O:Ok c A (n+2)) {φ:FP} {H:AH} {lc:Loc} {s:Shared} (N:Now c φ H lc s) {f:Addr} {oc:Value} {od:Option Addr} {fd:FuncData} {sl:Array (Option Value)} {ps:List Nat} {b:Ys} {body:List Stmt} {vs us:List Value} {as:List AV}
  (hf:(KP c.w.params).lookup f=some ⟨oc,od,.func fd,sl⟩) (F:zH6 (KP c.w.params) fd ps b body) (hbind:BindsTo s fd ⟨us,[]⟩ ((ps.map nm).zip vs)) (hl:vs.length=ps.length) (hv:qQ4 φ as vs)
  {KR:AV->AH->Prop} {E:Value->Shared->Prop} {R:Result->Shared->Prop}
  (h:∀ sB,Ok (qX9 c s φ (callEnv fd s.heap.objs.size f) []) (A.deeper (callEnv fd s.heap.objs.size f)) (n+1)->qQ2 (qX9 c s φ (callEnv fd s.heap.objs.size f) []) (callEnv fd s.heap.objs.size f)->Now (qX9 c s φ (callEnv fd s.heap.objs.size f) []) φ H (ps.zip as) sB->
   wpAny (MM c) (A.deeper (callEnv fd s.heap.objs.size f)) (execs body (callEnv fd s.heap.objs.size f)) (qZ4 (qX9 c s φ (callEnv fd s.heap.objs.size f) []) φ KR fun J H=>KR .none H) E sB)
  (ok:∀ v s',qX1 c φ lc KR v s'->R (.ok (.ret v)) s')
  (er:∀ e s',E e s'->wpAny (MM c) (A.deeper (callEnv fd s.heap.objs.size f)) (leaving (callEnv fd s.heap.objs.size f) e) (fun J s''=>R (.error e) s'') (fun e' s''=>R (.error e') s'') s') :
  codeAny (MM c) A (.call (.ref f) ⟨us,[]⟩) R s:=by
 have X:=O.here N
 have hroom:A.depth<recursionLimit:=by
  have:=O.room.depth
  have e:recursionLimit=1000:=rfl
  omega
 have hnl:s.heap.NoLimit:=O.base.nl.keeps N.rel.stays
 refine codeAny_call_def hroom (X f _ hf) rfl hnl (codeRec_of X F.cd) F.bo hbind F.ce (fun x hx=>?_) (fun h₀ hn keep=>?_) F.co F.ge F.ki
 ·obtain ⟨y,hy,e⟩:=List.mem_map.mp (List.of_mem_zip (a:=x.1) (b:=x.2) hx).1
  rw[<-e]
  exact qZ3 (F.pa y hy)
 ·have N':=N.enter (env:=callEnv fd s.heap.objs.size f) rfl (by show fd.scope.kind≠.module;rw[F.ki];decide) F.nd hl hv (tk:=s.toks+((ps.map nm).zip vs).length) hn keep
  have O':Ok (qX9 c s φ (callEnv fd s.heap.objs.size f) []) (A.deeper (callEnv fd s.heap.objs.size f)) (n+1):=by
   refine ⟨O.base,(N.untr qQ7).b,fun y=>by simp[qX9],fun y a e=>by simp[qX9]at e,fun x y a e=>by simp[qX9]at e,?_,?_,?_,O.room.hand,O.room.grd⟩
   ·show A.frames.map _=_
    rw[O.frames];rfl
   ·have:=O.room.depth
    show A.depth+1+_<=_
    exact Nat.not_lt.mp fun gz=>lin [_,_] [] [(1,.nl (.a (.v 0) (.m 2 (.a (.v 1) (.c 2)))) (.c 950)),(1,.nl (.a (.c 950) (.c 1)) (.a (.a (.v 0) (.c 1)) (.m 2 (.a (.v 1) (.c 1)))))] rfl this gz
   ·have:=O.room.units
    show A.units+3+_<=_
    exact Nat.not_lt.mp fun gz=>lin [_,_] [] [(1,.nl (.a (.v 0) (.m 40 (.a (.v 1) (.c 2)))) (.c 9700)),(1,.nl (.a (.c 9700) (.c 1)) (.a (.a (.v 0) (.c 3)) (.m 40 (.a (.v 1) (.c 1)))))] rfl this gz
  have V':qQ2 (qX9 c s φ (callEnv fd s.heap.objs.size f) []) (callEnv fd s.heap.objs.size f):=by
   refine ⟨F.ki,rfl,F.gl,F.bu,fun x J=>rfl,fun x e=>?_⟩
   exact absurd e (qA9 F.ce x)
  refine wpAny_mono (h _ O' V' N') (fun fl s' g=>?_) fun e s' z=>er e s' z
  cases fl with
  |next=>
   obtain ⟨φ',H',lc',x,N2,k⟩:=g
   exact ok _ _ ⟨φ',H',.none,x,N.back (cells:=[]) rfl (fun x a e=>by simp at e) N2,qM6,k⟩
  |ret v=>
   obtain ⟨φ',H',lc',av,x,N2,hv',k⟩:=g
   exact ok _ _ ⟨φ',H',av,x,N.back (cells:=[]) rfl (fun x a e=>by simp at e) N2,hv',k⟩
  |_=>exact g.elim
end
end Mine
section
namespace Mine
noncomputable def yZ1:List (Nat×List Nat×Ys):=[(411,[199],yX5),(425,[199,212,72],yJ2),(432,[199,39],yM3),(439,[199,240],yL0)]
noncomputable def yM9 (sp:Sp):Sp:=fun f args H K KE=>match qW8 yZ1 f with|some (ps,b)=>evF sp ps b args H K KE|none=>False
noncomputable def xF5:Sp:=yM9 fun J J J J J=>False
noncomputable def gFs (gs ge:Int):Loc:=[(193,.int 8),(54,.obj 1),(89,.int gs),(88,.int ge)]
theorem cl {n y:Nat} {x:Int} (h:x=y) (hn:y<=n):PySem.clipAt n x=y:=by
 subst h
 rw[PySem.clipAt_nat]
 exact Nat.min_eq_left hn
noncomputable abbrev gO (A M B:List Int) (R:AH):AH:=.inst 3 (gFs A.length (A.length+M.length:Nat))::.il (A++(M++B))::R
theorem ife {b:Bool} {P Q:Prop}:(b=true->P)->(b=false->Q)->(match b with|true=>P|false=>Q:Prop):=
 match b with
 |true=>fun h J=>h rfl
 |false=>fun J h=>h rfl
theorem le3 (X Y Z:List Int):X.length+Y.length<=(X++(Y++Z)).length:=by
 rw[List.length_append,List.length_append,<-Nat.add_assoc];exact Nat.le_add_right _ _
theorem qB5 (l:List Int) {n:Nat} (h:n<=l.length):∃ x y,l=x++y/\x.length=n:=⟨l.take n,l.drop n,(List.take_append_drop n l).symm,by rw[List.length_take];exact Nat.min_eq_left h⟩
theorem mid (X Y Z:List Int):((X++(Y++Z)).drop X.length).take Y.length=Y:=by rw[List.drop_left,List.take_left]
theorem yS2 {xs X Y Z:List Int} {i j:Int} (e:xs=X++(Y++Z)) (hi:i=(X.length:Nat)) (hj:j=(X.length+Y.length:Nat)):cut xs (.int i) (.int j)=some Y:=by
 subst e hi hj
 have h:=le3 X Y Z
 show some (((X++(Y++Z)).drop (PySem.clipAt _ _)).take (PySem.clipAt _ _-PySem.clipAt _ _))=_
 rw[cl rfl h,cl rfl (Nat.le_trans (Nat.le_add_right _ _) h),Nat.add_sub_cancel_left,mid]
theorem zB2 {sp:Sp} {H:AH} {lc:Loc} {k:Nat} {o lo hi:X} {xs X Y Z:List Int} {i j:Int} {K:AV->AH->Prop} (ho:∀ Q:AV->AH->Prop,Q (.obj k) H->ev sp o lc H Q) (hlo:∀ Q:AV->AH->Prop,Q (.int i) H->ev sp lo lc H Q) (hhi:∀ Q:AV->AH->Prop,Q (.int j) H->ev sp hi lc H Q)
  (h:qQ0 H k=.il xs) (e:xs=X++(Y++Z)) (hi':i=(X.length:Nat)) (hj:j=(X.length+Y.length:Nat)) (q:K (.obj H.length) (H++[.il Y])):ev sp (.slice o lo hi) lc H K:=by
 refine ho _ (hlo _ (hhi _ ?_))
 show (match qQ0 H k with|.il xs=>(match cut xs (.int i) (.int j) with|some ys=>K (.obj H.length) (H++[.il ys])|none=>False)|.fl xs=>(match cut xs (.int i) (.int j) with|some ys=>K (.obj H.length) (H++[.il ys])|none=>False)|_=>False)
 rw[h]
 show (match cut xs (.int i) (.int j) with|some ys=>K (.obj H.length) (H++[.il ys])|none=>False)
 rw[yS2 e hi' hj]
 exact q
theorem xM5 {sp:Sp} {KE:AH->Prop} {K:AV->AH->Prop} {t:T} {e:X} {ss:Ys} {lc:Loc} {H:AH} {KN:Loc->AH->Prop} (h:ev sp e lc H fun v H=>asg sp t v lc H fun lc H=>exs sp KE K ss lc H KN):exs sp KE K (.cons (.asgn t e) ss) lc H KN:=h
theorem evL {sp:Sp} {x:Nat} {v:AV} {lc:Loc} {H:AH} {K:AV->AH->Prop} (e:lk lc x=some v) (h:K v H):ev sp (.loc x) lc H K:=by
 show (match lk lc x with|some v=>K v H|.none=>False)
 rw[e]
 exact h
theorem evB {sp:Sp} {op:Bop} {a b:X} {i j:Int} {lc:Loc} {H:AH} {K:AV->AH->Prop} (ha:∀ Q:AV->AH->Prop,Q (.int i) H->ev sp a lc H Q) (hb:∀ Q:AV->AH->Prop,Q (.int j) H->ev sp b lc H Q) (h:zJ7 op (.int i) (.int j) H K):ev sp (.bin op a b) lc H K:=ha _ (hb _ h)
theorem yW3 {sp:Sp} {H:AH} {lc:Loc} {k l:Nat} {o lo hi:X} {xs ys X Y Z:List Int} {i j:Int} {K:Loc->AH->Prop} (ho:∀ Q:AV->AH->Prop,Q (.obj k) H->ev sp o lc H Q) (hlo:∀ Q:AV->AH->Prop,Q (.int i) H->ev sp lo lc H Q) (hhi:∀ Q:AV->AH->Prop,Q (.int j) H->ev sp hi lc H Q)
  (h:qQ0 H k=.il xs) (h':qQ0 H l=.il ys) (e:xs=X++(Y++Z)) (hi':i=(X.length:Nat)) (hj:j=(X.length+Y.length:Nat)) (hl:xs.length+ys.length<=10000) (q:K lc (qX7 H k (.il (X++ys++Z)))):asg sp (.slice o lo hi) (.obj l) lc H K:=by
 refine ho _ (hlo _ (hhi _ ?_))
 dsimp only
 rw[h,h']
 subst e hi' hj
 refine ⟨Int.natCast_nonneg _,Int.ofNat_le.mpr (Nat.le_add_right _ _),Int.ofNat_le.mpr (le3 X Y Z),hl,?_⟩
 rw[Int.toNat_natCast,Int.toNat_natCast,List.take_left,<-List.append_assoc X Y Z,<-List.length_append,List.drop_left]
 exact q
theorem zB8 {H:AH} {k:Nat} {xs:List Int} {K:AV->AH->Prop} (h:qQ0 H k=.il xs) (q:K (.int xs.length) H):sBi 0 [.obj k] H K:=by
 show (match qQ0 H k with|.il xs=>K (.int xs.length) H|.fl xs=>K (.int xs.length) H|.vl xs=>K (.int xs.length) H|_=>False)
 rw[h]
 exact q
theorem qZ0:∀(H:AH) (x:AO),qQ0 (H++[x]) H.length=x:=@fun ξ ξ2=>match @ξ,@ξ2 with
 |[],x=>rfl
 |J::H,x=>qZ0 H x
theorem fin {A M B C:List Int} {R R':AH} {x y:Int} {v:AV} {K:AV->AH->Prop} (q:K v (gO A M B R)) (e1:x=(A.length:Nat)) (e2:y=(A.length+M.length:Nat)) (e3:C=A++(M++B)) (e4:R'=R):K v (.inst 3 (gFs x y)::.il C::R'):=by
 subst e1 e2 e3 e4
 exact q
theorem yC0 (sp:Sp) {A M B:List Int} {R:AH} {a:Nat} {K:AV->AH->Prop} (h3:a<=A.length+B.length) (h5:A.length+(M.length+B.length)<=2000)
  (k:∀ A' M' B' G,A'.length=a->M'.length=M.length->A'++B'=A++B->K .none (gO A' M' B' (R++G))) :
  evF sp [199,39] yM3 [.obj 0,.int a] (gO A M B R) K fun J=>False:=by
 refine ife (b:=decide ((a:Int)<(A.length:Nat))) (fun hh=>?_) (fun hh=>?_)
 ·have hh:=Int.ofNat_lt.mp (of_decide_eq_true hh)
  obtain ⟨A1,A2,rfl,rfl⟩:=qB5 A (Nat.le_of_lt hh)
  clear h3 hh
  obtain ⟨M',N,e,hM⟩:=qB5 (A2++M) (n:=M.length) (by rw[List.length_append];exact Nat.le_add_left _ _)
  have hN:=congrArg List.length e
  rw[List.length_append,List.length_append,hM]at hN
  rw[List.length_append]at h5
  refine xM5 (zB2 (k:=1) (i:=A1.length) (j:=(A1++A2).length) (fun J q=>q) (fun J q=>q) (fun J q=>q) (X:=A1) (Y:=A2) (Z:=M++B) rfl (List.append_assoc ..) rfl (by rw[List.length_append]) ?_)
  refine xM5 (evL rfl (yW3 (X:=A1++M') (Y:=N) (Z:=B) (fun J q=>q) (fun J q=>evB (fun J q=>q) (fun J q=>zB8 (qZ0 ..) q) q) (fun J q=>q) rfl (qZ0 ..) ?_ ?_ ?_ ?_ ?_))
  ·rw[List.append_assoc,List.append_assoc,<-List.append_assoc A2,e,List.append_assoc]
  ·simp only[List.length_append,hM];exact leq [_,_,_] [] (.il (.s (.n (.a (.a (.v 0) (.v 1)) (.v 2))) (.n (.v 1))) (.n (.a (.v 0) (.v 2)))) [] rfl
  ·simp only[List.length_append,hM];exact leq [_,_,_,_] [] (.il (.n (.a (.a (.v 0) (.v 1)) (.v 2))) (.n (.a (.a (.v 0) (.v 2)) (.v 3)))) [(-1,.nl (.a (.v 1) (.v 2)) (.a (.v 2) (.v 3)))] rfl hN
  ·simp only[List.length_append];exact Nat.not_lt.mp fun gz=>lin [_,_,_,_] [] [(2,.nl (.a (.a (.v 0) (.v 1)) (.a (.v 2) (.v 3))) (.c 2000)),(1,.nl (.a (.c 10000) (.c 1)) (.a (.a (.a (.v 0) (.v 1)) (.a (.v 2) (.v 3))) (.v 1)))] rfl h5 gz
  refine xM5 (evB (fun J q=>q) (fun J q=>zB8 (k:=(gO (A1++A2) M B R).length) (qZ0 ..) q) ?_)
  refine fin (A:=A1) (M:=M') (B:=A2++B) (k _ _ _ [.il A2] rfl hM (List.append_assoc ..).symm) rfl ?_ ?_ ?_
  ·simp only[List.length_append,hM];exact leq [_,_,_] [] (.il (.s (.n (.a (.a (.v 0) (.v 1)) (.v 2))) (.n (.v 1))) (.n (.a (.v 0) (.v 2)))) [] rfl
  ·simp only[List.append_assoc]
  ·rfl
 ·have hh:=Int.ofNat_le.mp (Int.not_lt.mp (of_decide_eq_false hh))
  obtain ⟨B1,B2,rfl,hB⟩:=qB5 B (n:=a-A.length) (Nat.sub_le_iff_le_add'.mpr h3)
  obtain rfl:a=A.length+B1.length:=by omega
  clear h3 hh hB
  obtain ⟨N,M',e,hN⟩:=qB5 (M++B1) (n:=B1.length) (by rw[List.length_append];exact Nat.le_add_left _ _)
  have hM:=congrArg List.length e
  rw[List.length_append,List.length_append,hN]at hM
  rw[List.length_append]at h5
  refine xM5 (zB2 (k:=1) (i:=(A.length+M.length:Nat)) (fun J q=>q) (fun J q=>q) (fun J q=>q) (X:=A++M) (Y:=B1) (Z:=B2) rfl (List.append_assoc ..).symm (by rw[List.length_append]) ?_ ?_)
  ·simp only[List.length_append];exact leq [_,_,_] [] (.il (.s (.a (.n (.a (.v 0) (.v 1))) (.n (.a (.v 0) (.v 2)))) (.n (.v 0))) (.n (.a (.a (.v 0) (.v 1)) (.v 2)))) [] rfl
  refine xM5 (evL rfl (yW3 (X:=A) (Y:=N) (Z:=M'++B2) (fun J q=>q) (fun J q=>q) (fun J q=>evB (fun J q=>q) (fun J q=>zB8 (qZ0 ..) q) q) rfl (qZ0 ..) ?_ rfl ?_ ?_ ?_))
  ·rw[<-List.append_assoc M,e,List.append_assoc]
  ·rw[hN,Int.natCast_add]
  ·simp only[List.length_append];exact Nat.not_lt.mp fun gz=>lin [_,_,_,_] [] [(2,.nl (.a (.v 0) (.a (.v 1) (.a (.v 2) (.v 3)))) (.c 2000)),(1,.nl (.a (.c 10000) (.c 1)) (.a (.a (.v 0) (.a (.v 1) (.a (.v 2) (.v 3)))) (.v 2)))] rfl h5 gz
  refine xM5 (evB (fun J q=>q) (fun J q=>zB8 (k:=(gO A M (B1++B2) R).length) (qZ0 ..) q) ?_)
  refine fin (A:=A++B1) (M:=M') (B:=B2) (k _ _ _ [.il B1] (List.length_append ..) (by exact leq [_,_,_] [] (.nl (.v 0) (.v 1)) [(1,.nl (.a (.v 1) (.v 2)) (.a (.v 2) (.v 0)))] rfl hM) (List.append_assoc ..)) (by rw[List.length_append]) ?_ rfl rfl
  simp only[List.length_append];exact leq [_,_,_,_] [] (.il (.a (.n (.a (.v 0) (.v 1))) (.n (.v 2))) (.n (.a (.a (.v 0) (.v 2)) (.v 3)))) [(-1,.nl (.a (.v 1) (.v 2)) (.a (.v 2) (.v 3)))] rfl hM
theorem evM {sp:Sp} {b:X} {lc:Loc} {H:AH} {n:Int} {K:AV->AH->Prop} (hb:∀ Q:AV->AH->Prop,Q (.int n) (H++[.il [0]])->ev sp b lc (H++[.il [0]]) Q) (h0:0<=n) (h1:n<=1000) (q:K (.obj (H++[AO.il [0]]).length) (H++[.il [0]]++[.il (List.replicate n.toNat 0)])):ev sp (.bin .mul (.list (.cons (.int 0) .nil)) b) lc H K:=by
 refine hb (fun vb H'=>zJ7 .mul (.obj H.length) vb H' K) ?_
 show (match qQ0 (H++[.il [0]]) H.length with|.il [x]=>0<=n/\n<=1000/\K (.obj (H++[AO.il [0]]).length) (H++[.il [0]]++[.il (List.replicate n.toNat x)])|_=>False)
 rw[qZ0]
 exact ⟨h0,h1,q⟩
theorem yR8 (sp:Sp) {A M B:List Int} {R:AH} {n:Nat} {K:AV->AH->Prop} (h5:A.length+(M.length+B.length)<=2000) (h6:A.length+B.length+n<=1000) (h7:n<=900)
  (k:∀ M' G,n<=M'.length->A.length+(M'.length+B.length)<=2000->K .none (gO A M' B (R++G))) :
  evF sp [199,240] yL0 [.obj 0,.int n] (gO A M B R) K fun J=>False:=by
 refine ife (b:=decide ((0:Int)<(n:Int)-((A.length+M.length:Nat)-(A.length:Int)))) (fun hh=>?_) (fun hh=>?_)
 ·have hh:=of_decide_eq_true hh
  generalize hz:((n:Int)-((A.length+M.length:Nat)-(A.length:Int))+8)=z
  have hz1:8<z:=hz▸Int.add_lt_add_right hh 8
  have hz2:z+M.length=n+8:=by exact leq [_,_,_] [_] (.il (.a (.v 0) (.n (.v 0))) (.a (.n (.v 1)) (.c (8)))) [(1,.il (.a (.s (.n (.v 1)) (.s (.n (.a (.v 2) (.v 0))) (.n (.v 2)))) (.c (8))) (.v 0))] rfl hz
  clear hh
  have hl:((List.replicate z.toNat (0:Int)).length:Int)=z:=by rw[List.length_replicate,Int.toNat_of_nonneg (by exact Int.not_lt.mp fun gz=>lin [] [_] [(1,.il (.a (.c (8)) (.c 1)) (.v 0)),(1,.il (.a (.v 0) (.c 1)) (.c (0)))] rfl hz1 gz)]
  refine xM5 (evM (n:=z) (fun J q=>by subst hz;exact q) (by exact Int.not_lt.mp fun gz=>lin [] [_] [(1,.il (.a (.c (8)) (.c 1)) (.v 0)),(1,.il (.a (.v 0) (.c 1)) (.c (0)))] rfl hz1 gz) (by exact Int.not_lt.mp fun gz=>lin [_,_] [_] [(1,.nl (.v 0) (.c 900)),(1,.il (.a (.v 0) (.n (.v 1))) (.a (.n (.v 0)) (.c (8)))),(1,.il (.a (.c (1000)) (.c 1)) (.v 0))] rfl h7 (Int.le_of_eq hz2) gz) ?_)
  generalize List.replicate z.toNat (0:Int)=Z at hl
  refine yW3 (X:=A++M) (Y:=[]) (Z:=B) (fun J q=>q) (fun J q=>q) (fun J q=>q) rfl (qZ0 ..) (List.append_assoc ..).symm ?_ ?_ ?_ ?_
  ·rw[List.length_append]
  ·rw[List.length_append];rfl
  ·simp only[List.length_append];exact Nat.not_lt.mp fun gz=>lin [_,_,_,_,_] [_] [(1,.nl (.a (.a (.v 0) (.v 1)) (.v 2)) (.c 1000)),(1,.il (.a (.v 0) (.n (.v 3))) (.a (.n (.v 2)) (.c (8)))),(1,.il (.n (.v 4)) (.v 0)),(1,.nl (.a (.c 10000) (.c 1)) (.a (.a (.v 0) (.a (.v 3) (.v 1))) (.v 4)))] rfl h6 (Int.le_of_eq hz2) (Int.le_of_eq hl) gz
  ·refine fin (A:=A) (M:=M++Z) (B:=B) (k (M++Z) [AO.il [0],AO.il Z] ?_ ?_) rfl ?_ ?_ (List.append_assoc R [AO.il [0]] [AO.il Z])
   ·rw[List.length_append];exact Nat.not_lt.mp fun gz=>lin [_,_,_] [_] [(1,.il (.a (.n (.v 0)) (.c (8))) (.a (.v 0) (.n (.v 1)))),(1,.il (.v 0) (.n (.v 2))),(1,.nl (.a (.a (.v 1) (.v 2)) (.c 1)) (.v 0))] rfl (Int.le_of_eq hz2.symm) (Int.le_of_eq hl.symm) gz
   ·rw[List.length_append];exact Nat.not_lt.mp fun gz=>lin [_,_,_,_,_] [_] [(1,.nl (.a (.a (.v 0) (.v 1)) (.v 2)) (.c 1000)),(1,.il (.a (.v 0) (.n (.v 3))) (.a (.n (.v 2)) (.c (8)))),(1,.il (.n (.v 4)) (.v 0)),(1,.nl (.a (.c 2000) (.c 1)) (.a (.v 0) (.a (.a (.v 3) (.v 4)) (.v 1))))] rfl h6 (Int.le_of_eq hz2) (Int.le_of_eq hl) gz
   ·rw[List.length_append];exact leq [_,_,_,_] [_] (.il (.a (.a (.n (.a (.v 0) (.v 1))) (.s (.n (.v 2)) (.s (.n (.a (.v 0) (.v 1))) (.n (.v 0))))) (.c (8))) (.n (.a (.v 0) (.a (.v 1) (.v 3))))) [(-1,.il (.a (.s (.n (.v 2)) (.s (.n (.a (.v 0) (.v 1))) (.n (.v 0)))) (.c (8))) (.v 0)),(1,.il (.n (.v 3)) (.v 0))] rfl hz hl
   ·simp only[List.append_assoc]
 ·have hh:=of_decide_eq_false hh
  refine fin (A:=A) (M:=M) (B:=B) (k M [] ?_ h5) rfl rfl rfl (List.append_nil R).symm
  exact Nat.not_lt.mp fun gz=>lin [_,_,_] [] [(1,.il (.s (.n (.v 0)) (.s (.n (.a (.v 1) (.v 2))) (.n (.v 1)))) (.c (0))),(1,.nl (.a (.v 2) (.c 1)) (.v 0))] rfl (Int.not_lt.mp hh) gz
theorem yR1 (sp:Sp) {A M B:List Int} {K:AV->AH->Prop} (k:K (.int (A.length+B.length:Nat)) (gO A M B [])):evF sp [199] yX5 [.obj 0] (gO A M B []) K fun J=>False:=by
 have e:(((A++(M++B)).length:Nat):Int)-(A.length+M.length:Nat)+(A.length:Nat)=(A.length+B.length:Nat):=by
  rw[List.length_append,List.length_append];exact leq [_,_,_] [] (.il (.a (.s (.n (.a (.v 0) (.a (.v 1) (.v 2)))) (.n (.a (.v 0) (.v 1)))) (.n (.v 0))) (.n (.a (.v 0) (.v 2)))) [] rfl
 rw[<-e]at k
 exact k
theorem yH3 {H:AH} {k l:Nat} {xs ys:List Int} {K:AV->AH->Prop} (h:qQ0 H k=.il xs) (h':qQ0 H l=.il ys) (hl:xs.length+ys.length<=10000) (q:K (.obj H.length) (H++[.il (xs++ys)])):zJ7 .add (.obj k) (.obj l) H K:=by
 show (match qQ0 H k,qQ0 H l with|.il xs,.il ys=>xs.length+ys.length<=10000/\K (.obj H.length) (H++[.il (xs++ys)])|J,J2=>False)
 rw[h,h']
 exact ⟨hl,q⟩
theorem yX4 {sp:Sp} {KE:AH->Prop} {K:AV->AH->Prop} {e:X} {ss:Ys} {lc:Loc} {H:AH} {KN:Loc->AH->Prop} (h:ev sp e lc H K):exs sp KE K (.cons (.ret e) ss) lc H KN:=h
theorem yL8 (sp:Sp) {A M B:List Int} {a b:Nat} {K:AV->AH->Prop} (h3:a<=b) (h4:b<=A.length+B.length) (h5:A.length+(M.length+B.length)<=2000)
  (k:∀ j G X Y Z,qQ0 G j=.il Y->A++B=X++(Y++Z)->X.length=a->X.length+Y.length=b->K (.obj (j+2)) (gO A M B G)) :
  evF sp [199,212,72] yJ2 [.obj 0,.int a,.int b] (gO A M B []) K fun J=>False:=by
 refine ife (b:=decide ((b:Int)<=(A.length:Nat))) (fun hh=>?_) (fun hh=>ife (b:=decide ((A.length:Nat)<=(a:Int))) (fun h2=>?_) (fun h2=>?_))
 ·obtain ⟨A1,A2,rfl,rfl⟩:=qB5 A (n:=a) (Nat.le_trans h3 (Int.ofNat_le.mp (of_decide_eq_true hh)))
  have hh:=Int.ofNat_le.mp (of_decide_eq_true hh)
  rw[List.length_append]at hh
  obtain ⟨Y,Z,rfl,hY⟩:=qB5 A2 (n:=b-A1.length) (Nat.sub_le_of_le_add (Nat.add_comm _ _▸hh))
  obtain rfl:b=A1.length+Y.length:=by omega
  exact yX4 (zB2 (k:=1) (i:=A1.length) (j:=(A1.length+Y.length:Nat)) (fun J q=>q) (fun J q=>q) (fun J q=>q) (X:=A1) (Y:=Y) (Z:=Z++(M++B)) rfl (by simp only[List.append_assoc]) rfl rfl (k 0 [_] A1 Y (Z++B) rfl (by simp only[List.append_assoc]) rfl rfl))
 ·have h2:=Int.ofNat_le.mp (of_decide_eq_true h2)
  obtain ⟨B1,B2,rfl,hB⟩:=qB5 B (n:=a-A.length) (Nat.sub_le_iff_le_add'.mpr (Nat.le_trans h3 h4))
  rw[List.length_append]at h4
  obtain ⟨Y,Z,rfl,hY⟩:=qB5 B2 (n:=b-a) (by omega)
  obtain rfl:a=A.length+B1.length:=by omega
  obtain rfl:b=A.length+B1.length+Y.length:=by omega
  refine yX4 (KE:=fun J=>False) (ss:=.nil) (KN:=fun J J=>False) (zB2 (k:=1) (fun J q=>q) (fun J q=>q) (fun J q=>q) (X:=A++(M++B1)) (Y:=Y) (Z:=Z) rfl (by simp only[List.append_assoc]) ?_ ?_ (k 0 [_] (A++B1) Y Z rfl (by simp only[List.append_assoc]) (by rw[List.length_append]) (by rw[List.length_append])))
  ·simp only[List.length_append];exact leq [_,_,_] [] (.il (.a (.n (.a (.v 0) (.v 1))) (.s (.n (.a (.v 0) (.v 2))) (.n (.v 0)))) (.n (.a (.v 0) (.a (.v 2) (.v 1))))) [] rfl
  ·simp only[List.length_append];exact leq [_,_,_,_] [] (.il (.a (.n (.a (.a (.v 0) (.v 1)) (.v 2))) (.s (.n (.a (.v 0) (.v 3))) (.n (.v 0)))) (.n (.a (.a (.v 0) (.a (.v 3) (.v 1))) (.v 2)))) [] rfl
 ·have h2:=Int.ofNat_lt.mp (Int.not_le.mp (of_decide_eq_false h2))
  have hh:=Int.ofNat_lt.mp (Int.not_le.mp (of_decide_eq_false hh))
  obtain ⟨A1,A2,rfl,rfl⟩:=qB5 A (Nat.le_of_lt h2)
  obtain ⟨B1,B2,rfl,hB⟩:=qB5 B (n:=b-(A1++A2).length) (Nat.sub_le_iff_le_add'.mpr h4)
  obtain rfl:b=(A1++A2).length+B1.length:=by omega
  rw[List.length_append,List.length_append]at h5
  refine yX4 (KE:=fun J=>False) (ss:=.nil) (KN:=fun J J=>False) (zB2 (k:=1) (i:=A1.length) (j:=(A1++A2).length) (fun J q=>q) (fun J q=>q) (fun J q=>q) (X:=A1) (Y:=A2) (Z:=M++(B1++B2)) rfl (by simp only[List.append_assoc]) rfl (by rw[List.length_append]) ?_)
  refine zB2 (k:=1) (i:=((A1++A2).length+M.length:Nat)) (fun J q=>q) (fun J q=>q) (fun J q=>q) (X:=A1++A2++M) (Y:=B1) (Z:=B2) rfl (by simp only[List.append_assoc]) ?_ ?_ ?_
  ·simp only[List.length_append]
  ·simp only[List.length_append];exact leq [_,_,_,_] [] (.il (.a (.n (.a (.a (.v 0) (.v 1)) (.v 2))) (.s (.n (.a (.a (.v 0) (.v 1)) (.v 3))) (.n (.a (.v 0) (.v 1))))) (.n (.a (.a (.a (.v 0) (.v 1)) (.v 3)) (.v 2)))) [] rfl
  ·exact yH3 rfl rfl (by exact Nat.not_lt.mp fun gz=>lin [_,_,_,_,_] [] [(1,.nl (.a (.a (.v 0) (.v 1)) (.a (.v 2) (.a (.v 3) (.v 4)))) (.c 2000)),(1,.nl (.a (.c 10000) (.c 1)) (.a (.v 1) (.v 3)))] rfl h5 gz) (k 2 [_,_,_] A1 (A2++B1) B2 rfl (by simp only[List.append_assoc]) rfl (by simp only[List.length_append,Nat.add_assoc]))
theorem qV0:∀{H G:AH} {k:Nat} {o:AO},qQ0 H k=o->o≠.dead->qQ0 (H++G) k=o:=@fun ξ ξ2 ξ3=>no_implicit_lambda%(match @ξ,@ξ2,@ξ3 with
 |[],J,J2=>@fun J3 e n=>absurd e.symm n
 |J::J2,J3,0=>@fun J4 e J5=>e
 |J::H,G,k+1=>@fun o e n=>qV0 (H:=H) (k:=k) e n
 )
theorem yS8 {sp:Sp} (hs:sp=xF5) {A M B ys:List Int} {a:Nat} {K:AV->AH->Prop} (h3:a<=A.length+B.length) (h5:A.length+(M.length+B.length)<=2000) (h6:A.length+B.length+ys.length<=1000) (h7:ys.length<=900)
  (k:∀ X Y M' G,X.length=a->X++Y=A++B->X.length+ys.length+(M'.length+Y.length)<=2000->K .none (gO (X++ys) M' Y (.il ys::G))) :
  evF sp [199,39,58] yF9 [.obj 0,.int a,.obj 2] (gO A M B [.il ys]) K fun J=>False:=by
 subst hs
 refine yR8 _ (R:=[.il ys]) h5 h6 h7 fun M1 G q1 q2=>?_
 refine yC0 _ (R:=.il ys::G) h3 q2 fun X M2 Y G' p1 p2 p3=>?_
 have pl:=congrArg List.length p3
 rw[List.length_append,List.length_append]at pl
 subst p1
 obtain ⟨N,M',rfl,hN⟩:=qB5 M2 (n:=ys.length) (p2▸q1)
 rw[List.length_append,hN]at p2
 refine xM5 (evL rfl (yW3 (l:=2) (ys:=ys) (X:=X) (Y:=N) (Z:=M'++Y) (fun J q=>q) (fun J q=>q) (fun J q=>q) rfl rfl (by rw[List.append_assoc]) rfl ?_ ?_ ?_))
 ·rw[hN,Int.natCast_add]
 ·simp only[List.length_append,hN];exact Nat.not_lt.mp fun gz=>lin [_,_,_,_,_,_,_] [] [(1,.nl (.v 0) (.c 900)),(1,.nl (.a (.v 1) (.a (.v 2) (.v 3))) (.c 2000)),(1,.nl (.a (.v 4) (.v 5)) (.a (.v 1) (.v 3))),(1,.nl (.a (.v 0) (.v 6)) (.v 2)),(1,.nl (.a (.c 10000) (.c 1)) (.a (.a (.v 4) (.a (.a (.v 0) (.v 6)) (.v 5))) (.v 0)))] rfl h7 q2 (Nat.le_of_eq pl) (Nat.le_of_eq p2) gz
 ·refine fin (A:=X++ys) (M:=M') (B:=Y) (k X Y M' (G++G') rfl p3 (by exact Nat.not_lt.mp fun gz=>lin [_,_,_,_,_,_,_] [] [(1,.nl (.a (.v 0) (.a (.v 1) (.v 2))) (.c 2000)),(1,.nl (.a (.v 3) (.v 4)) (.a (.v 0) (.v 2))),(1,.nl (.a (.v 5) (.v 6)) (.v 1)),(1,.nl (.a (.c 2000) (.c 1)) (.a (.a (.v 3) (.v 5)) (.a (.v 6) (.v 4))))] rfl q2 (Nat.le_of_eq pl) (Nat.le_of_eq p2) gz)) (by rw[List.length_append,Int.natCast_add]) ?_ rfl rfl
  simp only[List.length_append,hN,Nat.add_assoc]
theorem jZ4 {sp:Sp} (hs:sp=xF5) {A M B:List Int} {a b:Nat} {K:AV->AH->Prop} (h3:a<=b) (h4:b<=A.length+B.length) (h5:A.length+(M.length+B.length)<=2000)
  (k:∀ j G X Y Z M',qQ0 G j=.il Y->A++B=X++(Y++Z)->X.length=a->X.length+Y.length=b->X.length+(M'.length+Z.length)<=2000->K (.obj (j+2)) (gO X M' Z G)) :
  evF sp [199,212,72] yG4 [.obj 0,.int a,.int b] (gO A M B []) K fun J=>False:=by
 subst hs
 refine yL8 _ h3 h4 h5 fun j G X Y Z e1 e2 e3 e4=>?_
 subst e3 e4
 have el:=congrArg List.length e2
 simp only[List.length_append]at el
 refine ife (b:=decide (((X.length+Y.length:Nat):Int)<(A.length:Nat))) (fun hh=>?_) (fun hh=>?_)
 ·refine yC0 _ (R:=G) h4 h5 fun X' M' Z' G' p1 p2 p3=>?_
  rw[e2,<-List.append_assoc]at p3
  obtain ⟨rfl,rfl⟩:=List.append_inj p3 (by rw[List.length_append,p1])
  refine ife (b:=decide (((X++Y).length:Int)<(X.length:Nat))) (fun h2=>?_) (fun h2=>?_)
  ·rw[List.length_append]at h2
   exact absurd (Int.ofNat_lt.mp (of_decide_eq_true h2)) (Nat.not_lt.mpr (Nat.le_add_right _ _))
  ·refine fin (A:=X) (M:=Y++M') (B:=Z') (k j (G++G') X Y Z' _ (qV0 e1 (qQ6 rfl)) e2 rfl rfl ?_) rfl ?_ ?_ rfl
   ·rw[List.length_append];exact Nat.not_lt.mp fun gz=>lin [_,_,_,_,_,_,_] [] [(1,.nl (.a (.v 0) (.a (.v 1) (.v 2))) (.c 2000)),(1,.nl (.v 3) (.v 1)),(1,.nl (.a (.v 4) (.a (.v 5) (.v 6))) (.a (.v 0) (.v 2))),(1,.nl (.a (.c 2000) (.c 1)) (.a (.v 4) (.a (.a (.v 5) (.v 3)) (.v 6))))] rfl h5 (Nat.le_of_eq p2) (Nat.le_of_eq el.symm) gz
   ·simp only[List.length_append];exact leq [_,_,_] [] (.il (.s (.a (.n (.a (.a (.v 0) (.v 1)) (.v 2))) (.n (.a (.v 0) (.v 1)))) (.n (.a (.v 0) (.v 1)))) (.n (.a (.v 0) (.a (.v 1) (.v 2))))) [] rfl
   ·simp only[List.append_assoc]
 ·have hh:=Int.ofNat_le.mp (Int.not_lt.mp (of_decide_eq_false hh))
  refine ife (b:=decide (((A.length:Nat):Int)<(X.length:Nat))) (fun h2=>?_) (fun h2=>?_)
  ·refine yC0 _ (R:=G) (Nat.le_trans h3 h4) h5 fun X' M' Z' G' p1 p2 p3=>?_
   rw[e2]at p3
   obtain ⟨rfl,rfl⟩:=List.append_inj p3 p1
   refine fin (A:=X') (M:=M'++Y) (B:=Z) (k j (G++G') X' Y Z _ (qV0 e1 (qQ6 rfl)) e2 rfl rfl ?_) rfl ?_ ?_ rfl
   ·rw[List.length_append];exact Nat.not_lt.mp fun gz=>lin [_,_,_,_,_,_,_] [] [(1,.nl (.a (.v 0) (.a (.v 1) (.v 2))) (.c 2000)),(1,.nl (.v 3) (.v 1)),(1,.nl (.a (.v 4) (.a (.v 5) (.v 6))) (.a (.v 0) (.v 2))),(1,.nl (.a (.c 2000) (.c 1)) (.a (.v 4) (.a (.a (.v 3) (.v 5)) (.v 6))))] rfl h5 (Nat.le_of_eq p2) (Nat.le_of_eq el.symm) gz
   ·simp only[List.length_append];exact leq [_,_,_] [] (.il (.s (.a (.n (.a (.v 0) (.v 1))) (.n (.a (.v 0) (.v 2)))) (.n (.v 0))) (.n (.a (.v 0) (.a (.v 1) (.v 2))))) [] rfl
   ·simp only[List.append_assoc]
  ·have h2:=Int.ofNat_le.mp (Int.not_lt.mp (of_decide_eq_false h2))
   obtain ⟨X',Y1,rfl,p1⟩:=qB5 A h2
   rw[List.append_assoc]at e2
   obtain ⟨rfl,e3⟩:=List.append_inj e2 p1
   rw[List.length_append]at hh
   obtain ⟨Y1',Y2,rfl,p2⟩:=qB5 Y (n:=Y1.length) (Nat.le_of_add_le_add_left hh)
   rw[List.append_assoc]at e3
   obtain ⟨rfl,rfl⟩:=List.append_inj e3 p2.symm
   refine fin (A:=X') (M:=Y1++(M++Y2)) (B:=Z) (k j G X' _ Z _ e1 (by simp only[List.append_assoc]) rfl rfl ?_) rfl ?_ ?_ rfl
   ·simp only[List.length_append]at *;exact Nat.not_lt.mp fun gz=>lin [_,_,_,_,_] [] [(1,.nl (.a (.a (.v 0) (.v 1)) (.a (.v 2) (.a (.v 3) (.v 4)))) (.c 2000)),(1,.nl (.a (.c 2000) (.c 1)) (.a (.v 0) (.a (.a (.v 1) (.a (.v 2) (.v 3))) (.v 4))))] rfl h5 gz
   ·simp only[List.length_append];exact leq [_,_,_,_] [] (.il (.s (.a (.n (.a (.a (.v 0) (.v 1)) (.v 2))) (.n (.a (.v 0) (.a (.v 1) (.v 3))))) (.n (.a (.v 0) (.v 1)))) (.n (.a (.v 0) (.a (.v 1) (.a (.v 2) (.v 3)))))) [] rfl
   ·simp only[List.append_assoc]
theorem wE3 {cells:List Int} {gs ge:Nat} (h1:gs<=ge) (h2:ge<=cells.length):∃ A M B,cells=A++(M++B)/\gs=A.length/\ge=A.length+M.length:=by
 obtain ⟨A,C,rfl,rfl⟩:=qB5 cells (Nat.le_trans h1 h2)
 rw[List.length_append]at h2
 obtain ⟨M,B,rfl,hM⟩:=qB5 C (n:=ge-A.length) (Nat.sub_le_iff_le_add'.mpr h2)
 exact ⟨A,M,B,rfl,rfl,by rw[hM];exact (Nat.add_sub_cancel' h1).symm⟩
theorem glr (A M B:List Int):(A++(M++B)).take A.length++(A++(M++B)).drop (A.length+M.length)=A++B:=by
 rw[List.take_left,<-List.append_assoc,<-List.length_append,List.drop_left]
theorem gln (A M B:List Int):(A++(M++B)).length=A.length+(M.length+B.length):=by rw[List.length_append,List.length_append]
theorem yE4 (A M B:List Int):A.length+((A++(M++B)).length-(A.length+M.length))=A.length+B.length:=by
 rw[gln,<-Nat.add_assoc,Nat.add_sub_cancel_left]
theorem yF5 {T X Y Z:List Int} {a b:Nat} (e:T=X++(Y++Z)) (h:X.length=a) (h':X.length+Y.length=b):(T.take b).drop a=Y/\T.take a++T.drop b=X++Z:=by
 subst e h h'
 refine ⟨?_,glr X Y Z⟩
 rw[<-List.append_assoc,<-List.length_append,List.take_left,List.drop_left]
theorem jX6 (sp:Sp) {cells:List Int} {gs ge:Nat} {K:AV->AH->Prop} (h1:gs<=ge) (h2:ge<=cells.length) (k:K (.int ((cells.take gs++cells.drop ge).length:Int)) [.inst 3 (gFs gs ge),.il cells]):evF sp [199] yX5 [.obj 0] [.inst 3 (gFs gs ge),.il cells] K fun J=>False:=by
 obtain ⟨A,M,B,rfl,rfl,rfl⟩:=wE3 h1 h2
 rw[glr,List.length_append]at k
 exact yR1 sp k
theorem yS5 (sp:Sp) {cells:List Int} {gs ge a b:Nat} {K:AV->AH->Prop} (h1:gs<=ge) (h2:ge<=cells.length) (h3:a<=b) (h4:b<=gs+(cells.length-ge)) (h5:cells.length<=2000)
  (k:∀ m G,2<=m->qQ0 ([.inst 3 (gFs gs ge),.il cells]++G) m=.il (((cells.take gs++cells.drop ge).take b).drop a)->K (.obj m) ([.inst 3 (gFs gs ge),.il cells]++G)) :
  evF sp [199,212,72] yJ2 [.obj 0,.int a,.int b] [.inst 3 (gFs gs ge),.il cells] K fun J=>False:=by
 obtain ⟨A,M,B,rfl,rfl,rfl⟩:=wE3 h1 h2
 rw[yE4]at h4
 rw[gln]at h5
 refine yL8 sp h3 h4 h5 fun j G X Y Z e1 e2 e3 e4=>k (j+2) G (Nat.le_add_left _ _) ?_
 rw[glr,(yF5 e2 e3 e4).1]
 exact e1
theorem jW9 {sp:Sp} (hs:sp=xF5) {cells:List Int} {gs ge a b:Nat} {K:AV->AH->Prop} (h1:gs<=ge) (h2:ge<=cells.length) (h3:a<=b) (h4:b<=gs+(cells.length-ge)) (h5:cells.length<=2000)
  (k:∀ m H' cells' (gs' ge':Nat),2<=m->qQ0 H' 0=.inst 3 (gFs gs' ge')->qQ0 H' 1=.il cells'->gs'<=ge'->ge'<=cells'.length->cells'.length<=2000->cells'.take gs'++cells'.drop ge'=(cells.take gs++cells.drop ge).take a++(cells.take gs++cells.drop ge).drop b->
   qQ0 H' m=.il (((cells.take gs++cells.drop ge).take b).drop a)->K (.obj m) H') :
  evF sp [199,212,72] yG4 [.obj 0,.int a,.int b] [.inst 3 (gFs gs ge),.il cells] K fun J=>False:=by
 obtain ⟨A,M,B,rfl,rfl,rfl⟩:=wE3 h1 h2
 rw[yE4]at h4
 rw[gln]at h5
 refine jZ4 hs h3 h4 h5 fun j G X Y Z M' e1 e2 e3 e4 e5=>k (j+2) _ (X++(M'++Z)) X.length (X.length+M'.length) (Nat.le_add_left _ _) rfl rfl (Nat.le_add_right _ _) (le3 ..) (by rw[gln];exact e5) ?_ ?_
 ·rw[glr,glr,(yF5 e2 e3 e4).2]
 ·rw[glr,(yF5 e2 e3 e4).1]
  exact e1
theorem jZ5 {sp:Sp} (hs:sp=xF5) {cells ys:List Int} {gs ge a:Nat} {K:AV->AH->Prop} (h1:gs<=ge) (h2:ge<=cells.length) (h3:a<=gs+(cells.length-ge)) (h5:cells.length<=2000) (h6:gs+(cells.length-ge)+ys.length<=1000) (h7:ys.length<=900)
  (k:∀ H' cells' (gs' ge':Nat),qQ0 H' 0=.inst 3 (gFs gs' ge')->qQ0 H' 1=.il cells'->qQ0 H' 2=.il ys->gs'<=ge'->ge'<=cells'.length->cells'.length<=2000->cells'.take gs'++cells'.drop ge'=(cells.take gs++cells.drop ge).take a++ys++(cells.take gs++cells.drop ge).drop a->K .none H') :
  evF sp [199,39,58] yF9 [.obj 0,.int a,.obj 2] [.inst 3 (gFs gs ge),.il cells,.il ys] K fun J=>False:=by
 obtain ⟨A,M,B,rfl,rfl,rfl⟩:=wE3 h1 h2
 rw[yE4]at h3 h6
 rw[gln]at h5
 refine yS8 hs h3 h5 h6 h7 fun X Y M' G e1 e2 e3=>k _ (X++ys++(M'++Y)) (X++ys).length ((X++ys).length+M'.length) rfl rfl rfl (Nat.le_add_right _ _) (le3 ..) (by rw[gln,List.length_append];exact e3) ?_
 rw[glr,glr,<-e2,<-e1,List.take_left,List.drop_left]
end Mine
end
namespace Mine
open PySem PySem.W PySem.Calls PyProof.Rows
theorem zP6:nm 193=Str.ofString "room"/\nm 54=Str.ofString "cells"/\nm 89=Str.ofString "gap_start"/\nm 88=Str.ofString "gap_end":=by decide +kernel
theorem qS6 {φ φu:FP}:∀{ps:List Nat} {as aus:List AV},(∀ i:Nat,∀ au,aus[i]?=some au->∃ a,as[i]?=some a/\∀ v,qQ1 φ a v->qQ1 φu au v)->∀ x avu,lk (ps.zip aus) x=some avu->∃ av,lk (ps.zip as) x=some av/\∀ v,qQ1 φ av v->qQ1 φu avu v:=@fun ξ ξ2 ξ3=>no_implicit_lambda%(match @ξ,@ξ2,@ξ3 with
 |[],as,aus=>@fun h x avu e=>nn e
 |p::ps,as,[]=>@fun h x avu e=>nn e
 |p::ps,[],au::aus=>@fun h x avu e=>by
  obtain ⟨a,h1,J⟩:=h 0 au rfl
  simp at h1
 |p::ps,a::as,au::aus=>@fun h x avu e=>by
  refine qC5 e (fun q e2=>?_) fun q e=>?_
  ·subst q;subst e2
   obtain ⟨a',h1,h2⟩:=h 0 au rfl
   obtain rfl:=Option.some.inj h1
   exact ⟨_,yM5 _ _ _,h2⟩
  ·obtain ⟨z1,z2,z3⟩:=qS6 (fun i au' h'=>h (i+1) au' h') x avu e
   exact ⟨z1,(zB7 q _ _).trans z2,z3⟩
 )
inductive yG6 (φ:FP) (h:Heap) (j:Nat) (xs:List Int):Prop where
 |mk (x d cl:Addr) (m:Str->Option Value) (its:Array Value) (n:Nat) (cells:List Int) (gs ge:Nat) (hx:φ[j]?=some [x,d,cl]) (h1:h.get? x=some (xM6 (qH5 3) d)) (h2:h.Ns1 d m) (h3:h.get? cl=some (wX2 its n)) (h4:IntsAre its.toList cells)
  (h5:gs<=ge) (h6:ge<=cells.length) (h7:xs=cells.take gs++cells.drop ge) (h8:cells.length<=2000) (h9:xs.length<=1000) (hF:∀ φu:FP,φu[1]?=some [cl]->wH4 φu m (gFs gs ge))
theorem wU8 {c:Cx} {φ:FP} {H:AH} {lc:Loc} {s:Shared} {j:Nat} {xs:List Int} (N:Now c φ H lc s) (e:qQ0 H j=.gp xs):yG6 φ s.heap j xs:=by
 obtain ⟨f,hf,x,d,m,cl,its,n,cells,gs,ge,tr,t1,t2,rfl,h1,h2,h3,h4,h5,h6,h7,h8,h9,h10⟩:=N.at e (qQ6 rfl)
 obtain ⟨n1,n2,n3,n4⟩:=zP6
 refine ⟨x,d,cl,m,its,n,cells,gs,ge,hf,h1,h2,h4,h5,h6,h7,h8,h9,h10,fun φu hu=>⟨fun a av q=>?_,fun y q=>?_⟩⟩
 ·refine qC5 q (fun e1 e2=>?_) fun e1 q=>qC5 q (fun e1 e2=>?_) fun e1 q=>qC5 q (fun e1 e2=>?_) fun e1 q=>qC5 q (fun e1 e2=>?_) fun e1 q=>nn q
  all_goals subst e1;subst e2
  ·exact ⟨.int 8 tr,by rw[h3,if_pos n1],tr,rfl⟩
  ·exact ⟨.ref cl,by rw[h3,if_neg (by rw[n2];decide +kernel),if_pos n2],cl,[],hu,rfl⟩
  ·exact ⟨_,by rw[h3,if_neg (by rw[n3];decide +kernel),if_neg (by rw[n3];decide +kernel),if_pos n3],t1,rfl⟩
  ·exact ⟨_,by rw[h3,if_neg (by rw[n4];decide +kernel),if_neg (by rw[n4];decide +kernel),if_neg (by rw[n4];decide +kernel),if_pos n4],t2,rfl⟩
 ·rw[h3]at q
  by_cases y1:y=Str.ofString "room"
  ·exact ⟨193,rfl,y1.trans n1.symm⟩
  ·rw[if_neg y1]at q
   by_cases y2:y=Str.ofString "cells"
   ·exact ⟨54,rfl,y2.trans n2.symm⟩
   ·rw[if_neg y2]at q
    by_cases y3:y=Str.ofString "gap_start"
    ·exact ⟨89,rfl,y3.trans n3.symm⟩
    ·rw[if_neg y3]at q
     by_cases y4:y=Str.ofString "gap_end"
     ·exact ⟨88,rfl,y4.trans n4.symm⟩
     ·rw[if_neg y4]at q;exact nf q
theorem xH3 {P:Params} {h:Heap} {φC:FP} {x d:Addr} {m:Str->Option Value} {fs:Loc} {q:Nat} {cl:Addr} {its:Array Value} {n:Nat} {cells:List Int} {gs ge:Nat} (h1:h.get? x=some (xM6 (qH5 3) d)) (h2:h.Ns1 d m) (hF:wH4 φC m fs) (hfs:fs=[(193,.int 8),(54,.obj q),(89,.int gs),(88,.int ge)])
  (hq:φC[q]?=some [cl]) (h4:h.get? cl=some (wX2 its n)) (h5:IntsAre its.toList cells) (h6:gs<=ge) (h7:ge<=cells.length) (h8:cells.length<=2000) (h9:(cells.take gs++cells.drop ge).length<=1000) (φ':FP):Cov P h φ' (.gp (cells.take gs++cells.drop ge)) [x,d,cl]:=by
 subst hfs
 obtain ⟨n1,n2,n3,n4⟩:=zP6
 obtain ⟨v1,e1,tr,rfl⟩:=hF.val 193 (.int 8) rfl
 obtain ⟨v2,e2,b,l,hb,rfl⟩:=hF.val 54 (.obj q) rfl
 rw[hq]at hb
 cases hb
 obtain ⟨v3,e3,t1,rfl⟩:=hF.val 89 (.int gs) rfl
 obtain ⟨v4,e4,t2,rfl⟩:=hF.val 88 (.int ge) rfl
 rw[n1]at e1
 rw[n2]at e2
 rw[n3]at e3
 rw[n4]at e4
 refine ⟨x,d,m,cl,its,n,cells,gs,ge,tr,t1,t2,rfl,h1,h2,fun y=>?_,h4,h5,h6,h7,rfl,h8,h9⟩
 by_cases y1:y=Str.ofString "room"
 ·rw[if_pos y1,y1,e1]
 ·rw[if_neg y1]
  by_cases y2:y=Str.ofString "cells"
  ·rw[if_pos y2,y2,e2]
  ·rw[if_neg y2]
   by_cases y3:y=Str.ofString "gap_start"
   ·rw[if_pos y3,y3,e3]
   ·rw[if_neg y3]
    by_cases y4:y=Str.ofString "gap_end"
    ·rw[if_pos y4,y4,e4]
    ·rw[if_neg y4]
     cases e:m y with
     |none=>rfl
     |some v=>
      exfalso
      obtain ⟨a,ha,hy⟩:=hF.only y (by rw[e];rfl)
      exact xD2 ha (fun a1=>y1 (hy.trans (a1▸n1))) fun ha=>xD2 ha (fun a1=>y2 (hy.trans (a1▸n2))) fun ha=>xD2 ha (fun a1=>y3 (hy.trans (a1▸n3))) fun ha=>xD2 ha (fun a1=>y4 (hy.trans (a1▸n4))) fun ha=>nf ha
section
variable {c:Cx} {φ:FP} {H:AH} {lc:Loc} {s:Shared}
theorem qF8 {j:Nat} {xs:List Int} {x d cl:Addr} {eu φC:FP} {H₂:AH} {lcC:Loc} {s':Shared} {cells:List Int} {gs ge:Nat} (N:Now c φ H lc s) (ej:qQ0 H j=.gp xs) (hx:φ[j]?=some [x,d,cl]) (su:∀ a∈([x,d]::[cl]::eu).flatten,a∈φ.flatten)
  (zu:∀ p∈c.fz,p.1∉([x,d]::[cl]::eu).flatten) (N2:Now (qB3 c s.heap ([x,d]::[cl]::eu)) φC H₂ lcC s') (h0:qQ0 H₂ 0=.inst 3 (gFs gs ge)) (h1:qQ0 H₂ 1=.il cells) (h2:gs<=ge) (h3:ge<=cells.length) (h4:cells.length<=2000) (h5:(cells.take gs++cells.drop ge).length<=1000)
  (oth:∀ k o f,k≠j->H[k]?=some o->φ[k]?=some f->(∀ a∈f,a∉([x,d]::[cl]::eu).flatten)∨Cov c.w.params s'.heap φ o f):Now c φ (qX7 H j (.gp (cells.take gs++cells.drop ge))) [] s':=by
 have Hj:=qW7 ej (qQ6 rfl)
 obtain ⟨g0,e0⟩:=N2.ext 0 [x,d] rfl
 obtain ⟨g1,e1⟩:=N2.ext 1 [cl] rfl
 obtain ⟨f0,hf0,x',d',m,q0,k1,k2,k3⟩:=N2.at h0 (qQ6 rfl)
 rw[e0]at hf0
 obtain rfl:=Option.some.inj hf0
 simp at q0
 obtain ⟨rfl,rfl,q0⟩:=q0
 obtain ⟨f1,hf1,cl',its,n,q1,k4,k5,k6⟩:=N2.at h1 (qQ6 rfl)
 rw[e1]at hf1
 obtain rfl:=Option.some.inj hf1
 simp at q1
 obtain ⟨rfl,q1⟩:=q1
 subst q1
 refine N.pack su N2 (by rw[qX2,List.length_set];exact N.rel.len) (fun k o f ek ef=>?_) N.rel.nd (fun a h=>.inr h) N.ext zu fun p hp=>?_
 ·by_cases q:k=j
  ·subst q
   rw[qX2,List.getElem?_set]at ek
   simp only[if_true]at ek
   rw[if_pos (List.getElem?_eq_some_iff.mp Hj).1]at ek
   obtain rfl:=Option.some.inj ek
   rw[hx]at ef
   obtain rfl:=Option.some.inj ef
   exact xH3 k1 k2 k3 rfl (by simpa using e1) k4 k5 h2 h3 h4 h5 φ
  ·rw[qX2,List.getElem?_set,if_neg (fun z=>q z.symm)]at ek
   rcases oth k o f q ek ef with z|z
   ·exact (N.rel.cov k o f ek ef).move (Ext.refl φ) fun a ha ob h=>N.others N2 (qQ5 ef ha) (z a ha) h
   ·exact z
 ·obtain ⟨k,es,z1,z2⟩:=N.fzh p hp
  refine ⟨k,es,?_,z2⟩
  rw[qX2,List.getElem?_set,if_neg]
  ·exact z1
  ·intro z
   subst z
   rw[Hj]at z1;exact qY1 (Option.some.inj z1) rfl
theorem xV1 {φu φC:FP} {H₂:AH} {lcC:Loc} {s':Shared} {m:Nat} {ys:List Int} {v:Value} (N:Now c φ H lc s) (N2:Now (qB3 c s.heap φu) φC H₂ lcC s') (hm:φu.length<=m) (e:qQ0 H₂ m=.il ys) (hv:qQ1 φC (.obj m) v) {HB:AH} (N1:Now c φ HB [] s') :
  ∃ r,v=.ref r/\Now c (φ++[[r]]) (HB++[.il ys]) [] s'/\qQ1 (φ++[[r]]) (.obj HB.length) v:=by
 obtain ⟨r,its,n,rfl,hr,h1,h2,h3⟩:=qV7 N2 e hv
 have fresh:s.heap.get? r=none:=by
  have hin:r∈φC.flatten:=qQ5 hr (.head _)
  rcases N2.own r hin with z|z
  ·exfalso
   obtain ⟨f,hf,hrf⟩:=List.mem_flatten.mp z
   obtain ⟨k,hk⟩:=List.getElem?_of_mem hf
   have hk':φu[k]?=some f:=hk
   obtain ⟨g,hg⟩:=N2.ext k f hk
   have:=qW1 (a:=r) N2.rel.nd hg hr (List.mem_append_left _ hrf) (by first|exact qQ6 rfl|exact .head _|simp)
   have hlt:=(List.getElem?_eq_some_iff.mp hk').1
   omega
  ·exact z
 have U:=N.untr fresh
 refine ⟨r,rfl,N1.adopt U h1 (.il ys) ⟨r,its,n,rfl,h1,h2,h3⟩,?_⟩
 exact qV6 N1.rel _ _
end
theorem wZ9 (P:Params):(yZ1.all fun p=>wH6 (KP P) p.1 p.2.1 p.2.2)=true:=by kernel_rfl!
theorem yG2 (P:Params):wH6 (KP P) 446 [199,39,58] yF9=true:=by kernel_rfl!
theorem yA9 (P:Params):wH6 (KP P) 453 [199,212,72] yG4=true:=by kernel_rfl!
theorem yK0 (P:Params):wH6 (KP P) 404 [199,58,193] yM4=true:=by kernel_rfl!
noncomputable abbrev qV9 (c:Cx) (A:Around) (φ:FP) (lc:Loc) (f:Addr) (vs:List Value) (K:AV->AH->Prop) (s:Shared):Prop:=
 codeAny (MM c) A (.call (.ref f) ⟨vs,[]⟩) (fun r s'=>match r with|.ok (.ret v)=>qX1 c φ lc K v s'|J=>False) s
section
variable {c:Cx} {A:Around} {n:Nat} {sp:Sp} {φ:FP} {H:AH} {lc:Loc} {s:Shared}
theorem xC2 {K:Frag} {f:Addr} {ps:List Nat} {b:Ys} (h:wH6 K f ps b=true):∃ oc od fd sl body,K.lookup f=some ⟨oc,od,.func fd,sl⟩/\fd.defaults=.none/\zH6 K fd ps b body:=by
 refine wF7 h fun oc od fd sl e h=>?_
 obtain ⟨body,F⟩:=zN4 (tt2 h).2
 exact ⟨oc,od,fd,sl,body,e,ttd (tt2 h).1,F⟩
theorem xM8 {K:Frag} {f:Addr} {ps:List Nat} {b:Ys} (h:xC3 K f ps b=true):∃ oc od fd sl body,K.lookup f=some ⟨oc,od,.func fd,sl⟩/\fd.defaults=.none/\xB8 K fd ps (fun body=>mYs fd.scope b body) body:=by
 refine wF7 h fun oc od fd sl e h=>?_
 obtain ⟨body,F⟩:=xR7 (tt2 h).2
 exact ⟨oc,od,fd,sl,body,e,ttd (tt2 h).1,F⟩
theorem qG2 {K:Frag} {fd:FuncData} {ps:List Nat} {b:Ys} {body:List Stmt} (F:zH6 K fd ps b body) (hd:fd.defaults=.none) {vs:List Value} (hl:vs.length=ps.length):BindsTo s fd ⟨vs,[]⟩ ((ps.map nm).zip vs):=by
 refine BindsTo.of_eq ?_
 have:=qD9 (vs:=vs) F.po F.va F.ko F.kw hd (by rw[F.ar];exact F.nd.map _ fun a b q e=>q (qK6 e)) (by rw[F.ar];simpa using hl)
 rw[F.ar]at this
 exact this
set_option tactic.hygienic true in
theorem qN9 (S:qY4 n sp) (O:Ok c A (n+2)) (N:Now c φ H lc s) {args:List AV} {vs:List Value} (hv:qQ4 φ args vs) {f:Addr} {ps:List Nat} {b:Ys} {K:AV->AH->Prop} (hfn:wH6 (KP c.w.params) f ps b=true) (h:evF sp ps b args H K fun J=>False):qV9 c A φ lc f vs K s:=by
 obtain ⟨oc,od,fd,sl,body,hf,hd,F⟩:=xC2 hfn
 unfold evF at h
 split at h<;>first|exact h.elim|skip
 rename_i hl
 have hl':vs.length=ps.length:=by rw[hv.len];exact (beq_eq hl).symm
 exact wZ7 (E:=NoE) S O N hf F (qG2 F hd hl') hl' hv h (fun A'=>qW4 S) (fun v s' g=>g) (fun J J e=>e.elim)
set_option tactic.hygienic true in
theorem wI8 (S:qY4 n sp) (O:Ok c A (n+2)) (N:Now c φ H lc s) {args:List AV} {vs:List Value} (hv:qQ4 φ args vs) {f:Addr} {ps:List Nat} {b:Ys} {K:AV->AH->Prop} (hfn:xC3 (KP c.w.params) f ps b=true) (h:evF sp ps b args H K fun J=>False):qV9 c A φ lc f vs K s:=by
 obtain ⟨oc,od,fd,sl,body,hf,hd,F⟩:=xM8 hfn
 unfold evF at h
 split at h<;>first|exact h.elim|skip
 rename_i hl
 have hl':vs.length=ps.length:=by rw[hv.len];exact (beq_eq hl).symm
 refine qS1 O N hf F hd hl' hv (fun sB O' V' N'=>?_) (fun v s' g=>g)
 exact qK8 S b O' V' (qW4 S) F.ok N' h
theorem xU8:qY4 0 fun J J J J J=>False:=fun J J J J J J J J J J J J J h=>h.elim
set_option tactic.hygienic true in
theorem wO5:qY4 2 xF5:=by
 intro c A φ H lc s f args vs K O N hv h
 unfold xF5 yM9 at h
 split at h<;>first|exact h.elim|skip
 rename_i ps b e
 exact qN9 xU8 O N hv (List.all_eq_true.mp (wZ9 c.w.params) _ (qX4 e)) h
theorem Ok.small (O:Ok c A n) (h:Heap) (φu:FP):Ok (qB3 c h φu) A n:=⟨O.base,O.lb,O.lc,O.ch,O.ci,O.frames,O.room⟩
theorem qQ2.small {env:Env} (V:qQ2 c env) (h:Heap) (φu:FP):qQ2 (qB3 c h φu) env:=⟨V.kind,V.loc,V.glo,V.bui,V.lo,V.ce⟩
noncomputable def yG0 (f:Flow) (v:Value) (av:AV):Prop:=(f=.next/\v=.none/\av=.none)∨f=.ret v
theorem qE5 {env:Env} (S:qY4 n sp) (O:Ok c A (n+1)) (V:qQ2 c env) (N:Now c φ H lc s) {φu:FP} {Hu:AH} {lcu:Loc} (len:φu.length=Hu.length) (cov:∀(k:Nat) (o:AO) (f:List Addr),Hu[k]?=some o->φu[k]?=some f->Cov c.w.params s.heap φu o f) (nd:φu.flatten.Nodup)
  (sub:∀ a∈φu.flatten,a∈φ.flatten) (hlc:∀ x avu,lk lcu x=some avu->∃ av,lk lc x=some av/\∀ v,qQ1 φ av v->qQ1 φu avu v) {b:Ys} {body:List Stmt} (hb:mYs env.scope b body=true) {K:AV->AH->Prop} (h:exs sp (fun J=>False) K b lcu Hu fun J H=>K .none H)
  {Q:Flow->Shared->Prop} (q:∀ f s' φC H₂ lcC v av,yG0 f v av->Now (qB3 c s.heap φu) φC H₂ lcC s'->qQ1 φC av v->K av H₂->Q f s'):wpAny (MM c) A (execs body env) Q NoE s:=by
 have Nu:=N.reform len cov nd sub hlc
 refine wpAny_mono (qK8 (c:=qB3 c s.heap φu) S b (O.small _ _) (V.small _ _) (qW4 S) hb Nu h) (fun f s' g=>?_) fun J J e=>e
 cases f with
 |next=>
  obtain ⟨φC,H₂,lcC,x,N2,k⟩:=g
  exact q _ s' φC H₂ lcC .none .none (.inl ⟨rfl,rfl,rfl⟩) N2 rfl k
 |ret v=>
  obtain ⟨φC,H₂,lcC,av,x,N2,hv,k⟩:=g
  exact q _ s' φC H₂ lcC v av (.inr rfl) N2 hv k
 |_=>exact g.elim
theorem qA0 {f:Flow} {v:Value} {av av':AV} {φ':FP} {H':AH} {s':Shared} {K:AV->AH->Prop} (w:yG0 f v av) (e:av=.none->av'=.none) (x:Ext φ φ') (N':Now c φ' H' [] s') (hv:qQ1 φ' av' v) (k:K av' H'):qZ4 c φ K (fun J H=>K .none H) f s':=by
 rcases w with ⟨rfl,rfl,rfl⟩|rfl
 ·rw[e rfl]at k
  exact ⟨φ',H',[],x,N',k⟩
 ·exact ⟨φ',H',[],av',x,N',hv,k⟩
theorem nd3 {x d cl:Addr} {j:Nat} (nd:φ.flatten.Nodup) (h:φ[j]?=some [x,d,cl]):[x,d,cl].Nodup:=by
 have hm:[x,d,cl]∈φ:=List.mem_of_getElem? h
 exact (List.pairwise_flatten.mp nd).1 _ hm
theorem qO7 {env:Env} (O:Ok c A 3) (V:qQ2 c env) (N:Now c φ H lc s) {j:Nat} {xs:List Int} (ej:qQ0 H j=.gp xs) {ps:List Nat} {as aus:List AV} {b:Ys} {body:List Stmt} (hlc:lc=ps.zip (.obj j::as)) (hb:mYs env.scope b body=true) {K KR:AV->AH->Prop}
  (ha:∀ φu:FP,∀ i:Nat,∀ au,aus[i]?=some au->∃ a,as[i]?=some a/\∀ v,qQ1 φ a v->qQ1 φu au v)
  (h:∀ cells gs ge,gs<=ge->ge<=cells.length->xs=cells.take gs++cells.drop ge->cells.length<=2000->exs xF5 (fun J=>False) K b (ps.zip (.obj 0::aus)) [.inst 3 (gFs (gs:Nat) (ge:Nat)),.il cells] fun J H=>K .none H)
  (q:∀ f s' x d cl φC H₂ lcC v av,yG0 f v av->φ[j]?=some [x,d,cl]->(∀ a∈[[x,d],[cl]].flatten,a∈φ.flatten)->(∀ p∈c.fz,p.1∉[[x,d],[cl]].flatten)->(∀ k o f,k≠j->H[k]?=some o->φ[k]?=some f->(∀ a∈f,a∉[[x,d],[cl]].flatten)∨Cov c.w.params s'.heap φ o f)->
   Now (qB3 c s.heap [[x,d],[cl]]) φC H₂ lcC s'->qQ1 φC av v->K av H₂->qZ4 c φ KR (fun J H=>KR .none H) f s'):wpAny (MM c) A (execs body env) (qZ4 c φ KR fun J H=>KR .none H) NoE s:=by
 obtain ⟨x,d,cl,m,its,nn,cells,gs,ge,hx,h1,h2,h3,h4,h5,h6,h7,h8,h9,hF⟩:=wU8 N ej
 have fl:∀ a∈[[x,d],[cl]].flatten,a∈[x,d,cl]:=fun a h=>by simpa using h
 have su:∀ a∈[[x,d],[cl]].flatten,a∈φ.flatten:=fun a h=>qQ5 hx (fl a h)
 refine qE5 wO5 O V N (φu:=[[x,d],[cl]]) (Hu:=[.inst 3 (gFs gs ge),.il cells]) rfl (fun k o f e1 e2=>?_) (by simpa using nd3 N.rel.nd hx) su ?_ hb (h cells gs ge h5 h6 h7 h8) fun f s' φC H₂ lcC v av w N2 hv k=>?_
 ·match k with
  |0=>obtain rfl:=Option.some.inj e1;obtain rfl:=Option.some.inj e2;exact ⟨x,d,m,rfl,h1,h2,hF _ rfl⟩
  |1=>obtain rfl:=Option.some.inj e1;obtain rfl:=Option.some.inj e2;exact ⟨cl,its,nn,rfl,h3,h4,by exact Nat.not_lt.mp fun gz=>lin [_] [] [(1,.nl (.v 0) (.c 2000)),(1,.nl (.a (.c 10000) (.c 1)) (.v 0))] rfl h8 gz⟩
  |k+2=>simp at e1
 ·subst hlc
  refine qS6 fun i au e=>?_
  cases i with
  |zero=>
   obtain rfl:=Option.some.inj e
   exact ⟨_,rfl,fun v ⟨a,l,e1,e2⟩=>by rw[hx]at e1;cases e1;exact ⟨x,[d],rfl,e2⟩⟩
  |succ i=>simpa using ha _ i au (by simpa using e)
 ·refine q f s' x d cl φC H₂ lcC v av w hx su (fun p hp hin=>?_) (fun k o f hk ek ef=>.inl fun a ha hin=>?_) N2 hv k
  ·obtain ⟨k,es,z1,z2⟩:=N.fzh p hp
   have:=qW1 (a:=p.1) N.rel.nd hx z2 (fl _ hin) (.head _)
   subst this
   rw[qW7 ej (qQ6 rfl)]at z1;exact qY1 (Option.some.inj z1) rfl
  ·exact hk (qW1 N.rel.nd ef hx ha (fl _ hin))
end
theorem qD2:∀{H:AH} {k:Nat} {o:AO},qQ0 H k=o->qX7 H k o=H:=@fun ξ ξ2=>no_implicit_lambda%(match @ξ,@ξ2 with
 |[],J=>@fun J2 J3=>rfl
 |J::J2,0=>@fun J3 e=>by subst e;rfl
 |a::r,k+1=>@fun o e=>congrArg (a::·) (qD2 (H:=r) (k:=k) e)
 )
theorem qP3 (H:AH) (k:Nat) (o:AO):(qX7 H k o).length=H.length:=by rw[qX2,List.length_set]
inductive xD9 (xs:List Int) (H:AH):Prop where
 |mk (cells:List Int) (gs ge:Nat) (k1:gs<=ge) (k2:ge<=cells.length) (k3:cells.take gs++cells.drop ge=xs) (k4:cells.length<=2000) (k5:qQ0 H 0=.inst 3 (gFs gs ge)) (k6:qQ0 H 1=.il cells)
inductive xI1 (ys xs:List Int) (av:AV) (H:AH):Prop where
 |mk (m:Nat) (e:av=.obj m) (hm:2<=m) (hg:qQ0 H m=.il ys) (g:xD9 xs H)
section
variable {P:Prop}
theorem qD3 {A B:Prop} {a b:Nat} (h:match Nat.beq a b with|true=>A|false=>B) (q1:a=b->A->P) (q2:B->P):P:=by
 cases e:Nat.beq a b<;>rw[e]at h
 ·exact q2 h
 ·exact q1 (Nat.eq_of_beq_eq_true e) h
theorem yQ2 {y:AV} {l:List AV} {A:Prop} (h:match y::l with|[J]=>A|_=>False) (q:l=[]->A->P):P:=by
 cases l<;>first|exact False.elim h|exact q rfl h
set_option tactic.hygienic true in
theorem xN7 {y:AV} {l:List AV} {A:Int->Int->Prop} (h:match y::l with|[J,.int a,.int b]=>A a b|_=>False) (q:∀ a b,l=[.int a,.int b]->A a b->P):P:=by
 cases l<;>first|exact False.elim h|skip
 rename_i u l
 cases l<;>first|(cases u<;>exact False.elim h)|skip
 rename_i v l
 cases l<;>cases u<;>first|exact False.elim h|skip
 all_goals cases v<;>first|exact False.elim h|exact q _ _ rfl h
set_option tactic.hygienic true in
theorem zN0 {y:AV} {l:List AV} {A:Int->Nat->Prop} (h:match y::l with|[J,.int a,.obj b]=>A a b|_=>False) (q:∀ a b,l=[.int a,.obj b]->A a b->P):P:=by
 cases l<;>first|exact False.elim h|skip
 rename_i u l
 cases l<;>first|(cases u<;>exact False.elim h)|skip
 rename_i v l
 cases l<;>cases u<;>first|exact False.elim h|skip
 all_goals cases v<;>first|exact False.elim h|exact q _ _ rfl h
end
noncomputable def yX2 (f j:Nat) (xs:List Int) (args:List AV) (H:AH) (K:AV->AH->Prop):Prop:=match Nat.beq f 411 with
 |true=>match args with|[J]=>K (.int xs.length) H|J=>False
 |false=>match Nat.beq f 425 with
  |true=>match args with|[J,.int a,.int b]=>0<=a/\a<=b/\b<=xs.length/\K (.obj H.length) (H++[.il ((xs.take b.toNat).drop a.toNat)])|J=>False
  |false=>match Nat.beq f 446 with
   |true=>match args with
    |[J,.int a,.obj l]=>match qQ0 H l with
     |.il ys=>0<=a/\a<=xs.length/\xs.length+ys.length<=1000/\ys.length<=900/\K .none (qX7 H j (.gp (xs.take a.toNat++ys++xs.drop a.toNat)))
     |J=>False
    |J=>False
   |false=>match Nat.beq f 453 with
    |true=>match args with|[J,.int a,.int b]=>0<=a/\a<=b/\b<=xs.length/\K (.obj H.length) (qX7 H j (.gp (xs.take a.toNat++xs.drop b.toNat))++[.il ((xs.take b.toNat).drop a.toNat)])|J=>False
    |false=>False
noncomputable def wI7 (args:List AV) (H:AH) (K:AV->AH->Prop):Prop:=match args with
 |[.obj j,.obj l,.int i]=>match qQ0 H j,qQ0 H l with
  |.inst c fs,.il xs=>match Nat.beq c 3,fs,xs with
   |true,[],[]=>i=8/\K .none (qX7 H j (.gp []))
   |J,J2,J3=>False
  |J,J2=>False
 |J=>False
theorem jJ7 {K:AV->AH->Prop} (k:∀ H q,2<=q->qQ0 H 0=.inst 3 [(193,.int 8),(54,.obj q),(89,.int (0:Nat)),(88,.int (8:Nat))]->qQ0 H q=.il (List.replicate 8 0)->qQ0 H 1=.il []->K .none H) :
  evF (fun J J J J J=>False) [199,58,193] yM4 [.obj 0,.obj 1,.int 8] [.inst 3 [],.il []] K fun J=>False:=by
 (conv=>whnf)
 refine And.intro (by decide) (And.intro (by decide) ?_)
 (conv=>whnf)
 refine And.intro (by decide) ?_
 (conv=>whnf)
 exact k _ 5 (by decide) rfl rfl rfl
section
variable {c:Cx} {A:Around} {n:Nat} {sp:Sp} {φ:FP} {H:AH} {lc:Loc} {s:Shared}
theorem yJ7 {i:Int}:∀(φ φu:FP) (v:Value),qQ1 φ (.int i) v->qQ1 φu (.int i) v:=fun J J J h=>h
theorem qU5 (O:Ok c A (n+2)) (N:Now c φ H lc s) {args:List AV} {vs:List Value} (hv:qQ4 φ args vs) {f:Addr} {ps:List Nat} {b:Ys} {K:AV->AH->Prop} (hfn:wH6 (KP c.w.params) f ps b=true) (hlen:ps.length=args.length)
  (h:∀(c':Cx) A' env body sB,c'.w=c.w->Ok c' A' (n+1)->qQ2 c' env->Now c' φ H (ps.zip args) sB->mYs env.scope b body=true->wpAny (MM c') A' (execs body env) (qZ4 c' φ K fun J H=>K .none H) NoE sB):qV9 c A φ lc f vs K s:=by
 obtain ⟨oc,od,fd,sl,body,hf,hd,F⟩:=xC2 hfn
 have hl':vs.length=ps.length:=by rw[hv.len];exact hlen.symm
 exact xG2 (E:=NoE) (b:=b) O N hf F (qG2 F hd hl') hl' hv (fun sB O' V' N'=>h (qX9 c s φ (callEnv fd s.heap.objs.size f) []) _ _ body sB rfl O' V' N' F.ok) (fun v s' g=>g) (fun J J e=>e.elim)
theorem wZ1 (N:Now c φ H lc s) {j:Nat} {xs:List Int} (ej:qQ0 H j=.gp xs):xs.length<=1000:=by
 obtain ⟨J,J,J,J,J,J,J,J,J,J,J,J,J,J,J,J,J,J,z,J⟩:=wU8 N ej
 exact z
theorem wE9 {φ:FP} {a b:Int} (φu:FP) (i:Nat) (au:AV) (e:[AV.int a,.int b][i]?=some au):∃ u,[AV.int a,.int b][i]?=some u/\∀ v,qQ1 φ u v->qQ1 φu au v:=
 ⟨au,e,match i,e with
  |0,e=>by obtain rfl:=Option.some.inj e;exact fun J h=>h
  |1,e=>by obtain rfl:=Option.some.inj e;exact fun J h=>h
  |i+2,e=>by simp at e⟩
theorem zO7 (O:Ok c A 4) (N:Now c φ H lc s) {j:Nat} {xs:List Int} {vs:List Value} (hv:qQ4 φ [.obj j] vs) (ej:qQ0 H j=.gp xs) {K:AV->AH->Prop} (h:K (.int xs.length) H):qV9 c A φ lc 411 vs K s:=by
 refine qU5 (n:=2) O N hv (List.all_eq_true.mp (wZ9 c.w.params) (411,[199],yX5) (by simp[yZ1])) rfl fun c' A' env body sB hw O' V' N' hb=>?_
 refine qO7 O' V' N' ej (as:=[]) (aus:=[]) rfl hb (K:=fun av H₂=>av=.int xs.length/\xD9 xs H₂) (fun φu i au e=>by simp at e) (fun cells gs ge q1 q2 q3 q4=>?_) fun f s' x d cl φC H₂ lcC v av w hx su zu oth N2 hv k=>?_
 ·subst q3
  exact jX6 xF5 (K:=fun av H₂=>av=.int (List.take gs cells++List.drop ge cells).length/\xD9 (List.take gs cells++List.drop ge cells) H₂) q1 q2 ⟨rfl,cells,gs,ge,q1,q2,rfl,q4,rfl,rfl⟩
 ·obtain ⟨rfl,cells,gs,ge,k1,k2,k3,k4,k5,k6⟩:=k
  have N3:=qF8 N' ej hx su zu N2 k5 k6 k1 k2 k4 (by rw[k3];exact wZ1 N' ej) oth
  rw[k3,qD2 ej]at N3
  exact qA0 w (fun e=>by injection e) (Ext.refl φ) N3 (show qQ1 φ (.int xs.length) v from hv) h
theorem zE1 (O:Ok c A 4) (N:Now c φ H lc s) {j:Nat} {xs:List Int} {a b:Nat} {vs:List Value} (hv:qQ4 φ [.obj j,.int a,.int b] vs) (ej:qQ0 H j=.gp xs) {K:AV->AH->Prop} (h1:a<=b) (h2:b<=xs.length) (h:K (.obj H.length) (H++[.il ((xs.take b).drop a)])):qV9 c A φ lc 425 vs K s:=by
 refine qU5 (n:=2) O N hv (List.all_eq_true.mp (wZ9 c.w.params) (425,[199,212,72],yJ2) (by simp[yZ1])) rfl fun c' A' env body sB hw O' V' N' hb=>?_
 refine qO7 O' V' N' ej (as:=[.int a,.int b]) (aus:=[.int a,.int b]) rfl hb (K:=xI1 ((xs.take b).drop a) xs) wE9 (fun cells gs ge q1 q2 q3 q4=>?_) fun f s' x d cl φC H₂ lcC v av w hx su zu oth N2 hv k=>?_
 ·rw[q3,List.length_append,List.length_take,List.length_drop,Nat.min_eq_left (Nat.le_trans q1 q2)]at h2
  subst q3
  exact yS5 xF5 q1 q2 h1 h2 q4 fun m G hm hg=>⟨m,rfl,hm,hg,cells,gs,ge,q1,q2,rfl,q4,rfl,rfl⟩
 ·obtain ⟨m,rfl,hm,hg,cells,gs,ge,k1,k2,k3,k4,k5,k6⟩:=k
  have N3:=qF8 N' ej hx su zu N2 k5 k6 k1 k2 k4 (by rw[k3];exact wZ1 N' ej) oth
  rw[k3,qD2 ej]at N3
  obtain ⟨r,rfl,N4,hv4⟩:=xV1 N' N2 hm hg hv N3
  exact qA0 w (fun e=>by injection e) (Ext.app φ _) N4 hv4 h
theorem zD6 (O:Ok c A 4) (N:Now c φ H lc s) {j:Nat} {xs:List Int} {a b:Nat} {vs:List Value} (hv:qQ4 φ [.obj j,.int a,.int b] vs) (ej:qQ0 H j=.gp xs) {K:AV->AH->Prop} (h1:a<=b) (h2:b<=xs.length) (h:K (.obj H.length) (qX7 H j (.gp (xs.take a++xs.drop b))++[.il ((xs.take b).drop a)])):qV9 c A φ lc 453 vs K s:=by
 refine qU5 (n:=2) O N hv (yA9 c.w.params) rfl fun c' A' env body sB hw O' V' N' hb=>?_
 refine qO7 O' V' N' ej (as:=[.int a,.int b]) (aus:=[.int a,.int b]) rfl hb (K:=xI1 ((xs.take b).drop a) (xs.take a++xs.drop b)) wE9 (fun cells gs ge q1 q2 q3 q4=>?_) fun f s' x d cl φC H₂ lcC v av w hx su zu oth N2 hv k=>?_
 ·rw[q3,List.length_append,List.length_take,List.length_drop,Nat.min_eq_left (Nat.le_trans q1 q2)]at h2
  subst q3
  exact jW9 rfl q1 q2 h1 h2 q4 fun m H' cells' gs' ge' hm e0 e1 r1 r2 r3 r4 hg=>⟨m,rfl,hm,hg,cells',gs',ge',r1,r2,r4,r3,e0,e1⟩
 ·obtain ⟨m,rfl,hm,hg,cells,gs,ge,k1,k2,k3,k4,k5,k6⟩:=k
  have N3:=qF8 N' ej hx su zu N2 k5 k6 k1 k2 k4 (by rw[k3,List.length_append,List.length_take,List.length_drop];exact Nat.le_trans (Nat.add_le_add_right (Nat.min_le_left _ _) _) (Nat.le_trans (Nat.add_le_add_right h1 _) (Nat.le_trans (Nat.le_of_eq (Nat.add_sub_cancel' h2)) (wZ1 N' ej)))) oth
  rw[k3]at N3
  obtain ⟨r,rfl,N4,hv4⟩:=xV1 N' N2 hm hg hv N3
  rw[qP3]at hv4
  exact qA0 w (fun e=>by injection e) (Ext.app φ _) N4 hv4 h
theorem zB6 (O:Ok c A 4) (N:Now c φ H lc s) {j:Nat} {xs:List Int} {a l:Nat} {ys:List Int} {vs:List Value} (hv:qQ4 φ [.obj j,.int a,.obj l] vs) (ej:qQ0 H j=.gp xs) {K:AV->AH->Prop} (el:qQ0 H l=.il ys) (h1:a<=xs.length) (h2:xs.length+ys.length<=1000) (h3:ys.length<=900) (h:K .none (qX7 H j (.gp (xs.take a++ys++xs.drop a)))):qV9 c A φ lc 446 vs K s:=by
 refine qU5 (n:=2) O N hv (yG2 c.w.params) rfl fun c' A' env body sB hw O' V' N' hb=>?_
 obtain ⟨x,d,cl,m,its,nn,cells,gs,ge,hx,g1,g2,g3,g4,g5,g6,g7,g8,g9,hF⟩:=wU8 N' ej
 obtain ⟨fy,hfy,y,its',n',rfl,y1,y2,y3⟩:=N'.at el (qQ6 rfl)
 have jl:l≠j:=by intro z;subst z;rw[ej]at el;cases el
 have ymem:∀ b∈[x,d,cl],b≠y:=fun b hb z=>jl (qW1 (a:=y) N'.rel.nd hfy hx (.head _) (z▸hb))
 have fl:∀ b∈[[x,d],[cl],[y]].flatten,b∈[x,d,cl]∨b=y:=fun b h=>by simpa [or_assoc] using h
 have su:∀ b∈[[x,d],[cl],[y]].flatten,b∈φ.flatten:=fun b h=>(fl b h).elim (fun h=>qQ5 hx h) fun h=>qQ5 hfy (by simp[h])
 have hl:=congrArg List.length g7
 simp only[List.length_append,List.length_take,List.length_drop]at hl
 refine qE5 wO5 O' V' N' (φu:=[[x,d],[cl],[y]]) (Hu:=[.inst 3 (gFs gs ge),.il cells,.il ys]) (lcu:=[199,39,58].zip [.obj 0,.int a,.obj 2]) rfl (fun k o f e1 e2=>?_) ?_ su ?_ hb
  (K:=fun av H₂=>av=.none/\qQ0 H₂ 2=.il ys/\xD9 (xs.take a++ys++xs.drop a) H₂) ?_ fun f s' φC H₂ lcC v av w N2 hv k=>?_
 ·match k with
  |0=>cases e1;cases e2;exact ⟨x,d,m,rfl,g1,g2,hF _ rfl⟩
  |1=>cases e1;cases e2;exact ⟨cl,its,nn,rfl,g3,g4,by exact Nat.not_lt.mp fun gz=>lin [_] [] [(1,.nl (.v 0) (.c 2000)),(1,.nl (.a (.c 10000) (.c 1)) (.v 0))] rfl g8 gz⟩
  |2=>cases e1;cases e2;exact ⟨y,its',n',rfl,y1,y2,y3⟩
  |k+3=>simp at e1
 ·have z:=nd3 N'.rel.nd hx
  have e:[[x,d],[cl],[y]].flatten=[x,d,cl]++[y]:=rfl
  rw[e]
  exact List.nodup_append.mpr ⟨z,by simp,fun b hb b' hb' e=>ymem b hb (by simp at hb';rw[e,hb'])⟩
 ·refine qS6 fun i au e=>?_
  match i,e with
  |0,e=>cases e;exact ⟨_,rfl,fun v ⟨a,l,e1,e2⟩=>by rw[hx]at e1;cases e1;exact ⟨x,[d],rfl,e2⟩⟩
  |1,e=>cases e;exact ⟨_,rfl,fun v h=>h⟩
  |2,e=>cases e;exact ⟨_,rfl,fun v ⟨a,l,e1,e2⟩=>by rw[hfy]at e1;cases e1;exact ⟨y,[],rfl,e2⟩⟩
  |i+3,e=>simp at e
 ·subst g7
  exact jZ5 rfl g5 g6 (by exact Nat.not_lt.mp fun gz=>lin [_,_,_,_,_] [] [(1,.nl (.v 0) (.v 1)),(1,.nl (.v 1) (.a (.v 2) (.v 3))),(1,.nl (.v 2) (.v 4)),(1,.nl (.a (.a (.v 4) (.v 3)) (.c 1)) (.v 0))] rfl h1 (Nat.le_of_eq hl) (Nat.min_le_left (gs) (cells.length)) gz) g8 (by omega) (by exact Nat.not_lt.mp fun gz=>lin [_] [] [(1,.nl (.v 0) (.c 900)),(1,.nl (.a (.c 900) (.c 1)) (.v 0))] rfl h3 gz) fun H' cells' gs' ge' q1 q2 q3 q4 q5 q6 q7=>⟨rfl,q3,cells',gs',ge',q4,q5,q7,q6,q1,q2⟩
 ·obtain ⟨rfl,ky,cells',gs',ge',k1,k2,k3,k4,k5,k6⟩:=k
  have N3:=qF8 (eu:=[[y]]) N' ej hx su (fun p hp hin=>?_) N2 k5 k6 k1 k2 k4 (by rw[k3];simp only[List.length_append,List.length_take,List.length_drop];omega) fun k o f hk ek ef=>?_
  ·rw[k3]at N3
   exact qA0 w (fun e=>e) (Ext.refl φ) N3 hv h
  ·obtain ⟨k,es,z1,z2⟩:=N'.fzh p hp
   rcases fl _ hin with z|z
   ·have:=qW1 (a:=p.1) N'.rel.nd hx z2 z (.head _)
    subst this
    rw[qW7 ej (qQ6 rfl)]at z1;exact qY1 (Option.some.inj z1) rfl
   ·have:=qW1 (a:=p.1) N'.rel.nd hfy z2 (by simp[z]) (.head _)
    subst this
    rw[qW7 el (qQ6 rfl)]at z1;exact qY1 (Option.some.inj z1) rfl
  ·by_cases q:k=l
   ·subst q
    right
    rw[qW7 el (qQ6 rfl)]at ek
    cases ek
    rw[hfy]at ef
    cases ef
    obtain ⟨f2,hf2,y',its2,n2,e2,z1,z2,z3⟩:=N2.at ky (qQ6 rfl)
    obtain ⟨g2,hg2⟩:=N2.ext 2 [y] rfl
    rw[hg2]at hf2
    cases hf2
    simp at e2
    obtain ⟨rfl,J⟩:=e2
    exact ⟨y,its2,n2,rfl,z1,z2,z3⟩
   ·left
    intro b hb hin
    rcases fl b hin with z|z
    ·exact hk (qW1 N'.rel.nd ef hx hb z)
    ·exact q (qW1 (a:=b) N'.rel.nd ef hfy hb (by simp[z]))
theorem zO4 (O:Ok c A 4) (N:Now c φ H lc s) {f j:Nat} {xs:List Int} {rest:List AV} {vs:List Value} (hv:qQ4 φ (.obj j::rest) vs) (ej:qQ0 H j=.gp xs) {K:AV->AH->Prop} (h:yX2 f j xs (.obj j::rest) H K):qV9 c A φ lc f vs K s:=by
 refine qD3 h (fun e h=>yQ2 h fun e1 g=>?_) fun h=>qD3 h (fun e h=>xN7 h fun a b e1 g=>?_) fun h=>qD3 h (fun e h=>zN0 h fun a l e1 h=>xS1 h fun ys el g=>?_) fun h=>qD3 h (fun e h=>xN7 h fun a b e1 g=>?_) False.elim
 all_goals subst e e1
 ·exact zO7 O N hv ej g
 all_goals obtain ⟨h0,h1,h2,g⟩:=g
 ·obtain ⟨a,rfl⟩:=Int.eq_ofNat_of_zero_le h0
  obtain ⟨b,rfl⟩:=Int.eq_ofNat_of_zero_le (Int.le_trans h0 h1)
  exact zE1 O N hv ej (Int.ofNat_le.mp h1) (Int.ofNat_le.mp h2) g
 ·obtain ⟨a,rfl⟩:=Int.eq_ofNat_of_zero_le h0
  exact zB6 O N hv ej el (Int.ofNat_le.mp h1) h2 g.1 g.2
 ·obtain ⟨a,rfl⟩:=Int.eq_ofNat_of_zero_le h0
  obtain ⟨b,rfl⟩:=Int.eq_ofNat_of_zero_le (Int.le_trans h0 h1)
  exact zD6 O N hv ej (Int.ofNat_le.mp h1) (Int.ofNat_le.mp h2) g
end
section
variable {c:Cx} {A:Around} {n:Nat} {sp:Sp} {φ:FP} {H:AH} {lc:Loc} {s:Shared}
theorem wB7 {φ:FP} {j:Nat} {x d cl:Addr} (hx:φ[j]?=some [x,d]):∀ a,a∈(φ.set j [x,d,cl]).flatten->a∈φ.flatten∨a=cl:=by
 intro a h
 obtain ⟨f,hf,ha⟩:=List.mem_flatten.mp h
 obtain ⟨k,hk⟩:=List.getElem?_of_mem hf
 rw[List.getElem?_set]at hk
 split at hk
 ·split at hk
  ·obtain rfl:=Option.some.inj hk
   simp only[List.mem_cons,List.not_mem_nil,or_false]at ha
   rcases ha with h|h|h
   ·exact .inl (qQ5 hx (by simp[h]))
   ·exact .inl (qQ5 hx (by simp[h]))
   ·exact .inr h
  ·injection hk
 ·exact .inl (qQ5 hk ha)
theorem qU8:∀{φ:FP} {j:Nat} {x d cl:Addr},φ[j]?=some [x,d]->φ.flatten.Nodup->cl∉φ.flatten->(φ.set j [x,d,cl]).flatten.Nodup:=@fun ξ ξ2=>no_implicit_lambda%(match @ξ,@ξ2 with
 |[],J=>@fun J2 J3 J4 e J5 J6=>by simp at e
 |f::φ,0=>@fun x d cl e nd hn=>by
  simp at e
  subst e
  rw[List.set_cons_zero,List.flatten_cons]
  rw[List.flatten_cons]at nd hn
  have h1:=List.nodup_append.mp nd
  refine List.nodup_append.mpr ⟨?_,h1.2.1,fun a ha b hb e=>?_⟩
  ·have h2:=h1.1
   simp only[List.nodup_cons,List.mem_cons,List.not_mem_nil,or_false,not_false_eq_true,List.nodup_nil,and_true,not_or]at h2 ⊢
   refine ⟨⟨h2,fun z=>hn (by simp[z])⟩,fun z=>hn (by simp[z])⟩
  ·subst e
   simp only[List.mem_cons,List.not_mem_nil,or_false]at ha
   rcases ha with h|h|h
   ·exact h1.2.2 a (by simp[h]) a hb rfl
   ·exact h1.2.2 a (by simp[h]) a hb rfl
   ·subst h
    exact hn (List.mem_append_right _ hb)
 |f::φ,j+1=>@fun x d cl e nd hn=>by
  have e':φ[j]?=some [x,d]:=by simpa using e
  rw[List.set_cons_succ,List.flatten_cons]
  rw[List.flatten_cons]at nd hn
  have h1:=List.nodup_append.mp nd
  refine List.nodup_append.mpr ⟨h1.1,qU8 e' h1.2.1 (fun z=>hn (List.mem_append_right _ z)),fun a ha b hb q=>?_⟩
  rcases wB7 e' b hb with z|z
  ·exact h1.2.2 a ha b z q
  ·subst q
   exact hn (z▸List.mem_append_left _ ha)
 )
set_option tactic.hygienic true in
theorem wR3 {args:List AV} {H:AH} {K:AV->AH->Prop} {P:Prop} (h:wI7 args H K) (q:∀ j l,args=[.obj j,.obj l,.int 8]->qQ0 H j=.inst 3 []->qQ0 H l=.il []->K .none (qX7 H j (.gp []))->P):P:=by
 delta wI7 at h
 cases args<;>first|exact False.elim h|skip
 rename_i a r
 cases a<;>first|exact False.elim h|skip
 cases r<;>first|exact False.elim h|skip
 rename_i j a r
 cases a<;>first|exact False.elim h|skip
 cases r<;>first|exact False.elim h|skip
 rename_i l a r
 cases a<;>first|exact False.elim h|skip
 cases r<;>first|exact False.elim h|skip
 rename_i i
 have key:∀{o1 o2:AO},(match o1,o2 with
  |.inst c fs,.il xs=>match Nat.beq c 3,fs,xs with
   |true,[],[]=>i=8/\K .none (qX7 H j (.gp []))
   |J,J2,J3=>False
  |J,J2=>False)->qQ0 H j=o1->qQ0 H l=o2->P:=by
  intro o1 o2 h e1 e2
  cases o1<;>first|exact False.elim h|skip
  cases o2<;>first|exact False.elim h|skip
  rename_i c fs xs
  dsimp only at h
  cases e:Nat.beq c 3<;>rw[e]at h
  ·exact False.elim h
  ·cases fs<;>first|exact False.elim h|skip
   cases xs<;>first|exact False.elim h|skip
   obtain rfl:=beq_eq e
   obtain ⟨rfl,g⟩:=h
   exact q _ _ rfl e1 e2 g
 exact key h rfl rfl
theorem zV5 (O:Ok c A 4) (N:Now c φ H lc s) {args:List AV} {vs:List Value} (hv:qQ4 φ args vs) {K:AV->AH->Prop} (h:wI7 args H K):qV9 c A φ lc 404 vs K s:=by
 refine wR3 h fun j l ea ej el h'=>?_
 clear h
 subst ea
 refine qU5 (n:=2) O N hv (yK0 c.w.params) rfl fun c' A' env body sB hw O' V' N' hb=>?_
 obtain ⟨fx,hx,x,d,m,rfl,g1,g2,g3⟩:=N'.at ej (qQ6 rfl)
 obtain ⟨fy,hfy,y,its',n',rfl,y1,y2,y3⟩:=N'.at el (qQ6 rfl)
 have jl:l≠j:=by intro z;subst z;rw[ej]at el;injection el
 have ymem:∀ b∈[x,d],b≠y:=fun b hb z=>jl (qW1 (a:=y) N'.rel.nd hfy hx (.head _) (z▸hb))
 have fl:∀ b∈[[x,d],[y]].flatten,b∈[x,d]∨b=y:=fun b h=>by simpa [or_assoc] using h
 have su:∀ b∈[[x,d],[y]].flatten,b∈φ.flatten:=fun b h=>(fl b h).elim (fun h=>qQ5 hx h) fun h=>qQ5 hfy (by simp[h])
 refine qE5 xU8 (n:=0) O'.less.less V' N' (φu:=[[x,d],[y]]) (Hu:=[.inst 3 [],.il []]) (lcu:=[199,58,193].zip [.obj 0,.obj 1,.int 8]) rfl (fun k o f e1 e2=>?_) ?_ su ?_ hb
  (K:=fun av H₂=>av=.none/\∃ q,2<=q/\qQ0 H₂ 0=.inst 3 [(193,.int 8),(54,.obj q),(89,.int (0:Nat)),(88,.int (8:Nat))]/\qQ0 H₂ q=.il (List.replicate 8 0)/\qQ0 H₂ 1=.il []) ?_ fun f s' φC H₂ lcC v av w N2 hv k=>?_
 ·match k with
  |0=>obtain rfl:=Option.some.inj e1;obtain rfl:=Option.some.inj e2;exact ⟨x,d,m,rfl,g1,g2,⟨fun a av e=>(nomatch e),fun y hy=>let ⟨a,e,_⟩:=g3.only y hy;by simp[lk]at e⟩⟩
  |1=>obtain rfl:=Option.some.inj e1;obtain rfl:=Option.some.inj e2;exact ⟨y,its',n',rfl,y1,y2,y3⟩
  |k+2=>simp at e1
 ·have z:[x,d].Nodup:=(List.pairwise_flatten.mp N'.rel.nd).1 _ (List.mem_of_getElem? hx)
  have e:[[x,d],[y]].flatten=[x,d]++[y]:=rfl
  rw[e]
  exact List.nodup_append.mpr ⟨z,by simp,fun b hb b' hb' e=>ymem b hb (by simp at hb';rw[e,hb'])⟩
 ·refine qS6 fun i au e=>?_
  match i,e with
  |0,e=>obtain rfl:=Option.some.inj e;exact ⟨_,rfl,fun v ⟨a,l,e1,e2⟩=>by rw[hx]at e1;cases e1;exact ⟨x,[d],rfl,e2⟩⟩
  |1,e=>obtain rfl:=Option.some.inj e;exact ⟨_,rfl,fun v ⟨a,l,e1,e2⟩=>by rw[hfy]at e1;cases e1;exact ⟨y,[],rfl,e2⟩⟩
  |2,e=>obtain rfl:=Option.some.inj e;exact ⟨_,rfl,fun v h=>h⟩
  |i+3,e=>simp at e
 ·exact jJ7 fun H q q1 q2 q3 q4=>⟨rfl,q,q1,q2,q3,q4⟩
 ·obtain ⟨rfl,q,q1,q2,q3,q4⟩:=k
  have Hj:=qW7 ej (qQ6 rfl)
  obtain ⟨g0,e0⟩:=N2.ext 0 [x,d] rfl
  obtain ⟨f0,hf0,x',d',m',p0,k1,k2,k3⟩:=N2.at q2 (qQ6 rfl)
  rw[e0]at hf0
  obtain rfl:=Option.some.inj hf0
  simp at p0
  obtain ⟨rfl,rfl,p0⟩:=p0
  obtain ⟨f1,hf1,cl,its,nn,rfl,k4,k5,k6⟩:=N2.at q3 (qQ6 rfl)
  obtain ⟨g1',e1⟩:=N2.ext 1 [y] rfl
  have clu:cl∉[[x,d],[y]].flatten:=by
   intro z
   rcases fl _ z with z|z
   ·have:=qW1 (a:=cl) N2.rel.nd hf1 e0 (.head _) (List.mem_append_left _ z);omega
   ·have:=qW1 (a:=cl) N2.rel.nd hf1 e1 (.head _) (by simp[z]);omega
  have cl2:cl∈φC.flatten:=qQ5 hf1 (.head _)
  have clφ:cl∉φ.flatten:=by
   intro z
   rcases N2.own cl cl2 with w|w
   ·exact clu w
   ·obtain ⟨o,e⟩:=N'.live z
    have w':sB.heap.get? cl=none:=w
    rw[w']at e;injection e
  have ex:Ext φ (φ.set j [x,d,cl]):=by
   intro k f e
   by_cases q:j=k
   ·subst q
    rw[hx]at e
    obtain rfl:=Option.some.inj e
    exact ⟨[cl],by rw[List.getElem?_set];simp[(List.getElem?_eq_some_iff.mp hx).1]⟩
   ·exact ⟨[],by rw[List.getElem?_set,if_neg q,List.append_nil];exact e⟩
  have N3:Now c' (φ.set j [x,d,cl]) (qX7 H j (.gp [])) [] s':=by
   refine N'.pack su N2 (by rw[qP3,List.length_set];exact N'.rel.len) (fun k o f ek ef=>?_) (qU8 hx N'.rel.nd clφ) (fun a h=>(wB7 hx a h).elim .inr fun z=>.inl (z▸cl2)) (N'.ext.trans ex) (fun p hp hin=>?_) fun p hp=>?_
   ·by_cases q:k=j
    ·subst q
     rw[qX2,List.getElem?_set]at ek
     simp only[if_true]at ek
     rw[if_pos (List.getElem?_eq_some_iff.mp Hj).1]at ek
     obtain rfl:=Option.some.inj ek
     rw[List.getElem?_set]at ef
     simp only[if_true]at ef
     rw[if_pos (List.getElem?_eq_some_iff.mp hx).1]at ef
     obtain rfl:=Option.some.inj ef
     exact xH3 (cells:=List.replicate 8 0) (gs:=0) (ge:=8) k1 k2 k3 rfl hf1 k4 k5 (by decide) (by decide) (by decide) (by decide) _
    ·rw[qX2,List.getElem?_set,if_neg (fun z=>q z.symm)]at ek
     rw[List.getElem?_set,if_neg (fun z=>q z.symm)]at ef
     by_cases q':k=l
     ·subst q'
      rw[qW7 el (qQ6 rfl)]at ek
      obtain rfl:=Option.some.inj ek
      rw[hfy]at ef
      obtain rfl:=Option.some.inj ef
      obtain ⟨f2,hf2,y',its2,n2,p2,w1,w2,w3⟩:=N2.at q4 (qQ6 rfl)
      rw[e1]at hf2
      obtain rfl:=Option.some.inj hf2
      simp at p2
      obtain ⟨rfl,J⟩:=p2
      exact ⟨y,its2,n2,rfl,w1,w2,w3⟩
     ·refine (N'.rel.cov k o f ek ef).move ex fun a ha ob h=>N'.others N2 (qQ5 ef ha) (fun hin=>?_) h
      rcases fl a hin with z|z
      ·exact q (qW1 N'.rel.nd ef hx ha z)
      ·exact q' (qW1 (a:=a) N'.rel.nd ef hfy ha (by simp[z]))
   ·obtain ⟨k,es,z1,z2⟩:=N'.fzh p hp
    rcases fl _ hin with z|z
    ·have:=qW1 (a:=p.1) N'.rel.nd hx z2 z (.head _)
     subst this
     rw[Hj]at z1;exact qY1 (Option.some.inj z1) rfl
    ·have:=qW1 (a:=p.1) N'.rel.nd hfy z2 (by simp[z]) (.head _)
     subst this
     rw[qW7 el (qQ6 rfl)]at z1;exact qY1 (Option.some.inj z1) rfl
   ·obtain ⟨k,es,z1,z2⟩:=N'.fzh p hp
    have kj:j≠k:=by intro z;subst z;rw[Hj]at z1;exact qY1 (Option.some.inj z1) rfl
    exact ⟨k,es,by rw[qX2,List.getElem?_set,if_neg kj];exact z1,by rw[List.getElem?_set,if_neg kj];exact z2⟩
  exact qA0 w (fun e=>e) ex N3 hv h'
end
noncomputable def fnT:List (Nat×List Nat×Ys):=[(48,[52],b48),(55,[52,212,72],b55),(62,[52,212,72],b62),(69,[52,212,72,168],b69),(76,[52,212,72],b76),(83,[52,175,58],b83),(90,[52,212,72],b90),(97,[52,175,143,49],b97),(104,[52,175,58,49,112],yU8),(119,[52,212,72],yN5),(126,[52],yR5),(133,[153],jX1),(140,[153],jJ4),(182,[153],jJ5),(196,[153,170],yT3),(203,[153],jX3),(217,[199,242,46,104,169,161,113],jJ9),(231,[234,153],jW4),(243,[234,153,142],yP4),(264,[234,153,58,142,102],yR9),(271,[234,153,58],yS6),(278,[234,153],yR6),(292,[199,153,235,211],yU0),(306,[52],jQ8),(313,[52,58],yN8),(320,[234,52,153],jX0),(327,[234,52,153],yP7),(334,[52],jQ7),(341,[234,52],yR3),(348,[52],yS1),(362,[234,52],jQ4),(369,[52,58],yU6),(376,[234,52],yU3),(383,[234,153],yS3),(495,[199],jZ7),(502,[199],jX7),(530,[199,212,72,103],yO5),(537,[199,212,72],jQ1),(636,[199],jX4),(650,[199,212,72],jW3),(657,[199,175],jJ0),(664,[199],yS0),(671,[199],yO7),(678,[199,115],yN2),(685,[199,36],jW2),(717,[199,206,60,211],jX9),(738,[199],yO3),(745,[199],yR4),(752,[199,153],yO4),(759,[199,153],yT1),(766,[199,153],jZ0),(773,[199,153],yR7),(780,[199,153],yO2),(787,[199,153],jZ2),(794,[199,153],yP3),(801,[199,153],yU2),(808,[199,153],yP5),(815,[199,153],jK0),(822,[199,153],jZ1),(829,[199,153],jJ1),(836,[199,153],jQ0),(843,[199,153],jZ8),(850,[199,153],yU5),(857,[199,153,58],jZ3),(864,[199,75,58],yR2),(878,[199,153],yT4),(892,[199,153],jQ6),(932,[153],jX2),(939,[67,213],jW8),(946,[63,143],yN7),(972,[167,160,175],jW6),(979,[63,52,186,243],yR0),(986,[63,234,52,186],yT6),(993,[63,234,52,186],yO1),(355,[234,52,142,107],yQ8),(390,[234,52],zI3)]
noncomputable def fnC:List (Nat×List Nat×Ys):=[(236,[234,153,142],yN6),(904,[199,167,160,110],yT2),(951,[63,150],yS9)]
theorem zO2 (P:Params):(fnT.all fun p=>wH6 (KP P) p.1 p.2.1 p.2.2)=true:=by kernel_rfl!
theorem zW1 (P:Params):(fnC.all fun p=>xC3 (KP P) p.1 p.2.1 p.2.2)=true:=by kernel_rfl!
theorem yD1 {α:Type} {l:List α} (h:l.length=2):∃ a b,l=[a,b]:=by
 cases l with
 |nil=>exact absurd h.symm (Nat.succ_ne_zero 1)
 |cons a r=>
  obtain ⟨b,e⟩:=List.length_eq_one_iff.mp (Nat.succ.inj h)
  exact ⟨a,b,by rw[e]⟩
@[elab_as_elim] theorem yB0 {motive:List AV->Prop} {l:List AV} (h:l.length=2) (q:∀ a b,motive [a,b]):motive l:=by
 obtain ⟨a,b,rfl⟩:=yD1 h
 exact q a b
@[elab_as_elim] theorem yA5 {motive:List AV->Prop} {l:List AV} (h:l.length=4) (q:∀ a b c d,motive [a,b,c,d]):motive l:=by
 cases l with
 |nil=>exact absurd h.symm (Nat.succ_ne_zero 3)
 |cons a r=>
  cases r with
  |nil=>exact absurd (Nat.succ.inj h).symm (Nat.succ_ne_zero 2)
  |cons b r=>
   obtain ⟨c,d,rfl⟩:=yD1 (Nat.succ.inj (Nat.succ.inj h))
   exact q a b c d
noncomputable abbrev bmE:List Value:=[.type "Exception", .type "BaseException", .type "object"]
noncomputable abbrev lsO:Obj:=excClassObj "LispSignal" "LispSignal" 38 37 [.type "Exception"] bmE true [] [] false none none (some (.ref 22)) none (some (s "LispSignal" 196)) (some (s "LispSignal" 204)) (some (.bool true)) "Exception.__new__"
theorem zZ5 (P:Params):(KP P).lookup 38=some lsO:=by kernel_rfl!
theorem yA1 (P:Params):((KP P).lookup 35).map Obj.cls=some (.type "function"):=by kernel_rfl!
theorem wH1 {K:Frag} {h:Heap} (X:K.In h) {k:Addr} {c:Value} (e:(K.lookup k).map Obj.cls=some c):∃ o,h.get? k=some o/\o.cls=c:=by
 cases e2:K.lookup k with
 |none=>rw[e2]at e;injection e
 |some o=>rw[e2]at e;exact ⟨o,X _ _ e2,Option.some.inj e⟩
theorem xD5 {K:Frag} {h:Heap} {N:Addr} {mg:Str->Option Value} {n:Str} {r:Option Value} (X:K.In h) (G:h.Ns N mg) (e:nsIn K N n=some r):mg n=r:=by
 obtain ⟨o,es,ep,ho,hd,hu,hf⟩:=G
 delta nsIn at e
 cases e2:K.lookup N with
 |none=>rw[e2]at e;injection e
 |some o'=>
  obtain rfl:=Option.some.inj (ho.symm.trans (X _ _ e2))
  rw[e2]at e
  obtain ⟨cl,di,dt,sl⟩:=o
  (dsimp only at hd;subst hd)
  refine (hf n).symm.trans ?_
  have e':(match es.toList.find? (·.key.isStr n) with|some e=>some (some e.val)|none=>if es.toList.any (·.refKey) then none else some none)=some r:=e
  delta nsFind findBy
  rw[<-Array.find?_toList]
  cases he:es.toList.find? (·.key.isStr n) with
  |some en=>rw[he]at e';exact Option.some.inj e'
  |none=>
   rw[he]at e'
   cases c:es.toList.any (·.refKey)<;>rw[c]at e'
   ·exact Option.some.inj e'
   ·injection e'
theorem yD9 (P:Params):nsOkIn (KP P) 37=true:=by kernel_rfl!
theorem yE3 (P:Params):nsIn (KP P) 37 "__init__"=some (some (.ref 35)):=by kernel_rfl!
theorem yK8 (P:Params):nsIn (KP P) 37 "__setattr__"=some none:=by kernel_rfl!
theorem yV4 (P:Params):nsIn (KP P) 37 (nm 216)=some none:=by kernel_rfl!
theorem yE5 (P:Params):nsIn (KP P) 37 (nm 62)=some none:=by kernel_rfl!
theorem zX6 (P:Params):wH6 (KP P) 35 [199,216,62] b35=true:=by kernel_rfl!
theorem wO7:typeLookup (.type "Exception") (nm 216)=pure none:=by rw[typeLookup_type,builtinLookup_eq_fast];kernel_rfl!
theorem xU2:typeLookup (.type "Exception") (nm 62)=pure none:=by rw[typeLookup_type,builtinLookup_eq_fast];kernel_rfl!
inductive yO0 (h:Heap):Prop
 |mk (mN:Str->Option Value) (n:h.Ns 37 mN) (e1:mN "__init__"=some (.ref 35)) (e2:mN "__setattr__"=none) (e3:mN (nm 216)=none) (e4:mN (nm 62)=none)
structure LS (h:Heap):Prop where
 cls:h.get? 38=some lsO
 ns:yO0 h
 fn:∃ o,h.get? 35=some o/\o.cls=.type "function"
theorem wH9 {P:Params} {h:Heap} (X:(KP P).In h):LS h:=
 have G:=Heap.Ns.of_isNs (isNs_of_in X (yD9 P))
 ⟨X _ _ (zZ5 P),⟨_,G,xD5 X G (yE3 P),xD5 X G (yK8 P),xD5 X G (yV4 P),xD5 X G (yE5 P)⟩,wH1 X (yA1 P)⟩
section
variable {prog:Program} {w:World} {A:Around} {E:Value->Shared->Prop} {h:Heap} {g:Array GenState} {d:Drawn} {t:Nat} {os:OsState}
variable {sa owner:String} {mN:Str->Option Value} {name:Str} {v:Value}
set_option tactic.hygienic true in
theorem wL1 {x:Addr} {o:Obj} {tk:Tok} {Q:Fin->Shared->Prop} (SF:StoreFacts "Exception" bmE sa owner) (hC:h.get? 38=some lsO) (hn:h.Ns 37 mN) (hna:mN name=none)
  (hB:typeLookup (.type "Exception") name=pure none) (hx:h.get? x=some o) (hc:o.cls=.ref 38) (hnc:∀ c,o.data≠.cls c) (hd:o.dict=none)
  (hq:∀ h' tk,h'.Ns1 h.objs.size (fun y=>if y=name then some v else none)->h'.get? x=some {o with dict:=some h.objs.size}->(∀ b ob,b≠x->h.get? b=some ob->h'.get? b=some ob)->Q (.done (.ret .none)) ⟨h',g,d,tk,os⟩) :
  wpAny (model prog w) A (Builtin.«object.__setattr__» ⟨[.ref x,.str name tk,v],[]⟩) Q E ⟨h,g,d,t,os⟩:=by
 have hpass:=SF.passes (.ref x)
 unfold Builtin.«object.__setattr__»
 repeat (first|rw[refuse_eq]|(rw[refuseLoop_ref,hpass])|(with_reducible refine wpAny_loadPart_at hx ?_;rw[hc])|with_reducible refine wpAny_mroOf_exc hC ?_|(with_reducible refine wpAny_typeLookup_exc hC hn SF.mro hB ?_;rw[hna])|wp_step)
 have xs:x≠h.objs.size:=Nat.ne_of_lt (Heap.lt_size hx)
 have x1:(h.push {cls:=.type "dict", data:=.dict #[]}).get? x=some o:=Heap.get?_push_of_some _ hx
 rw[hd,if_neg (by simp[typeHasDict])]
 split
 ·rename_i z
  injection z
 ·split
  ·rename_i cd z
   exact absurd z (hnc cd)
  ·refine wpAny_bind (wpAny_alloc' (wpAny_bind (wpAny_update' x1 (wpAny_pure ?_))))
   have hfr:({o with dict:=some h.objs.size}:Obj).isFreed=false:=by
    have:=(Heap.get?_some_iff.mp hx).2
    obtain ⟨J,J,dt,J⟩:=o
    cases dt<;>first|rfl|exact this
   have x2:=Heap.get?_update_self (fun o=>{cls:=o.cls,dict:=some h.objs.size,data:=o.data,slots:=o.slots}) x1 hfr
   have d2:((h.push {cls:=.type "dict", data:=.dict #[]}).update x fun o=>{cls:=o.cls,dict:=some h.objs.size,data:=o.data,slots:=o.slots}).get? h.objs.size=some {cls:=.type "dict", data:=.dict #[]}:=
    (Heap.get?_update_ne _ _ _ _ xs.symm).trans (Heap.get?_push_at rfl rfl)
   have n2:((h.push {cls:=.type "dict", data:=.dict #[]}).update x fun o=>{cls:=o.cls,dict:=some h.objs.size,data:=o.data,slots:=o.slots}).Ns h.objs.size (fun J=>none):=
    ⟨_,#[],_,d2,rfl,fun e he=>absurd he (by first|exact qQ6 rfl|exact .head _|simp),fun J=>rfl⟩
   show wpAny _ _ (Builtin.ObjectAttr.storeInDict h.objs.size (.str name tk) name v) _ _ _
   unfold Builtin.ObjectAttr.storeInDict Builtin.ObjectAttr.newKeyGuard
   refine wpAny_bind (wpAny_pure (wpAny_bind (wpAny_nsSet1 (Heap.Ns1.of_empty n2) fun h' hn' hs=>?_)))
   obtain ⟨oD,esD,epD,hoD,hdD,hcD⟩:=hn'.count (Within.cons name v Within.nil)
   refine wpAny_bind (wpAny_lookBehind hoD (by rw[hdD];exact pastItsLine_dict (Nat.le_trans hcD (by rw[List.length_cons,List.length_nil,sizeLine_eq];exact Nat.not_lt.mp fun gz=>lin [] [] [(1,.nl (.a (.a (.c 16777216) (.c 1)) (.c 1)) (.a (.c 0) (.c 1)))] rfl gz))) ?_)
   wp_walk
   exact hq h' _ hn' ((hs.2 x xs).trans x2) fun b ob hb e=>(hs.2 b (Nat.ne_of_lt (Heap.lt_size e))).trans ((Heap.get?_update_ne _ _ _ _ hb).trans (Heap.get?_push_of_some _ e))
theorem wH7 {x:Addr} {o:Obj} {tk:Tok} {R:Result->Shared->Prop} (SF:StoreFacts "Exception" bmE sa owner) (hC:h.get? 38=some lsO) (hn:h.Ns 37 mN) (hna:mN name=none)
  (hB:typeLookup (.type "Exception") name=pure none) (hx:h.get? x=some o) (hc:o.cls=.ref 38) (hnc:∀ c,o.data≠.cls c) (hd:o.dict=none)
  (hq:∀ h' tk,h'.Ns1 h.objs.size (fun y=>if y=name then some v else none)->h'.get? x=some {o with dict:=some h.objs.size}->(∀ b ob,b≠x->h.get? b=some ob->h'.get? b=some ob)->R (.ok (.ret .none)) ⟨h',g,d,tk,os⟩) :
  codeAny (model prog w) A (.call (.builtin sa) ⟨[.ref x,.str name tk,v],[]⟩) R ⟨h,g,d,t,os⟩:=
 codeAny_call_builtin SF.slot.plain SF.entry (wpAny_check_sa SF hC hx hc (wL1 SF hC hn hna hB hx hc hnc hd hq))
theorem wT1 {x:Addr} {o:Obj} {Q:Unit->Shared->Prop} (SF:StoreFacts "Exception" bmE sa owner) (hC:h.get? 38=some lsO) (hn:h.Ns 37 mN) (hns:mN "__setattr__"=none) (hna:mN name=none)
  (hB:typeLookup (.type "Exception") name=pure none) (hx:h.get? x=some o) (hc:o.cls=.ref 38) (hnc:∀ c,o.data≠.cls c) (hd:o.dict=none)
  (hq:∀ h' tk,h'.Ns1 h.objs.size (fun y=>if y=name then some v else none)->h'.get? x=some {o with dict:=some h.objs.size}->(∀ b ob,b≠x->h.get? b=some ob->h'.get? b=some ob)->Q () ⟨h',g,d,tk,os⟩) :
  wpAny (model prog w) A (setAttr (.ref x) name v) Q E ⟨h,g,d,t,os⟩:=by
 have f3:=SF.slot.bind (.ref x)
 unfold setAttr callSpecial? specialOf
 repeat (any_goals (first|assumption|(with_reducible refine wpAny_loadPart_at hx ?_;rw[hc])|(with_reducible refine wpAny_typeLookup_exc hC hn SF.mro SF.slot.lookup ?_;rw[hns])|wp_step))
 refine wH7 SF hC hn hna hB hx hc hnc hd (fun h' tk a1 a2 a3=>?_)
 repeat (any_goals (first|assumption|wp_step))
 exact hq h' tk a1 a2 a3
end
section
variable {w:World} {A:Around} {E:Value->Shared->Prop} {s:Shared}
theorem wG0 {env:Env} {a x:Nat} {st:Stmt} {e:Addr} {m:Str->Option Value} {v:Value} {Q:Flow->Shared->Prop} (hk:env.scope.kind=.function) (hn:s.heap.Ns env.locals m) (m1:m (nm 199)=some (.ref e)) (m2:m (nm x)=some v)
  (hy:mY env.scope (.asgn (.one (.attr (.loc 199) a)) (.loc x)) st=true) (k1:qX8 env.scope (nm 199) .local=true) (k2:qX8 env.scope (nm x) .local=true)
  (h:wpAny (model pw w) A (setAttr (.ref e) (nm a) v) (fun J s'=>Q .next s') E s):wpAny (model pw w) A (exec st env) Q E s:=by
 obtain ⟨tg,ve,p,rfl,hm,hc,ht,hx⟩:=wQ3 hy
 obtain ⟨w',p',rfl,ho⟩:=qY8 (by simpa [mT] using hm)
 obtain ⟨p2,rfl,d2,J⟩:=qO8 hx
 obtain ⟨p3,rfl,d1,J⟩:=qO8 ho
 rw[arm_exec_Assign]
 refine wpAny_bind (wpAny_standAt ?_)
 have hsw:swapsWithSole [Expr.Attribute (.Name (nm 199) p3) (nm a) p'] (.Name (nm x) p2) p.line env=pure false:=rfl
 rw[hsw]
 refine wpAny_bind (wpAny_pure ?_)
 rw[if_neg (by decide)]
 refine wpAny_bind (wpAny_Name (wpAny_loadName_local hk (qZ3 k2) hn m2 ?_) d2)
 have hs:swappedStores [Expr.Attribute (.Name (nm 199) p3) (nm a) p'] (.Name (nm x) p2) env=pure none:=rfl
 rw[hs]
 refine wpAny_bind (wpAny_pure ?_)
 show wpAny (model pw w) A (do assignAll v [assign (.Attribute (.Name (nm 199) p3) (nm a) p') env];pure Flow.next) _ _ s
 refine wpAny_bind ?_
 show wpAny (model pw w) A (do
   let ov <-holding [v] (eval (.Name (nm 199) p3) env)
   standAt p'.atName
   holding [v,ov] (setAttr ov (nm a) v)
   release [v,ov] []) _ _ s
 refine wpAny_bind (wpAny_holding (wpAny_Name (wpAny_loadName_local hk (qZ3 k1) hn m1 ?_) d1))
 refine wpAny_bind (wpAny_standAt (wpAny_bind (wpAny_holding (wpAny_mono h (fun J s' g=>?_) fun J J e=>e))))
 exact wpAny_release (wpAny_pure g)
theorem Ns.keepB {h h':Heap} {a:Addr} {m:Str->Option Value} (n:h.Ns a m) (k:∀ o,h.get? a=some o->h'.get? a=some o):h'.Ns a m:=by
 obtain ⟨o,es,ep,e,r⟩:=n
 exact ⟨o,es,ep,k o e,r⟩
theorem xK7 {e:Addr} {v1 v2:Value} {fv:Array Value} {Q:Value->Shared->Prop} {b:Heap} (Xb:(KP w.params).In b) (st:∀ a o,b.get? a=some o->s.heap.get? a=some o) (be:b.get? e=none) (nl:s.heap.NoLimit) (hr:A.depth<recursionLimit)
  (he:s.heap.get? e=some {cls:=.ref 38,data:=.fields fv})
  (q:∀ h' tk oe,(∀ b o,b≠e->s.heap.get? b=some o->h'.get? b=some o)->h'.get? e=some oe->oe.cls=.ref 38->oe.data=.fields fv->Q .none {s with heap:=h',toks:=tk}) :
  wpAny (model pw w) A (call (.ref 35) [.ref e,v1,v2]) Q E s:=by
 have X:(KP w.params).In s.heap:=Xb.keeps st
 obtain ⟨oc,od,fd,sl,body,hf,hd,F⟩:=xC2 (zX6 w.params)
 have ok:=F.ok
 obtain ⟨st1,r1,e1,y1,ok⟩:=qK5 (show mYs fd.scope (.cons (.asgn (.one (.attr (.loc 199) 216)) (.loc 216)) (.cons (.asgn (.one (.attr (.loc 199) 62)) (.loc 62)) .nil)) body=true from ok)
 obtain ⟨st2,r2,e2,y2,ok⟩:=qK5 ok
 have e3:=qT3 ok
 subst e3 e2 e1
 have k0:=F.pa 199 (by first|exact qQ6 rfl|exact .head _|simp)
 have k1:=F.pa 216 (by first|exact qQ6 rfl|exact .head _|simp)
 have k2:=F.pa 62 (by first|exact qQ6 rfl|exact .head _|simp)
 refine wpAny_call (codeAny_call_def hr (X 35 _ hf) rfl nl (codeRec_of X F.cd) F.bo (qG2 F hd (vs:=[.ref e,v1,v2]) rfl) F.ce (fun x hx=>?_) (fun h₀ hn keep=>?_) F.co F.ge F.ki)
 ·obtain ⟨y,hy,ey⟩:=List.mem_map.mp (List.of_mem_zip (a:=x.1) (b:=x.2) hx).1
  rw[<-ey]
  exact qZ3 (F.pa y hy)
 ·have n1:nm 199≠nm 216:=fun z=>absurd (qK6 z) (by decide)
  have n2:nm 199≠nm 62:=fun z=>absurd (qK6 z) (by decide)
  have n3:nm 216≠nm 62:=fun z=>absurd (qK6 z) (by decide)
  have m0:((([199,216,62].map nm).zip [Value.ref e,v1,v2]).reverse).lookup (nm 199)=some (.ref e):=by
   simp[List.lookup_cons,beq_eq_false_iff_ne.mpr n1,beq_eq_false_iff_ne.mpr n2]
  have m1:((([199,216,62].map nm).zip [Value.ref e,v1,v2]).reverse).lookup (nm 216)=some v1:=by
   simp[List.lookup_cons,beq_eq_false_iff_ne.mpr n3]
  have m2:((([199,216,62].map nm).zip [Value.ref e,v1,v2]).reverse).lookup (nm 62)=some v2:=by
   simp[List.lookup_cons]
  have X0:(KP w.params).In h₀:=X.keeps keep
  obtain ⟨hC,⟨mN,hN,i1,i2,i3,i4⟩,J⟩:=wH9 X0
  have he0:=keep e _ he
  have eL:e≠s.heap.objs.size:=Nat.ne_of_lt (Heap.lt_size he)
  refine wpAny_execs_cons (wG0 F.ki hn m0 m1 y1 k0 k1 ?_)
  refine wT1 PySem.F.store_Exception hC hN i2 i3 wO7 he0 rfl (fun c z=>by injection z) rfl fun h1 tk1 a1 a2 a3=>?_
  have X1:(KP w.params).In h1:=fun a o z=>a3 a o (fun q=>by have:=Xb a o z;rw[q,be]at this;injection this) (X0 a o z)
  obtain ⟨hC,⟨mN,hN,i1,i2,i3,i4⟩,J⟩:=wH9 X1
  have I1:h1.Inst e 38 (fun y=>if y=nm 216 then some v1 else none):=⟨_,a2,rfl,fun c z=>(by injection z),.inr ⟨_,rfl,Nat.ne_of_gt (Heap.lt_size he0),a1⟩⟩
  have e38:e≠38:=fun q=>by
   rw[q]at be
   rw[(wH9 Xb).cls]at be
   injection be
  refine wpAny_execs_cons (wG0 F.ki (Ns.keepB hn fun o z=>a3 _ o (Ne.symm eL) z) m0 m2 y2 k0 k2 ?_)
  refine store_attr PySem.F.store_Exception hC hN i2 i4 xU2 e38 I1 (fun h2 tk2 I2 b1 b2=>?_)
  obtain ⟨o2,z1,z2,z3,J⟩:=b2 _ a2
  refine wpAny_execs_nil (q h2 tk2 o2 (fun a o ne z=>b1 a o ne (fun o0 dx w1 w2=>?_) (a3 a o ne (keep a o z))) z1 z2 z3)
  rw[a2]at w1
  obtain rfl:=Option.some.inj w1
  obtain rfl:=Option.some.inj w2
  exact Nat.ne_of_lt (Heap.lt_size (keep a o z))
end
section
variable {c:Cx} {A:Around} {n:Nat} {env:Env} {sp:Sp} {φ:FP} {H:AH} {lc:Loc} {s:Shared}
theorem zQ6 (O:Ok c A (n+1)) (N:Now c φ H lc s) {v1 v2:Value} {Q:Value->Shared->Prop}
  (q:∀ h' tk e fv oe a0,(∀ b o,s.heap.get? b=some o->h'.get? b=some o)->s.heap.get? e=none->h'.get? e=some oe->oe.cls=.ref 38->oe.data=.fields fv->fv[1]?=some .none->fv[0]?=some a0->Q (.ref e) {s with heap:=h',toks:=tk}) :
  wpAny (MM c) A (call (.ref 38) [v1,v2]) Q NoE s:=by
 have X:=O.here N
 obtain ⟨hC,⟨mN,hN,i1,i2,i3,i4⟩,⟨oI,hfI,hfc⟩⟩:=wH9 X
 have nl:=O.base.nl
 have rl:recursionLimit=1000:=rfl
 have rd:=O.room.depth
 have st:=N.rel.stays
 have kp:=O.base.hp
 obtain ⟨hh,g,d,t,os⟩:=s
 refine wpAny_call_exc_init PySem.F.excBase_Exception hC hN i1 hfI hfc (fun h' e hm=>?_)
 rw[wA9]
 obtain ⟨t0,he,J,J⟩:=hm.there
 have st':∀ a o,c.b.get? a=some o->h'.get? a=some o:=fun a o z=>hm.keeps a o (st a o z)
 have be:c.b.get? e=none:=by
  cases z:c.b.get? e with
  |none=>rfl
  |some o=>have:=st e o z;rw[hm.new]at this;injection this
 refine xK7 (zZ6 kp) st' be (nl.keeps st') (by show A.depth+1<_;exact Nat.not_le.mp fun gz=>lin [_,_,_] [] [(1,.nl (.c 1000) (.v 0)),(1,.nl (.a (.v 1) (.m 2 (.a (.v 2) (.c 1)))) (.c 950)),(1,.nl (.v 0) (.a (.v 1) (.c 1)))] rfl (Nat.le_of_eq rl.symm) rd gz) he (fun h2 tk oe k z1 z2 z3=>⟨rfl,?_⟩)
 exact q h2 tk e _ oe _ (fun b o z=>k b o (fun w=>by rw[w,hm.new]at z;injection z) (hm.keeps b o z)) hm.new z1 z2 z3 rfl rfl
structure Fly (c:Cx) (φ:FP) (s:Shared) (ea:Addr):Prop where
 un:qV5 c φ ea
 ob:∃ oe fv a0,s.heap.get? ea=some oe/\oe.cls=.ref 38/\oe.data=.fields fv/\fv[1]?=some .none/\fv[0]?=some a0
noncomputable def EX (c:Cx) (KE:AH->Prop) (e:Value) (s:Shared):Prop:=∃ ea φ H lc,e=.ref ea/\Now c φ H lc s/\KE H/\Fly c φ s ea
theorem xC0 (S:qY4 n sp) {KE:AH->Prop}:qE2 c A n env sp KE (EX c KE):=by
 intro φ H lc s xs es np p pos O V N hx hk hl h
 have z:=qE3 c.w.params
 simp only[Bool.and_eq_true,beq_iff_eq]at z
 rw[arm_exec_Raise]
 refine wpAny_bind (wpAny_standAt ?_)
 show wpAny (MM c) A (raiseStmt env (some (do let v <-eval (.Call (.Name (nm qK9) np) es [] p) env;standAt pos;pure v)) none) _ _ s
 have one:wpAny (MM c) A (eval (.Call (.Name (nm qK9) np) es [] p) env) (fun v sB=>∃ ea φ' H',v=.ref ea/\Now c φ' H' lc sB/\KE H'/\Fly c φ' sB ea) NoE s:=by
  refine Call_ (qJ8 O V N qI3 hk z.2 ?_)
  refine callWith_of (P:=(KP c.w.params).In) (by rw[qZ8 hx];rfl) (keeps_K z.1) (qI0 (qK7 hx) (wpAny_mono (wM5 S O V xs hx N h) (fun vs s' g=>?_) fun J J e=>e))
  obtain ⟨φ',H',avs,x,N',hv,hl',k⟩:=g
  refine ⟨O.here N',?_⟩
  rw[hl]at hl'
  obtain ⟨v1,v2,rfl⟩:=yD1 hl'
  refine zQ6 O N' fun h' tk e fv oe a0 k1 k2 k3 k4 k5 k6 k7=>?_
  exact ⟨e,φ',H',rfl,N'.keep k1 rfl rfl,k,N'.untr k2,oe,fv,a0,k3,k4,k5,k6,k7⟩
 unfold raiseStmt
 refine wpAny_bind (wpAny_mono (wpAny_bind (wpAny_mono one (fun v sB g=>wpAny_bind (wpAny_standAt (wpAny_pure (show (fun v sB=>∃ ea φ' H',v=.ref ea/\Now c φ' H' lc sB/\KE H'/\Fly c φ' sB ea) v sB from g)))) fun J J x=>x)) (fun v sB g=>?_) fun J J x=>x.elim)
 obtain ⟨ea,φ',H',rfl,N',hk',F⟩:=g
 have E0:EX c KE (.ref ea) sB:=⟨ea,φ',H',lc,rfl,N',hk',F⟩
 have hC:=(wH9 (O.here N')).cls
 obtain ⟨oe,fv,a0,he,hc,hdt,h1,J⟩:=F.ob
 have hcB:(Value.ref 38::bmE).contains (.type "BaseException")=true:=by decide +kernel
 obtain ⟨hp,g,d,tk,os⟩:=sB
 repeat (first|(with_reducible refine wpAny_loadPart_at he ?_;rw[hc])|with_reducible refine wpAny_loadPart_at hC ?_|(with_reducible refine wpAny_isSubtype_exc hC ?_;rw[hcB])|wp_step)
 rw[hdt]
 refine wpAny_pure ?_
 rw[h1]
 refine wpAny_pure ?_
 first|refine xJ6 (by decide) ?_|refine wQ5 (by decide) ?_|rw[if_neg (by decide)]
 exact wpAny_pure (wpAny_raiseNew_none O.room.hand E0)
end
section
variable {c:Cx} {A:Around} {n:Nat} {env:Env} {sp:Sp} {φ:FP} {H:AH} {lc:Loc} {s:Shared}
set_option tactic.hygienic true in
theorem Now.slots (N:Now c φ H lc s) {B h':Heap} (hB:∀ b o,s.heap.get? b=some o->¬ qV5 c φ b->(∀ env∈c.frs,env.frame≠some b)->B.get? b=some o) (st:B.StaysIn h') (up:s.heap.UpToSlots h'):Now c φ H lc {s with heap:=h'}:=by
 have keep:∀ a o,s.heap.get? a=some o->¬ qV5 c φ a->(∀ env∈c.frs,env.frame≠some a)->h'.get? a=some o:=fun a o e u f=>st a o (hB a o e u f)
 have keepφ:∀ a o,a∈φ.flatten->s.heap.get? a=some o->h'.get? a=some o:=fun a o h e=>keep a o e (fun u=>u.fl h) fun env he q=>by
  obtain ⟨J,L,J,k2,J,k4,J⟩:=N.frs env he
  rw[k2]at q
  cases q
  exact k4 h
 refine ⟨⟨fun a o e=>keep a o (N.rel.stays a o e) (fun u=>by rw[u.b]at e;injection e) fun env he q=>?_,N.rel.len,fun k o f e e'=>(N.rel.cov k o f e e').move (Ext.refl φ) fun a ha ob h=>keepφ a ob (qQ5 e' ha) h,N.rel.nd,fun a h=>⟨(N.rel.fresh a h).1,?_⟩⟩,fun a o e h h2 h3=>?_,N.own,N.ext,fun env he=>?_,?_,N.lout,fun y a e=>?_,N.gens,N.os,fun p hp=>?_,N.fzh⟩
 ·obtain ⟨J,L,J,k2,k3,J⟩:=N.frs env he
  rw[k2]at q
  cases q
  rw[k3]at e
  injection e
 ·obtain ⟨o,e⟩:=N.live h
  exact ⟨o,keepφ a o h e⟩
 ·obtain ⟨sl,e1,k1⟩:=N.out a o e h h2 h3
  by_cases q:∃ env∈c.frs,env.frame=some a
  ·obtain ⟨env,he,q⟩:=q
   obtain ⟨J,L,oL,k2,J,J,k5,k6⟩:=N.frs env he
   rw[k2]at q
   cases q
   rw[e1]at k5
   cases k5
   obtain ⟨sl',e2⟩:=up a _ e1 k6
   exact ⟨sl',e2,fun z=>absurd k2 (z env he)⟩
  ·have q':∀ env∈c.frs,env.frame≠some a:=fun env he z=>q ⟨env,he,z⟩
   exact ⟨sl,keep a _ e1 (fun u=>by rw[u.h]at e;injection e) q',k1⟩
 ·obtain ⟨k1,L,o,k2,k3,k4,k5,k6⟩:=N.frs env he
  obtain ⟨sl,e2⟩:=up L o k5 k6
  exact ⟨k1,L,_,k2,k3,k4,e2,k6⟩
 ·obtain ⟨m,hm,hl⟩:=N.loc
  refine ⟨m,up.ns hm,fun y av q=>?_⟩
  have z:=hl y av q
  unfold qV3 at z ⊢
  split
  ·rename_i e'
   rw[e']at z
   exact z
  ·rename_i a e'
   rw[e']at z
   obtain ⟨o,v,a1,a2,a3⟩:=z
   obtain ⟨sl,e2⟩:=up a o a1 (fun vs w=>by rw[a2]at w;injection w)
   exact ⟨_,v,e2,a2,a3⟩
 ·obtain ⟨h1,o,h2,v0,hd⟩:=N.cout y a e
  obtain ⟨sl,e2⟩:=up a o h2 (fun vs w=>by rw[hd]at w;injection w)
  exact ⟨h1,_,e2,v0,hd⟩
 ·obtain ⟨k,es,e1,e2⟩:=N.fzh p hp
  exact keepφ _ _ (qQ5 e2 (.head _)) (N.fz p hp)
noncomputable def EL (c:Cx) (φ:FP) (lc:Loc) (KE:AH->Prop) (e:Value) (s:Shared):Prop:=
 ∃ ea φ' H' sB B a0,e=.ref ea/\Ext φ φ'/\Now c φ' H' lc sB/\KE H'/\qV5 c φ' ea/\(∀ b o,sB.heap.get? b=some o->¬ qV5 c φ' b->(∀ env∈c.frs,env.frame≠some b)->B.get? b=some o)/\
  sB.heap.UpToSlots s.heap/\Heap.FlyingW B c.frs ea (.ref 38) a0 s.heap/\s={sB with heap:=s.heap}
theorem qO0 {B h:Heap}:∀{l:List Env},(∀ env∈l,env.scope.kind≠.module/\∃ L o,env.frame=some L/\B.get? L=none/\h.get? L=some o/\∀ vs,o.data≠.fields vs)->h.FunFrames B l:=@fun ξ ξ2=>match @ξ,@ξ2 with
 |[],J=>trivial
 |env::l,k=>⟨(k env (.head _)).1,(k env (.head _)).2,qO0 fun e he=>k e (.tail _ he)⟩
theorem xC8 (N:Now c φ H lc s) {fd:FuncData} {f:Addr} (ki:fd.scope.kind=.function) (fr:A.frames=some c.frs) {KE:AH->Prop} {e:Value} {s':Shared} {Q:Unit->Shared->Prop} {E:Value->Shared->Prop}
  (h:EX (qX9 c s φ (callEnv fd s.heap.objs.size f) []) KE e s') (q:∀ s'',EL c φ lc KE e s''->Q () s'') :
  wpAny (MM c) (A.deeper (callEnv fd s.heap.objs.size f)) (leaving (callEnv fd s.heap.objs.size f) e) Q E s':=by
 obtain ⟨ea,φ',H',lc',rfl,N',hk,⟨un,oe,fv,a0,he,hc,hd,h1,h0⟩⟩:=h
 have Nc:Now c φ' H' lc s':=N.back (env:=callEnv fd s.heap.objs.size f) (cells:=[]) rfl (fun x a e=>by simp at e) N'
 have unc:qV5 c φ' ea:=by
  have hs:s.heap.get? ea=none:=un.h
  have u:=N.untr hs
  exact ⟨un.fl,u.b,u.h,u.L,u.ce,u.fr⟩
 have unL:qV5 c φ' s.heap.objs.size:=by
  have u:=N.untr (a:=s.heap.objs.size) qQ7
  exact ⟨N'.lout,u.b,u.h,u.L,u.ce,u.fr⟩
 let env:=callEnv fd s.heap.objs.size f
 let hid:List Addr:=ea::(env::c.frs).filterMap (·.frame)
 let B:=hideAll s'.heap hid
 have hfr:(A.deeper env).frames=some (env::c.frs):=by
  show A.frames.map _=_
  rw[fr]
  rfl
 have frsN:∀ e'∈env::c.frs,e'.scope.kind≠.module/\∃ L o,e'.frame=some L/\B.get? L=none/\s'.heap.get? L=some o/\∀ vs,o.data≠.fields vs:=by
  intro e' he'
  obtain ⟨k1,L,o,k2,J,J,k5,k6⟩:=N'.frs e' he'
  exact ⟨k1,L,o,k2,hideAll_none _ (.tail _ (List.mem_filterMap.mpr ⟨e',he',k2⟩)),k5,k6⟩
 have st:B.StaysIn s'.heap:=fun b o q=>of_hideAll _ q
 have be:B.get? ea=none:=hideAll_none _ (.head _)
 refine wpAny_leaving_firstW (base:=B) (outer:=c.frs) (L:=s.heap.objs.size) hfr (qO0 frsN) rfl he st be hd h1 h0 fun h' hL=>?_
 obtain ⟨x1,⟨J,J,x2⟩,x3,x4⟩:=hL
 refine q _ ⟨ea,φ',H',s',B,a0,rfl,N'.ext,Nc,hk,unc,fun b o e1 u1 u2=>?_,x4,⟨x1,be,x2,hc▸x3⟩,rfl⟩
 refine hideAll_get _ e1 fun hm=>?_
 rcases List.mem_cons.mp hm with rfl|hm
 ·exact u1 unc
 ·obtain ⟨e',he',hf⟩:=List.mem_filterMap.mp hm
  rcases List.mem_cons.mp he' with rfl|he'
  ·have:s.heap.objs.size=b:=Option.some.inj hf
   exact u1 (this▸unL)
  ·exact u2 e' he' hf
set_option tactic.hygienic true in
theorem wI5 (S:qY4 n sp) (O:Ok c A (n+2)) (N:Now c φ H lc s) {f:Addr} {ps:List Nat} {b:Ys} (hfn:wH6 (KP c.w.params) f ps b=true) {as:List AV} {vs:List Value} (hv:qQ4 φ as vs) {K:AV->AH->Prop} {KE:AH->Prop} (h:evF sp ps b as H K KE) :
  wpAny (MM c) A (call (.ref f) vs) (qX1 c φ lc K) (EL c φ lc KE) s:=by
 obtain ⟨oc,od,fd,sl,body,hf,hd,F⟩:=xC2 hfn
 unfold evF at h
 split at h<;>first|exact h.elim|skip
 rename_i hle
 have hl:vs.length=ps.length:=by
  have:∀{as:List AV} {vs:List Value},qQ4 φ as vs->vs.length=as.length:=by
   intro as
   induction as with
   |nil=>intro vs e;subst e;rfl
   |cons a as ih=>rintro J ⟨v,r,rfl,J,e⟩;simp[ih e]
  rw[this hv,Nat.eq_of_beq_eq_true hle]
 refine wpAny_call (wZ7 (E:=EX (qX9 c s φ (callEnv fd s.heap.objs.size f) []) KE) S O N hf F (qG2 F hd hl) hl hv h (fun A'=>xC0 S) (fun v s' g=>g) (fun e s' z=>?_))
 exact xC8 N F.ki O.frames z fun s'' g=>g
end
noncomputable def a4:Xs:=.cons (.loc 234) (.cons (.loc 52) (.cons (.loc 142) (.cons (.loc 107) .nil)))
noncomputable def a2:Xs:=.cons (.loc 234) (.cons (.loc 52) .nil)
noncomputable def wG8 (sc:Scope) (g:Nat) (args:Xs) (y:Str) (es:List Expr):Bool:=decide (y=nm g)&&(qX8 sc y .globalImplicit&&mXs sc args es)
noncomputable def wI6 (sc:Scope) (v:X) (x:Str) (rv:Expr):Bool:=decide (x=nm qK9)&&(qX8 sc x .globalImplicit&&mX sc v rv)
section
variable {P:Prop}
noncomputable def wRt (t:Stmt) (k:Expr->Bool):Bool:=zRe t fun v J=>wSo v k
theorem xS2 {t:Stmt} {k:Expr->Bool} (h:wRt t k=true) (q:∀ e p,t=.Return (some e) p->k e=true->P):P:=
 zW8 h fun v p e1 h=>wV7 h fun e e2 h=>q e p (e2▸e1) h
noncomputable def wHa (h:ExceptHandler) (k:Str->Expr->Bool):Bool:=match h with
 |.ExceptHandler ty n b J=>wNo n&&wSo ty fun e=>xV5 e fun x J=>wJ0 b fun t=>wRt t fun rv=>k x rv
theorem yB5 {h:ExceptHandler} {k:Str->Expr->Bool} (g:wHa h k=true) (q:∀ x xp rv rp p,h=.ExceptHandler (some (.Name x xp)) none [.Return (some rv) rp] p->k x rv=true->P):P:=
 match h,g,q with
 |.ExceptHandler ty n b p,g,q=>wV7 (tt2 g).2 fun e e1 h=>qF0 h fun x xp e2 h=>qY2 h fun t e3 h=>xS2 h fun rv rp e4 h=>q x xp rv rp p (by rw[e1,e2,e3,e4,xV2 (tt2 g).1]) h
noncomputable def wTr (t:Stmt) (k:Stmt->Str->Expr->Bool):Bool:=zTr t fun b hs o f J=>wR7 o&&(wR7 f&&(wJ0 b fun t=>wJ0 hs fun h=>wHa h fun x rv=>k t x rv))
theorem zO8 {t:Stmt} {k:Stmt->Str->Expr->Bool} (g:wTr t k=true) (q:∀ t1 x xp rv rp hp p,t=.Try [t1] [.ExceptHandler (some (.Name x xp)) none [.Return (some rv) rp] hp] [] [] p->k t1 x rv=true->P):P:=
 yY9 g fun b hs o f p e1 g=>qY2 (tt2 (tt2 g).2).2 fun t1 e2 h=>qY2 h fun hd e3 h=>yB5 h fun x xp rv rp hp e4 h=>q t1 x xp rv rp hp p (by rw[e1,e2,e3,e4,qC0 (tt2 g).1,qC0 (tt2 (tt2 g).2).1]) h
end
noncomputable def xR6 (sc:Scope) (body:List Stmt):Bool:=wJ0 body fun t=>wTr t fun t1 x rv=>wRt t1 fun e=>wNC e fun y es=>wG8 sc 196 a4 y es&&wI6 sc .none x rv
noncomputable def xL2 (sc:Scope) (body:List Stmt):Bool:=match body with
 |[]=>false
 |t::r=>wTr t fun t1 x rv=>wJ0 r fun t2=>zEx t1 fun e J=>wRt t2 fun r2=>wNC e fun y es=>wG8 sc 187 a2 y es&&(wI6 sc (.bool false) x rv&&mX sc (.bool true) r2)
theorem wN3 {sc:Scope} {body:List Stmt} (k:xR6 sc body=true):∃ y np es p1 p2 x xp rv p3 p4 p5,body=[.Try [.Return (some (.Call (.Name y np) es [] p1)) p2] [.ExceptHandler (some (.Name x xp)) none [.Return (some rv) p3] p4] [] [] p5]/\wG8 sc 196 a4 y es=true/\wI6 sc .none x rv=true:=
 qY2 k fun t e1 k=>zO8 k fun t1 x xp rv p3 p4 p5 e2 k=>xS2 k fun e p2 e3 k=>wI3 k fun y np es p1 e4 k=>⟨y,np,es,p1,p2,x,xp,rv,p3,p4,p5,by rw[e1,e2,e3,e4],tt2 k⟩
theorem wN1 {sc:Scope} {body:List Stmt} (k:xL2 sc body=true):∃ y np es p1 p2 x xp rv p3 p4 p5 r2 p6,body=[.Try [.Expr (.Call (.Name y np) es [] p1) p2] [.ExceptHandler (some (.Name x xp)) none [.Return (some rv) p3] p4] [] [] p5,.Return (some r2) p6]/\wG8 sc 187 a2 y es=true/\wI6 sc (.bool false) x rv=true/\mX sc (.bool true) r2=true:=
 match body,k with
 |[],k=>nf k
 |t::r,k=>zO8 k fun t1 x xp rv p3 p4 p5 e2 k=>qY2 k fun t2 e1 k=>zT2 k fun e p2 e3 k=>xS2 k fun r2 p6 e5 k=>wI3 k fun y np es p1 e4 k=>⟨y,np,es,p1,p2,x,xp,rv,p3,p4,p5,r2,p6,by rw[e2,e1,e3,e5,e4],(tt2 k).1,tt2 (tt2 k).2⟩
noncomputable def zK1 (K:Frag) (f:Addr) (ps:List Nat) (b:Scope->List Stmt->Bool):Bool:=zG9 K f fun fd=>decide (fd.defaults=.none)&&xG0 K fd ps (b fd.scope)
theorem xI8 {K:Frag} {f:Addr} {ps:List Nat} {b:Scope->List Stmt->Bool} (h:zK1 K f ps b=true):∃ oc od fd sl body,K.lookup f=some ⟨oc,od,.func fd,sl⟩/\fd.defaults=.none/\xB8 K fd ps (b fd.scope) body:=by
 refine wF7 h fun oc od fd sl e h=>?_
 obtain ⟨body,F⟩:=xR7 (tt2 h).2
 exact ⟨oc,od,fd,sl,body,e,ttd (tt2 h).1,F⟩
theorem xB1 (P:Params):zK1 (KP P) 958 [234,52,142,107] xR6=true:=by kernel_rfl!
theorem xY8 (P:Params):zK1 (KP P) 965 [234,52] xL2=true:=by kernel_rfl!
theorem xF8 (P:Params):(wH6 (KP P) 355 [234,52,142,107] yQ8&&(keepIn (KP P) (.ref 355)&&nsIn (KP P) mainGlobals (nm 196)==some (some (.ref 355))))=true:=by kernel_rfl!
theorem xY1 (P:Params):(wH6 (KP P) 390 [234,52] zI3&&(keepIn (KP P) (.ref 390)&&nsIn (KP P) mainGlobals (nm 187)==some (some (.ref 390))))=true:=by kernel_rfl!
theorem xA9:(nm 196==("__debug__":Str))=false:=by decide +kernel
theorem wV6:(nm 187==("__debug__":Str))=false:=by decide +kernel
theorem xZ7 {φ:FP}:∀{as:List AV} {vs:List Value},qQ4 φ as vs->vs.length=as.length:=@fun ξ ξ2 ξ3=>match @ξ,@ξ2,@ξ3 with
 |[],J,e=>by subst e;rfl
 |a::as,J,⟨v,r,e,J2,h⟩=>by subst e;simp[xZ7 h]
section
variable {c:Cx} {A:Around} {n:Nat} {env:Env} {sp:Sp} {φ:FP} {H:AH} {lc:Loc} {s:Shared}
theorem xM1 (O:Ok c A (n+1)) (V:qQ2 c env) {outer:List Env} (hfr:c.frs=env::outer) {L:Addr} (hf:env.frame=some L) {KE:AH->Prop} {e:Value} {x:Str} (hx:x=nm qK9) (hk:qX8 env.scope x .globalImplicit=true) (h:EL c φ lc KE e s)
  {st:Stmt} {suite:List Stmt} {np pos:Pos} {Q:Flow->Shared->Prop} (k:∀ A' φ' H' s',Ext φ φ'->Now c φ' H' lc s'->KE H'->wpAny (MM c) A' (execs (st::suite) env) Q NoE s') :
  wpAny (MM c) A (noteFrame e env) (fun J sC=>wpAny (MM c) A (setFlight e none) (fun J sD=>wpAny (MM c) A (handleBy e env [.ExceptHandler (some (.Name x np)) none (st::suite) pos]) Q NoE sD) NoE sC) NoE s:=by
 obtain ⟨ea,φ',H',sB,B,a0,rfl,x',N1,hE,un,hB,up,hfl,es⟩:=h
 subst hx
 have hA:A.frames=some (env::outer):=by rw[O.frames,hfr]
 rw[hfr]at hfl
 have eg:s.gens=sB.gens:=by rw[es]
 have eo:s.os=sB.os:=by rw[es]
 have z:=qE3 c.w.params
 simp only[Bool.and_eq_true,beq_iff_eq]at z
 refine wpAny_looks_onW hA hf hfl fun h4 held4 sm4=>?_
 refine wpAny_landsW held4 fun h5 held5 sm5=>?_
 have up5:sB.heap.UpToSlots h5:=(up.trans sm4).trans sm5
 have N5:Now c φ' H' lc {s with heap:=h5}:=(N1.slots hB held5.1 up5).tok rfl eg eo
 obtain ⟨mg,g,gb⟩:=O.mg N5
 obtain ⟨ob,hob,hobc⟩:=held5.there
 have hC:=(wH9 (O.here N5)).cls
 refine wpAny_handleBy_cons (codeAny_handlers_test (Name_function_global V.kind (qZ3 hk) (loadGlobal_global (mg:=mg) (by rw[V.glo];exact g) (mg_of O.kp gb z.2) ?_) qI3)) (by intro q;injection q)
 refine wpAny_excMatches_sub_self hC hob hobc (by decide +kernel) (codeAny_handlers_suite ?_)
 refine lands_againW held5 fun h6 hfl6 sm6=>?_
 have N6:Now c φ' H' lc {s with heap:=h6}:=(N1.slots hB hfl6.1 (up5.trans sm6)).tok rfl eg eo
 exact wpAny_passesOwnAt PassesOwnAt.never (k _ φ' H' _ x' N6 hE)
theorem wC7 (S:qY4 n sp) (O:Ok c A (n+2)) (V:qQ2 c env) (N:Now c φ H lc s) {f:Addr} {g:Nat} {ps:List Nat} {b:Ys} {args:Xs} {as:List AV} {y:Str} {es:List Expr} {np pos:Pos} {K:AV->AH->Prop} {KE:AH->Prop} {Q:Value->Shared->Prop} {E:Value->Shared->Prop}
  (hg:(wH6 (KP c.w.params) f ps b&&(keepIn (KP c.w.params) (.ref f)&&nsIn (KP c.w.params) mainGlobals (nm g)==some (some (.ref f))))=true) (hd:(nm g==("__debug__":Str))=false) (hc:wG8 env.scope g args y es=true)
  (ha:∀ K':List AV->AH->Prop,K' as H->evs sp args lc H K') (h:evF sp ps b as H K KE) (q:∀ v s',qX1 c φ lc K v s'->Q v s') (r:∀ e s',EL c φ lc KE e s'->E e s'):wpAny (MM c) A (eval (.Call (.Name y np) es [] pos) env) Q E s:=by
 simp only[wG8,Bool.and_eq_true,decide_eq_true_eq]at hc
 obtain ⟨rfl,hk,hx⟩:=hc
 simp only[Bool.and_eq_true,beq_iff_eq]at hg
 obtain ⟨g1,g2,g3⟩:=hg
 refine Call_ (wpAny_mono (qJ8 O V N hd hk g3 (Q:=fun v sB=>v=.ref f/\sB=s) ⟨rfl,rfl⟩) (fun v sB e=>?_) fun J J e=>e.elim)
 obtain ⟨rfl,rfl⟩:=e
 refine callWith_of (P:=(KP c.w.params).In) (by rw[qZ8 hx];rfl) (keeps_K g2) (qI0 (qK7 hx) (wpAny_mono (wM5 S O.less V args hx N (ha (fun as' H'=>as'=as/\H'=H) ⟨rfl,rfl⟩)) (fun vs s' g=>?_) fun J J e=>e.elim))
 obtain ⟨φ',H',avs,x,N',hv,J,rfl,rfl⟩:=g
 refine ⟨O.here N',wpAny_mono (wI5 S O N' g1 hv h) (fun v sC g=>q _ _ (g.up x)) fun e sC g=>r _ _ ?_⟩
 obtain ⟨ea,φC,H₂,sB,B,a0,e1,x2,r⟩:=g
 exact ⟨ea,φC,H₂,sB,B,a0,e1,x.trans x2,r⟩
theorem xG8 (S:qY4 n sp) (O:Ok c A (n+4)) (N:Now c φ H lc s) {args:List AV} {vs:List Value} (hv:qQ4 φ args vs) {K:AV->AH->Prop} (h:evF sp [234,52,142,107] yQ8 args H K fun H=>K .none H):qV9 c A φ lc 958 vs K s:=by
 obtain ⟨oc,od,fd,sl,body,hf,hd,F⟩:=xI8 (xB1 c.w.params)
 have hlen:args.length=4:=by
  exact qV8 h fun q J=>q.symm
 obtain ⟨y,np,es,p1,p2,x,xp,rv,p3,p4,p5,rfl,hc,hh⟩:=wN3 F.ok
 simp only[wI6,Bool.and_eq_true,decide_eq_true_eq]at hh
 obtain ⟨hx,hxk,hrv⟩:=hh
 refine qS1 (n:=n+2) (KR:=K) O N hf F hd (by rw[xZ7 hv,hlen];rfl) hv (fun sB O1 V1 N1=>?_) fun v s' g=>g
 refine wpAny_execs_cons (wpAny_Try_except (wpAny_execs_cons (wpAny_Return_some (wC7 (K:=K) (KE:=fun H=>K .none H) S O1.less V1 N1 (xF8 c.w.params) xA9 hc (fun K' hK=>?_) h (fun v s' g=>?_) fun e s' g=>?_))))
 ·revert hK
  exact yA5 hlen fun a b c d hK=>hK
 ·obtain ⟨φ',H',av,x',N',hv',k⟩:=g
  exact ⟨φ',H',_,av,x',N',hv',k⟩
 ·refine xM1 O1 V1 rfl rfl hx hxk g fun A' φ' H' sC x' N2 hE=>?_
  obtain ⟨kk,pp,rfl⟩:=wE7 hrv
  exact wpAny_execs_cons (wpAny_Return_some (wpAny_Constant_none ⟨φ',H',_,.none,x',N2,qM6,hE⟩))
theorem xE5 (S:qY4 n sp) (O:Ok c A (n+4)) (N:Now c φ H lc s) {args:List AV} {vs:List Value} (hv:qQ4 φ args vs) {K:AV->AH->Prop} (h:evF sp [234,52] zI3 args H (fun J H=>K (.bool true) H) fun H=>K (.bool false) H):qV9 c A φ lc 965 vs K s:=by
 obtain ⟨oc,od,fd,sl,body,hf,hd,F⟩:=xI8 (xY8 c.w.params)
 have hlen:args.length=2:=by
  exact qV8 h fun q J=>q.symm
 obtain ⟨y,np,es,p1,p2,x,xp,rv,p3,p4,p5,r2,p6,rfl,hc,hh,hr2⟩:=wN1 F.ok
 simp only[wI6,Bool.and_eq_true,decide_eq_true_eq]at hh
 obtain ⟨hx,hxk,hrv⟩:=hh
 refine qS1 (n:=n+2) (KR:=K) O N hf F hd (by rw[xZ7 hv,hlen];rfl) hv (fun sB O1 V1 N1=>?_) fun v s' g=>g
 refine wpAny_execs_cons (wpAny_Try_except (wpAny_execs_cons ?_))
 rw[arm_exec_Expr]
 refine wpAny_bind (wpAny_standAt ?_)
 rw[qU9 V1]
 have hs:swapsWith (.Call (.Name y np) es [] p1) none p2.line (callEnvC fd s.heap.objs.size 965)=pure false:=rfl
 rw[hs]
 refine wpAny_bind (wpAny_pure (wpAny_bind (wC7 (K:=fun J H=>K (.bool true) H) (KE:=fun H=>K (.bool false) H) S O1.less V1 N1 (xY1 c.w.params) wV6 hc (fun K' hK=>?_) h (fun v s' g=>?_) fun e s' g=>?_)))
 ·revert hK
  exact yB0 hlen fun a b hK=>hK
 ·obtain ⟨φ',H',av,x',N',hv',k⟩:=g
  refine wU4 rfl ?_
  refine wpAny_execs_nil (wpAny_execs_nil ?_)
  obtain ⟨kk,pp,rfl⟩:=qF9 hr2
  exact wpAny_execs_cons (wpAny_Return_some (wpAny_Constant_bool ⟨φ',H',_,.bool true,x',N',rfl,k⟩))
 ·refine xM1 O1 V1 rfl rfl hx hxk g fun A' φ' H' sC x' N2 hE=>?_
  obtain ⟨kk,pp,rfl⟩:=qF9 hrv
  exact wpAny_execs_cons (wpAny_Return_some (wpAny_Constant_bool ⟨φ',H',_,.bool false,x',N2,rfl,hE⟩))
end
noncomputable def yE9 (args:List AV) (H:AH):Option (Nat×List Int):=match args with
 |.obj j::J=>match qQ0 H j with|.gp xs=>some (j,xs)|J=>none
 |J=>none
noncomputable def spS (sp:Sp):Sp:=fun f args H K KE=>match qW8 fnT f with
  |some (ps,b)=>evF sp ps b args H K KE
  |none=>match qW8 fnC f with
   |some (ps,b)=>evF sp ps b args H K fun J=>False
   |none=>match Nat.beq f 112 with
    |true=>match args with|[a,b,c]=>evF sp [52,175,58,49] yA3 [a,b,c,.bool false] H K fun J=>False|J=>False
    |false=>match Nat.beq f 601 with
     |true=>match args with|[a,b,c]=>evF sp [199,163,153,193] yD3 [a,b,c,.int 8] H K fun J=>False|J=>False
     |false=>match Nat.beq f 404 with
      |true=>wI7 args H K
      |false=>match Nat.beq f 958 with
       |true=>evF sp [234,52,142,107] yQ8 args H K fun H=>K .none H
       |false=>match Nat.beq f 965 with
        |true=>evF sp [234,52] zI3 args H (fun J H=>K (.bool true) H) fun H=>K (.bool false) H
        |false=>match yE9 args H with
         |some (j,xs)=>yX2 f j xs args H K
         |none=>False
noncomputable def spN:Nat->Sp
 |0=>fun J J J J J=>False
 |k+1=>spS (spN k)
noncomputable def yM0 (K:Frag) (v:Value) (x:Value->Bool):Bool:=match v with
 |.ref T=>(match K.lookup T with
  |some ⟨J,J2,.seq items J3,J4⟩=>(match items.toList with|[]=>false|d::r=>(match r with|[]=>x d|J::J2=>false))
  |J=>false)
 |J=>false
set_option tactic.hygienic true in
theorem zF2 {K:Frag} {v:Value} {x:Value->Bool} (h:yM0 K v x=true) {P:Prop} (q:∀ T tc td d m tsl,v=.ref T->K.lookup T=some ⟨tc,td,.seq #[d] m,tsl⟩->x d=true->P):P:=by
 cases v<;>first|exact nf h|skip
 rename_i T
 have key:∀{o:Option Obj},(match o with|some ⟨J,J2,.seq items J3,J4⟩=>(match items.toList with|[]=>false|d::r=>(match r with|[]=>x d|J::J2=>false))|_=>false)=true->K.lookup T=o->P:=fun {o} h e=>by
  cases o<;>first|exact nf h|skip
  rename_i o
  obtain ⟨oc,od,dt,sl⟩:=o
  cases dt<;>first|exact nf h|skip
  rename_i items m
  obtain ⟨l⟩:=items
  cases l<;>first|exact nf h|skip
  rename_i d r
  cases r<;>first|exact nf h|exact q T _ _ d _ _ rfl e h
 exact key h rfl
noncomputable def xT9 (K:Frag) (f:Addr) (ps:List Nat) (b:Ys) (x:Value->Bool):Bool:=zG9 K f fun fd=>yM0 K fd.defaults x&&yJ9 K fd ps b
theorem yV7 (P:Params):xT9 (KP P) 112 [52,175,58,49] yA3 (fun v=>match v with|.bool false=>true|_=>false)=true:=by kernel_rfl!
theorem yG7 (P:Params):xT9 (KP P) 601 [199,163,153,193] yD3 (fun v=>match v with|.int i J=>decide (i=8)|_=>false)=true:=by kernel_rfl!
section
variable {c:Cx} {A:Around} {n:Nat} {sp:Sp} {φ:FP} {H:AH} {lc:Loc} {s:Shared}
theorem zR1 {α β:Type} {f:α->β->Sem (ForInStep β)} {a:α} {b c:β} (h:f a b=pure (.yield c)):(forIn [a] b f:Sem β)=pure c:=by
 rw[List.forIn_cons,h]
 rfl
theorem yQ7 {s:Shared} {f1 f2:Str} {f4:FuncBody} {f5:Scope} {f6 b T:Addr} {f7:List (Str×Addr)} {f9 f10 f11 cd ct v0 v1 v2 d:Value} {an:Option Addr} {ps:List Arg} {kd:List (Option Expr)} {df:List Expr} {n0 n1 n2 y:Str} {o:Obj} {m:Nat}
  (ha:ps.map (fun(x:Arg)=>x.arg)=[n0,n1,n2,y]) (nd:[n0,n1,n2,y].Nodup) (ho:s.heap.get? T=some o) (hs:o.data=.seq #[d] m) :
  BindsTo s ⟨f1,f2,⟨[],ps,none,[],kd,none,df⟩,f4,f5,f6,f7,.ref T,f9,f10,f11,an,cd,ct,b⟩ ⟨[v0,v1,v2],[]⟩ ([n0,n1,n2,y].zip [v0,v1,v2,d]):=by
 refine BindsTo.of_defaults (n:=m) (items:=#[d]) rfl ho hs rfl ?_
 simp only[List.nodup_cons,List.mem_cons,List.not_mem_nil,or_false,not_or,not_false_eq_true,List.nodup_nil,and_true]at nd
 have a1:=nd.1.1
 have a2:=nd.1.2.1
 have a3:=nd.1.2.2
 have a4:=nd.2.1.1
 have a5:=nd.2.1.2
 have a6:=nd.2.2
 have r:∀ x:Str,(x==x)=true:=fun x=>beq_self_eq_true x
 have f:∀{x y:Str},¬ x=y->(y==x)=false:=fun h=>beq_eq_false_iff_ne.mpr fun z=>h z.symm
 have l0:∀{l:List (Str×Value)} {x:Str} {v:Value},((x,v)::l).lookup x=some v:=fun {l x v}=>by rw[List.lookup_cons,r]
 have ln:∀{l:List (Str×Value)} {x y:Str} {v:Value},¬ x=y->((x,v)::l).lookup y=l.lookup y:=fun {l x y v} h=>by rw[List.lookup_cons,f h]
 refine (if_neg ?_).trans ?_
 ·show ¬ ((decide (3 > (ps.map (fun(x:Arg)=>x.arg)).length)&&true)=true)
  rw[ha];exact fun z=>nf z
 refine (if_neg ?_).trans ?_
 ·have e2:((ps.map (fun(x:Arg)=>x.arg)).take ((ps.map (fun(x:Arg)=>x.arg)).length-(List.drop (1-(ps.map (fun(x:Arg)=>x.arg)).length) [d]).length)).filter (fun n=>(((ps.map (fun(x:Arg)=>x.arg)).zip [v0,v1,v2]).lookup n).isNone)=[]:=by
   rw[ha]
   show List.filter (fun n=>([(n0,v0),(n1,v1),(n2,v2)].lookup n).isNone) [n0,n1,n2]=[]
   rw[List.filter_cons_of_neg (by rw[l0];exact Bool.false_ne_true),List.filter_cons_of_neg (by rw[ln a1,l0];exact Bool.false_ne_true),List.filter_cons_of_neg (by rw[ln a2,ln a4,l0];exact Bool.false_ne_true)]
   rfl
  exact fun z=>nf ((congrArg (fun l=>!(List.isEmpty l)) e2).symm.trans z)
 have e3:((ps.map (fun(x:Arg)=>x.arg)).drop ((ps.map (fun(x:Arg)=>x.arg)).length-(List.drop (1-(ps.map (fun(x:Arg)=>x.arg)).length) [d]).length)).zip (List.drop (1-(ps.map (fun(x:Arg)=>x.arg)).length) [d])=[(y,d)]:=by rw[ha];rfl
 refine (congrArg (fun l=>(forIn l _ _:Sem _)>>=_) e3).trans ?_
 refine (congrArg (fun x=>(x:Sem _)>>=_) (zR1 (c:=(ps.map (fun(x:Arg)=>x.arg)).zip [v0,v1,v2]++[(y,d)]) ?_)).trans ?_
 ·refine if_pos ?_
  show (List.lookup y ((ps.map (fun(x:Arg)=>x.arg)).zip [v0,v1,v2])).isNone=true
  rw[ha]
  show (List.lookup y [(n0,v0),(n1,v1),(n2,v2)]).isNone=true
  rw[ln a3,ln a5,ln a6];rfl
 have e4:((ps.map (fun(x:Arg)=>x.arg))++[]).filterMap (fun n=>(((ps.map (fun(x:Arg)=>x.arg)).zip [v0,v1,v2]++[(y,d)]).lookup n).map (n,·))=[n0,n1,n2,y].zip [v0,v1,v2,d]:=by
  rw[ha]
  show List.filterMap (fun n=>([(n0,v0),(n1,v1),(n2,v2),(y,d)].lookup n).map (n,·)) [n0,n1,n2,y]=_
  rw[List.filterMap_cons_some (by rw[l0];rfl),List.filterMap_cons_some (by rw[ln a1,l0];rfl),List.filterMap_cons_some (by rw[ln a2,ln a4,l0];rfl),List.filterMap_cons_some (by rw[ln a3,ln a5,ln a6,l0];rfl)]
  rfl
 exact congrArg (fun x=>(pure x:Sem (List (Str×Value)))) e4
theorem xX4 {fd:FuncData} {v0 v1 v2:Value} {T:Addr} {o:Obj} {d:Value} {m:Nat} {n0 n1 n2 y:Str} (h1:fd.params.posonlyargs=[]) (h2:fd.params.vararg=none) (h3:fd.params.kwonlyargs=[]) (h4:fd.params.kwarg=none) (h5:fd.defaults=.ref T)
  (ha:fd.params.args.map (·.arg)=[n0,n1,n2,y]) (nd:[n0,n1,n2,y].Nodup) (ho:s.heap.get? T=some o) (hs:o.data=.seq #[d] m):BindsTo s fd ⟨[v0,v1,v2],[]⟩ ([n0,n1,n2,y].zip [v0,v1,v2,d]):=by
 obtain ⟨f1,f2,⟨p1,p2,p3,p4,p5,p6,p7⟩,f4,f5,f6,f7,f8,f9,f10,f11,f12,f13,f14,f15⟩:=fd
 obtain rfl:p1=[]:=h1
 obtain rfl:p3=none:=h2
 obtain rfl:p4=[]:=h3
 obtain rfl:p6=none:=h4
 obtain rfl:f8=.ref T:=h5
 exact yQ7 ha nd ho hs
theorem wW3 (S:qY4 n sp) (O:Ok c A (n+2)) (N:Now c φ H lc s) {a0 a1 a2 ad:AV} {vs:List Value} (hv:qQ4 φ [a0,a1,a2] vs) {f:Addr} {p0 p1 p2 p3:Nat} {b:Ys} {x:Value->Bool} {K:AV->AH->Prop} (hfn:xT9 (KP c.w.params) f [p0,p1,p2,p3] b x=true) (hx:∀ v,x v=true->qQ1 φ ad v)
  (h:evF sp [p0,p1,p2,p3] b [a0,a1,a2,ad] H K fun J=>False):qV9 c A φ lc f vs K s:=by
 refine wF7 hfn fun oc od fd sl hf hfn=>zF2 (tt2 hfn).1 fun T tc td d m tsl hT eT hx'=>?_
 obtain ⟨body,F⟩:=zN4 (tt2 hfn).2
 obtain ⟨v0,r0,rfl,w0,hv⟩:=hv
 obtain ⟨v1,r1,rfl,w1,hv⟩:=hv
 obtain ⟨v2,r2,rfl,w2,hv⟩:=hv
 subst hv
 have X:=O.here N
 have nd:([p0,p1,p2,p3].map nm).Nodup:=F.nd.map _ fun a b q e=>q (qK6 e)
 exact wZ7 (E:=NoE) (as:=[a0,a1,a2,ad]) S O N hf F (vs:=[v0,v1,v2,d]) (xX4 F.po F.va F.ko F.kw hT F.ar nd (X _ _ eT) rfl) rfl ⟨v0,_,rfl,w0,v1,_,rfl,w1,v2,_,rfl,w2,d,[],rfl,hx d hx',rfl⟩ h (fun A'=>qW4 S) (fun v s' g=>g) (fun J J e=>e.elim)
theorem xP7 {P:Prop} {o:Option (List Nat×Ys)} {A:List Nat->Ys->Prop} {B:Prop} (h:match o with|some (ps,b)=>A ps b|none=>B) (q1:∀ ps b,o=some (ps,b)->A ps b->P) (q2:B->P):P:=by
 cases o<;>first|exact q2 h|exact q1 _ _ rfl h
theorem xN0 {P:Prop} {l:List AV} {A:AV->AV->AV->Prop} (h:match l with|[a,b,c]=>A a b c|_=>False) (q:∀ a b c,l=[a,b,c]->A a b c->P):P:=
 match l,h,q with
 |[],h,J=>False.elim h
 |[J],h,J2=>False.elim h
 |[J,J2],h,J3=>False.elim h
 |[a,b,c],h,q=>q a b c rfl h
 |J::J2::J3::J4::J5,h,J6=>False.elim h
set_option tactic.hygienic true in
theorem zS1 {P:Prop} {args:List AV} {A:Nat->List Int->Prop} (h:match yE9 args H with|some (j,xs)=>A j xs|none=>False) (q:∀ j xs rest,args=.obj j::rest->qQ0 H j=.gp xs->A j xs->P):P:=by
 cases args<;>first|exact False.elim h|skip
 rename_i v rest
 cases v<;>first|exact False.elim h|skip
 rename_i j
 have key:∀{o:AO},(match (match o with|.gp xs=>some (j,xs)|_=>none) with|some (j,xs)=>A j xs|none=>False)->qQ0 H j=o->P:=fun {o} h e=>by
  cases o<;>first|exact False.elim h|exact q j _ rest rfl e h
 exact key h rfl
set_option tactic.hygienic true in
theorem zT8 (S:qY4 n sp):qY4 (n+4) (spS sp):=by
 intro c A φ H lc s f args vs K O N hv h
 have O2:Ok c A (n+2):=O.less.less
 have O4:Ok c A 4:=⟨O.base,O.lb,O.lc,O.ch,O.ci,O.frames,⟨by have:=O.room.depth;omega,by have:=O.room.units;omega,O.room.hand,O.room.grd⟩⟩
 refine xP7 h (fun ps b e h=>qN9 S O2 N hv (List.all_eq_true.mp (zO2 c.w.params) _ (qX4 e)) h) fun h=>xP7 h (fun ps b e h=>wI8 S O2 N hv (List.all_eq_true.mp (zW1 c.w.params) _ (qX4 e)) h) fun h=>
  qD3 h (fun e h=>xN0 h fun a b d e1 g=>?_) fun h=>qD3 h (fun e h=>xN0 h fun a b d e1 g=>?_) fun h=>qD3 h (fun e g=>?_) fun h=>qD3 h (fun e g=>?_) fun h=>qD3 h (fun e g=>?_) fun h=>zS1 h fun j xs rest e ej g=>?_
 ·subst e e1
  exact wW3 S O2 N hv (yV7 c.w.params) (fun v hv=>by cases v<;>first|exact nf hv|(rename_i t;cases t<;>first|rfl|exact nf hv)) g
 ·subst e e1
  refine wW3 S O2 N hv (yG7 c.w.params) (fun v hv=>?_) g
  cases v<;>first|exact nf hv|exact ⟨_,congrArg (Value.int · _) (of_decide_eq_true hv)⟩
 ·subst e;exact zV5 O4 N hv g
 ·subst e;exact xG8 S O N hv g
 ·subst e;exact xE5 S O N hv g
 ·subst e;exact zO4 O4 N hv ej g
theorem xN2:∀ k,qY4 (4*k) (spN k):=@fun ξ=>match @ξ with
 |0=>xU8
 |k+1=>zT8 (xN2 k)
end
end Mine
section
namespace Mine
theorem inl {S:Nat->Sp} (hS:∀ k,S (k+1)=spS (S k)) {k f:Nat} {args:List AV} {H:AH} {K:AV->AH->Prop} {KE:AH->Prop} (g:spS (S k) f args H K KE):S (k+1) f args H K KE:=by
 rw[hS]
 exact g
theorem wU5:∀{H G:AH} {k:Nat},k<H.length->qQ0 (H++G) k=qQ0 H k:=@fun ξ ξ2 ξ3 ξ4=>match @ξ,@ξ2,@ξ3,@ξ4 with
 |[],J,J2,h=>absurd h (Nat.not_lt_zero _)
 |J::J2,J3,0,J4=>rfl
 |J::H,G,k+1,h=>wU5 (H:=H) (k:=k) (Nat.lt_of_succ_lt_succ h)
theorem zX3:∀{H:AH} {k:Nat} {o:AO},qQ0 H k=o->o≠.dead->k<H.length:=@fun ξ ξ2=>no_implicit_lambda%(match @ξ,@ξ2 with
 |[],J=>@fun J2 e n=>absurd e.symm n
 |J::J2,0=>@fun J3 J4 J5=>Nat.zero_lt_succ _
 |J::H,k+1=>@fun o e n=>Nat.succ_lt_succ (zX3 (H:=H) (k:=k) e n)
 )
theorem xI9 {H:AH} {k l:Nat} {x y:List Int} (e:qQ0 H k=.il x) (g:qQ0 H l=.il y):vEq H (.obj k) (.obj l)=some (decide (x=y)):=by
 show (match qQ0 H k,qQ0 H l with|.il xs,.il ys=>some (decide (xs=ys))|J,J2=>none)=_
 rw[e,g]
theorem xH7 {H:AH} {k l:Nat} {x y:List Int} (e:qQ0 H k=.il x) (g:qQ0 H l=.il y):sEq H (.obj k) (.obj l)=some (decide (x=y)):=by
 show (match qQ0 H k,qQ0 H l with|.vl xs,.vl ys=>(match qM0 xs with|true=>wO8 H xs ys|false=>none)|J,J2=>vEq H (.obj k) (.obj l))=_
 rw[e,g]
 exact xI9 e g
theorem zS3 {H:AH} {k l:Nat} {x y:List AV} {t:Option Bool} (e:qQ0 H k=.vl x) (g:qQ0 H l=.vl y) (n:qM0 x=true) (h:wO8 H x y=t):sEq H (.obj k) (.obj l)=t:=by
 show (match qQ0 H k,qQ0 H l with|.vl xs,.vl ys=>(match qM0 xs with|true=>wO8 H xs ys|false=>none)|J,J2=>vEq H (.obj k) (.obj l))=_
 rw[e,g]
 show (match qM0 x with|true=>wO8 H x y|false=>none)=_
 rw[n]
 exact h
theorem yG9 {H:AH} {k:Nat} {x:List Int} (e:qQ0 H k=.il x):qA4 (.obj k) H=1:=by
 show (match qQ0 H k with|.il J=>1|.vl J=>1|.sd J=>2|_=>0)=_
 rw[e]
section
variable {sp:Sp} {lc:Loc} {H:AH} {e a b o i:X} {k n m:Nat} {x y:List Int} {p q:Int} {t:Bool}
noncomputable abbrev EvI (sp:Sp) (e:X) (lc:Loc) (H:AH) (v:AV):Prop:=∀ K:AV->AH->Prop,K v H->ev sp e lc H K
noncomputable abbrev CdI (sp:Sp) (e:X) (lc:Loc) (H:AH) (t:Bool):Prop:=∀ K:Bool->AH->Prop,K t H->cd sp e lc H K
theorem qX3 {v:AV} (h:lk lc n=some v):EvI sp (.loc n) lc H v:=fun J q=>evL h q
theorem qY5 (h:EvI sp e lc H (.obj k)) (g:qQ0 H k=.il x):EvI sp (.bi 0 (.cons e .nil)) lc H (.int x.length):=fun J q=>h _ (zB8 g q)
theorem zM3:EvI sp (.int p) lc H (.int p):=fun J q=>q
theorem zC0 (ha:EvI sp a lc H (.int p)) (hb:EvI sp b lc H (.int q)):EvI sp (.bin .add a b) lc H (.int (p+q)):=fun J z=>ha _ (hb _ z)
theorem wR6 (ha:EvI sp a lc H (.int p)) (hb:EvI sp b lc H (.int q)):EvI sp (.bin .sub a b) lc H (.int (p-q)):=fun J z=>ha _ (hb _ z)
theorem xY2 (ha:EvI sp a lc H (.int p)) (hb:EvI sp b lc H (.int q)):EvI sp (.bi 1 (.cons a (.cons b .nil))) lc H (.int (min p q)):=fun J z=>ha _ (hb _ z)
theorem wR5 (ho:EvI sp o lc H (.obj k)) (hi:EvI sp i lc H (.int (n:Nat))) (g:qQ0 H k=.il x) (hn:n<x.length):EvI sp (.sub o i) lc H (.int (x.getD n 0)):=fun K q=>ho _ (hi _ (by
 show (match qQ0 H k with|.il xs=>-(xs.length:Int)<=(n:Nat)/\((n:Nat):Int)<xs.length/\K (.int (xs.getD (if ((n:Nat):Int)<0 then (((n:Nat):Int)+xs.length).toNat else ((n:Nat):Int).toNat) 0)) H|_=>False)
 rw[g]
 refine ⟨Int.le_trans (Int.neg_nonpos_of_nonneg (Int.natCast_nonneg _)) (Int.natCast_nonneg _),Int.ofNat_lt.mpr hn,?_⟩
 rw[if_neg (Int.not_lt.mpr (Int.natCast_nonneg _)),Int.toNat_natCast]
 exact q))
theorem wL8 (ha:EvI sp a lc H (.int p)) (hb:EvI sp b lc H (.int q)) (e:decide (p<q)=t):CdI sp (.cmp .lt a b) lc H t:=fun J z=>ha _ (hb _ (by subst e;exact z))
theorem yS4 (ha:EvI sp a lc H (.int p)) (hb:EvI sp b lc H (.int q)) (e:decide (p<=q)=t):CdI sp (.cmp .le a b) lc H t:=fun J z=>ha _ (hb _ (by subst e;exact z))
theorem yT5 {KE:AH->Prop} {K:AV->AH->Prop} {c:X} {a b ss:Ys} {KN:Loc->AH->Prop} (h:cd sp c lc H fun t H=>match t with|true=>exs sp KE K a lc H (fun lc H=>exs sp KE K ss lc H KN)|false=>exs sp KE K b lc H (fun lc H=>exs sp KE K ss lc H KN)):exs sp KE K (.cons (.ife c a b) ss) lc H KN:=h
theorem yT7 {KE:AH->Prop} {K:AV->AH->Prop} {KN:Loc->AH->Prop} (h:KN lc H):exs sp KE K .nil lc H KN:=h
theorem yH1 (ha:EvI sp a lc H (.int p)) (hb:EvI sp b lc H (.int q)) (e:decide (p=q)=t):CdI sp (.cmp .eq a b) lc H t:=fun J z=>ha _ (hb _ (by subst e;exact z))
theorem qG9 {xs:Xs} (ha:CdI sp a lc H true) (h:CdI sp (.and xs) lc H t):CdI sp (.and (.cons a xs)) lc H t:=fun K z=>ha _ (h K z)
theorem wJ1 {xs:Xs} (ha:CdI sp a lc H false):CdI sp (.and (.cons a xs)) lc H false:=fun J z=>ha _ z
theorem zX9:CdI sp (.and .nil) lc H true:=fun J z=>z
end
theorem yU1 {S:Nat->Sp} (hS:∀ k,S (k+1)=spS (S k)) {k d:Nat} {m:Int} {H:AH} {xs:List Int} {K:AV->AH->Prop} {KE:AH->Prop} (e:qQ0 H d=.il xs) (hm:0<m)
  (q:K (.int (xs.headD 0 % m)) (qX7 (H++[.il []]) d (.il xs.tail))):S (k+1) 946 [.obj d,.int m] H K KE:=by
 refine inl hS ?_
 (conv=>whnf)
 have e1:qQ0 (H++[mkL []]) d=.il xs:=qV0 e (qQ6 rfl)
 have e2:qQ0 (H++[mkL []]) H.length=.il []:=qZ0 H _
 have e3:sEq (H++[mkL []]) (.obj d) (.obj H.length)=some (decide (xs=[])):=xH7 e1 e2
 rw[e3]
 cases xs with
 |nil=>
  (conv=>whnf)
  have e5:qX7 (H++[.il []]) d (.il [])=H++[.il []]:=qD2 e1
  rw[show ([]:List Int).tail=[] from rfl,e5,show ([]:List Int).headD 0 % m=0 from Int.zero_emod m]at q
  exact q
 |cons x xs=>
  (conv=>whnf)
  have ek:qA4 (.obj d) (H++[mkL []])=1:=yG9 e1
  rw[e1]
  (conv=>whnf)
  rw[ek]
  (conv=>whnf)
  rw[ek]
  (conv=>whnf)
  rw[e1]
  (conv=>whnf)
  exact And.intro hm q
noncomputable def hdN:List Int->List Int->Nat
 |a::x,b::y=>if a=b then hdN x y+1 else 0
 |J,J2=>0
theorem wI4:∀(x y:List Int) (i:Nat),i<hdN x y->i<x.length/\i<y.length/\x.getD i 0=y.getD i 0:=@fun ξ ξ2=>no_implicit_lambda%(match @ξ,@ξ2 with
 |[],J=>@fun J2 h=>absurd h (Nat.not_lt_zero _)
 |J::J2,[]=>@fun J3 h=>absurd h (Nat.not_lt_zero _)
 |a::x,b::y=>@fun i h=>by
  have h':i<(if a=b then hdN x y+1 else 0):=h
  by_cases e:a=b
  ·rw[if_pos e]at h'
   cases i with
   |zero=>exact ⟨Nat.succ_pos _,Nat.succ_pos _,e⟩
   |succ i=>exact (wI4 x y i (Nat.lt_of_succ_lt_succ h')).imp Nat.succ_lt_succ (.imp Nat.succ_lt_succ id)
  ·rw[if_neg e]at h'
   exact absurd h' (Nat.not_lt_zero _)
 )
theorem wD0:∀(x y:List Int) (i:Nat),i<x.length->i<y.length->x.getD i 0=y.getD i 0->i<=hdN x y->i<hdN x y:=@fun ξ ξ2=>no_implicit_lambda%(match @ξ,@ξ2 with
 |[],J=>@fun J2 h J3 J4 J5=>absurd h (Nat.not_lt_zero _)
 |J::J2,[]=>@fun J3 J4 h J5 J6=>absurd h (Nat.not_lt_zero _)
 |a::x,b::y=>@fun i h1 h2 h3 h4=>by
  show i<(if a=b then hdN x y+1 else 0)
  have h4':i<=(if a=b then hdN x y+1 else 0):=h4
  cases i with
  |zero=>
   rw[if_pos (show a=b from h3)]
   exact Nat.succ_pos _
  |succ i=>
   by_cases e:a=b
   ·rw[if_pos e]at h4' ⊢
    exact Nat.succ_lt_succ (wD0 x y i (Nat.lt_of_succ_lt_succ h1) (Nat.lt_of_succ_lt_succ h2) h3 (Nat.le_of_succ_le_succ h4'))
   ·rw[if_neg e]at h4'
    exact absurd h4' (Nat.not_succ_le_zero _)
 )
theorem xP2 (x y:List Int):hdN x y<=x.length/\hdN x y<=y.length:=
 ⟨Nat.le_of_not_lt fun h=>Nat.lt_irrefl _ (wI4 x y _ h).1,Nat.le_of_not_lt fun h=>Nat.lt_irrefl _ (wI4 x y _ h).2.1⟩
theorem qT4:∀(x y:List Int) (i:Nat),i<=hdN x y->x.take i=y.take i:=@fun ξ ξ2 ξ3 ξ4=>match @ξ,@ξ2,@ξ3,@ξ4 with
 |J,J2,0,J3=>rfl
 |[],J,i+1,h=>absurd h (Nat.not_succ_le_zero _)
 |J::J2,[],i+1,h=>absurd h (Nat.not_succ_le_zero _)
 |a::x,b::y,i+1,h=>by
  have h':i+1<=(if a=b then hdN x y+1 else 0):=h
  by_cases e:a=b
  ·rw[if_pos e]at h'
   rw[List.take_succ_cons,List.take_succ_cons,e,qT4 x y i (Nat.le_of_succ_le_succ h')]
  ·rw[if_neg e]at h'
   exact absurd h' (Nat.not_succ_le_zero _)
noncomputable def tlN (x y:List Int):Nat:=min (hdN x.reverse y.reverse) (min x.length y.length-hdN x y)
theorem qG3 {x:List Int} {t:Nat} (h:t<x.length):x.getD (x.length-1-t) 0=x.reverse.getD t 0:=by
 rw[List.getD_eq_getElem?_getD,List.getD_eq_getElem?_getD,List.getElem?_reverse h]
theorem wA1 (x y:List Int) {t:Nat} (h:t<min x.length y.length-hdN x y):t<x.length/\t<y.length:=
 ⟨Nat.lt_of_lt_of_le h (Nat.le_trans (Nat.sub_le _ _) (Nat.min_le_left _ _)),Nat.lt_of_lt_of_le h (Nat.le_trans (Nat.sub_le _ _) (Nat.min_le_right _ _))⟩
theorem yH0 (x y:List Int) {t:Nat} (h:t<tlN x y):t<min x.length y.length-hdN x y/\x.getD (x.length-1-t) 0=y.getD (y.length-1-t) 0:=by
 have h2:=Nat.lt_of_lt_of_le h (Nat.min_le_right _ _)
 obtain ⟨h3,h4⟩:=wA1 x y h2
 refine ⟨h2,?_⟩
 rw[qG3 h3,qG3 h4]
 exact (wI4 _ _ t (Nat.lt_of_lt_of_le h (Nat.min_le_left _ _))).2.2
theorem zC3 (x y:List Int) {t:Nat} (h:t<=tlN x y) (hm:t<min x.length y.length-hdN x y) (e:x.getD (x.length-1-t) 0=y.getD (y.length-1-t) 0):t<tlN x y:=by
 obtain ⟨h3,h4⟩:=wA1 x y hm
 rw[qG3 h3,qG3 h4]at e
 exact Nat.lt_min.mpr ⟨wD0 _ _ t (by rw[List.length_reverse];exact h3) (by rw[List.length_reverse];exact h4) e (Nat.le_trans h (Nat.min_le_left _ _)),hm⟩
theorem xF2 (x y:List Int):x.drop (x.length-tlN x y)=y.drop (y.length-tlN x y):=by
 have h1:=qT4 x.reverse y.reverse (tlN x y) (Nat.min_le_left _ _)
 rw[List.take_reverse,List.take_reverse]at h1
 exact List.reverse_inj.mp h1
noncomputable def qU3 (x y:List Int) (p:Int):Int:=if p<=1+x.length-tlN x y then min p (1+hdN x y) else p+y.length-x.length
theorem wP7 (a b h j:Nat):((j:Int)<min (a:Int) b-(h:Nat))↔j<min a b-h:=by omega
theorem yF6 {a j:Nat} (h:j<a):((a:Int)-1-j)=((a-1-j:Nat):Int):=by omega
theorem zA0 (a b i:Nat):((i:Int)<min (a:Int) b)↔i<a/\i<b:=by omega
section
variable {sp:Sp} {lc:Loc} {H:AH} {a b i j u v:Nat} {x y:List Int} {K:Bool->AH->Prop}
theorem yW1 (h1:lk lc u=some (.obj a)) (h2:lk lc v=some (.obj b)) (h3:lk lc 94=some (.int i)) (ha:qQ0 H a=.il x) (hb:qQ0 H b=.il y) (c1:i<x.length) (c2:i<y.length) {t:Bool} (e:decide (x.getD i 0=y.getD i 0)=t) :
  CdI sp (.cmp .eq (.sub (.loc u) (.loc 94)) (.sub (.loc v) (.loc 94))) lc H t:=yH1 (wR5 (qX3 h1) (qX3 h3) ha c1) (wR5 (qX3 h2) (qX3 h3) hb c2) e
theorem zU3 (h1:lk lc u=some (.obj a)) (h3:lk lc 218=some (.int j)) (ha:qQ0 H a=.il x) (c1:j<x.length):EvI sp (.sub (.loc u) (.bin .sub (.bin .sub (.bi 0 (.cons (.loc u) .nil)) (.int 1)) (.loc 218))) lc H (.int (x.getD (x.length-1-j) 0)):=
 wR5 (qX3 h1) (yF6 c1▸wR6 (wR6 (qY5 (qX3 h1) ha) zM3) (qX3 h3)) ha (Nat.lt_of_le_of_lt (Nat.sub_le _ _) (Nat.sub_lt (Nat.zero_lt_of_lt c1) Nat.one_pos))
theorem zN9 (h1:lk lc u=some (.obj a)) (h2:lk lc v=some (.obj b)) (h3:lk lc 218=some (.int j)) (ha:qQ0 H a=.il x) (hb:qQ0 H b=.il y) (c1:j<x.length) (c2:j<y.length) {t:Bool} (e:decide (x.getD (x.length-1-j) 0=y.getD (y.length-1-j) 0)=t) :
  CdI sp (.cmp .eq (.sub (.loc u) (.bin .sub (.bin .sub (.bi 0 (.cons (.loc u) .nil)) (.int 1)) (.loc 218))) (.sub (.loc v) (.bin .sub (.bin .sub (.bi 0 (.cons (.loc v) .nil)) (.int 1)) (.loc 218)))) lc H t:=yH1 (zU3 h1 h3 ha c1) (zU3 h2 h3 hb c2) e
noncomputable def wc1:X:=(.and (.cons (.cmp .lt (.loc 94) (.bi 0 (.cons (.loc 167) .nil))) (.cons (.cmp .lt (.loc 94) (.bi 0 (.cons (.loc 58) .nil))) (.cons (.cmp .eq (.sub (.loc 167) (.loc 94)) (.sub (.loc 58) (.loc 94))) .nil))))
noncomputable def wc2:X:=(.and (.cons (.cmp .lt (.loc 218) (.loc 150)) (.cons (.cmp .eq (.sub (.loc 167) (.bin .sub (.bin .sub (.bi 0 (.cons (.loc 167) .nil)) (.int 1)) (.loc 218))) (.sub (.loc 58) (.bin .sub (.bin .sub (.bi 0 (.cons (.loc 58) .nil)) (.int 1)) (.loc 218)))) .nil)))
theorem zN7 (hi:i<=hdN x y) (h:¬ i<hdN x y):i=hdN x y:=Nat.le_antisymm hi (Nat.le_of_not_lt h)
theorem yA0 (h1:lk lc 167=some (.obj a)) (h2:lk lc 58=some (.obj b)) (h3:lk lc 94=some (.int i)) (ha:qQ0 H a=.il x) (hb:qQ0 H b=.il y) (hi:i<=hdN x y)
  (q1:i<hdN x y->K true H) (q2:i=hdN x y->K false H):cd sp wc1 lc H K:=by
 by_cases c:i<hdN x y
 ·obtain ⟨c1,c2,c3⟩:=wI4 x y i c
  exact qG9 (wL8 (qX3 h3) (qY5 (qX3 h1) ha) (decide_eq_true (Int.ofNat_lt.mpr c1))) (qG9 (wL8 (qX3 h3) (qY5 (qX3 h2) hb) (decide_eq_true (Int.ofNat_lt.mpr c2))) (qG9 (yW1 h1 h2 h3 ha hb c1 c2 (decide_eq_true c3)) zX9)) _ (q1 c)
 ·have q:=q2 (zN7 hi c)
  by_cases c1:i<x.length
  ·refine qG9 (wL8 (qX3 h3) (qY5 (qX3 h1) ha) (decide_eq_true (Int.ofNat_lt.mpr c1))) ?_ _ q
   by_cases c2:i<y.length
   ·exact qG9 (wL8 (qX3 h3) (qY5 (qX3 h2) hb) (decide_eq_true (Int.ofNat_lt.mpr c2))) (wJ1 (yW1 h1 h2 h3 ha hb c1 c2 (decide_eq_false fun e=>c (wD0 x y i c1 c2 e hi))))
   ·exact wJ1 (wL8 (qX3 h3) (qY5 (qX3 h2) hb) (decide_eq_false fun e=>c2 (Int.ofNat_lt.mp e)))
  ·exact wJ1 (wL8 (qX3 h3) (qY5 (qX3 h1) ha) (decide_eq_false fun e=>c1 (Int.ofNat_lt.mp e))) _ q
theorem xP4 {L:X} {m:Int} (h1:lk lc u=some (.obj a)) (h2:lk lc v=some (.obj b)) (h3:lk lc 218=some (.int j)) (h4:EvI sp L lc H (.int m)) (ha:qQ0 H a=.il x) (hb:qQ0 H b=.il y)
  (hm:m=min (x.length:Int) y.length-(hdN x y:Nat)) (hj:j<=tlN x y) (q1:j<tlN x y->K true H) (q2:j=tlN x y->K false H) :
  cd sp (.and (.cons (.cmp .lt (.loc 218) L) (.cons (.cmp .eq (.sub (.loc u) (.bin .sub (.bin .sub (.bi 0 (.cons (.loc u) .nil)) (.int 1)) (.loc 218))) (.sub (.loc v) (.bin .sub (.bin .sub (.bi 0 (.cons (.loc v) .nil)) (.int 1)) (.loc 218)))) .nil))) lc H K:=by
 subst hm
 by_cases c:j<tlN x y
 ·obtain ⟨c1,c2⟩:=yH0 x y c
  obtain ⟨c3,c4⟩:=wA1 x y c1
  exact qG9 (wL8 (qX3 h3) h4 (decide_eq_true ((wP7 ..).mpr c1))) (qG9 (zN9 h1 h2 h3 ha hb c3 c4 (decide_eq_true c2)) zX9) _ (q1 c)
 ·have q:=q2 (Nat.le_antisymm hj (Nat.le_of_not_lt c))
  by_cases c1:j<min x.length y.length-hdN x y
  ·obtain ⟨c3,c4⟩:=wA1 x y c1
   exact qG9 (wL8 (qX3 h3) h4 (decide_eq_true ((wP7 ..).mpr c1))) (wJ1 (zN9 h1 h2 h3 ha hb c3 c4 (decide_eq_false fun e=>c (zC3 x y hj c1 e)))) _ q
  ·exact wJ1 (wL8 (qX3 h3) h4 (decide_eq_false fun e=>c1 ((wP7 ..).mp e))) _ q
theorem yA6 {m:Int} (h1:lk lc 167=some (.obj a)) (h2:lk lc 58=some (.obj b)) (h3:lk lc 218=some (.int j)) (h4:lk lc 150=some (.int m)) (ha:qQ0 H a=.il x) (hb:qQ0 H b=.il y)
  (hm:m=min (x.length:Int) y.length-(hdN x y:Nat)) (hj:j<=tlN x y) (q1:j<tlN x y->K true H) (q2:j=tlN x y->K false H):cd sp wc2 lc H K:=xP4 h1 h2 h3 (qX3 h4) ha hb hm hj q1 q2
end
theorem qT2 (x N:Nat) {lc0:Loc} {H0:AH} {stp:(Nat->Loc->AH->Prop)->Nat->Loc->AH->Prop} (h0:st lc0 x (.int ((0:Nat):Int))=lc0)
  (h:∀ i:Nat,i<=N->stp (fun m lc H=>∃ i:Nat,i<=N/\m=N-i/\lc=st lc0 x (.int (i:Nat))/\H=H0) (N-i) (st lc0 x (.int (i:Nat))) H0) :
  ∃ I:Nat->Loc->AH->Prop,(∃ m,I m lc0 H0)/\∀ m lc H,I m lc H->stp I m lc H:=by
 refine ⟨fun m lc H=>∃ i:Nat,i<=N/\m=N-i/\lc=st lc0 x (.int (i:Nat))/\H=H0,⟨_,0,Nat.zero_le _,rfl,h0.symm,rfl⟩,?_⟩
 rintro m lc H ⟨i,hi,rfl,rfl,rfl⟩
 exact h i hi
theorem yN3 {S:Nat->Sp} (hS:∀ k,S (k+1)=spS (S k)) {k a b:Nat} {x y:List Int} {p:Int} {H:AH} {K:AV->AH->Prop} {KE:AH->Prop} (ha:qQ0 H a=.il x) (hb:qQ0 H b=.il y) (q:K (.int (qU3 x y p)) (H++[.tp [.int 0,.int 0]])):S (k+1) 972 [.obj a,.obj b,.int p] H K KE:=by
 have ha':=qV0 (G:=[.tp [.int 0,.int 0]]) ha (qQ6 rfl)
 have hb':=qV0 (G:=[.tp [.int 0,.int 0]]) hb (qQ6 rfl)
 have hg:=qZ0 H (.tp [.int 0,.int 0])
 refine inl hS ?_
 show (match qQ0 (H++[.tp [.int 0,.int 0]]) H.length with|.tp vs=>(match Nat.beq 2 vs.length with|true=>xQ8 (S k) [.loc 94,.loc 218] vs ([167,160,175].zip [.obj a,.obj b,.int p]) (H++[.tp [.int 0,.int 0]]) _|false=>False)|_=>False)
 rw[hg]
 generalize H++[AO.tp [.int 0,.int 0]]=G at *
 refine qT2 (lc0:=[(167,.obj a),(160,.obj b),(175,.int p),(94,.int 0),(218,.int 0)]) 94 (hdN x y) rfl fun i hi=>?_
 by_cases c:i<hdN x y
 ·obtain ⟨c1,c2,c3⟩:=wI4 x y i c
  exact qG9 (wL8 (qX3 rfl) (xY2 (qY5 (qX3 rfl) ha') (qY5 (qX3 rfl) hb')) (decide_eq_true ((zA0 ..).mpr ⟨c1,c2⟩))) (qG9 (yW1 rfl rfl rfl ha' hb' c1 c2 (decide_eq_true c3)) zX9) _ ⟨_,Nat.sub_lt_sub_left c (Nat.lt_succ_self i),i+1,c,rfl,rfl,rfl⟩
 ·obtain rfl:=zN7 hi c
  have step2:CdI (S k) (.and (.cons (.cmp .lt (.loc 94) (.bi 1 (.cons (.bi 0 (.cons (.loc 167) .nil)) (.cons (.bi 0 (.cons (.loc 160) .nil)) .nil)))) (.cons (.cmp .eq (.sub (.loc 167) (.loc 94)) (.sub (.loc 160) (.loc 94))) .nil))) [(167,.obj a),(160,.obj b),(175,.int p),(94,.int (hdN x y:Nat)),(218,.int 0)] G false:=by
   by_cases c1:hdN x y<x.length/\hdN x y<y.length
   ·exact qG9 (wL8 (qX3 rfl) (xY2 (qY5 (qX3 rfl) ha') (qY5 (qX3 rfl) hb')) (decide_eq_true ((zA0 ..).mpr c1))) (wJ1 (yW1 rfl rfl rfl ha' hb' c1.1 c1.2 (decide_eq_false fun e=>c (wD0 x y _ c1.1 c1.2 e hi))))
   ·exact wJ1 (wL8 (qX3 rfl) (xY2 (qY5 (qX3 rfl) ha') (qY5 (qX3 rfl) hb')) (decide_eq_false fun e=>c1 ((zA0 ..).mp e)))
  refine step2 _ ?_
  refine qT2 (lc0:=[(167,.obj a),(160,.obj b),(175,.int p),(94,.int (hdN x y:Nat)),(218,.int 0)]) 218 (tlN x y) rfl fun j hj=>?_
  refine xP4 (u:=167) (v:=160) rfl rfl rfl (wR6 (xY2 (qY5 (qX3 rfl) ha') (qY5 (qX3 rfl) hb')) (qX3 rfl)) ha' hb' rfl hj (fun c=>⟨_,Nat.sub_lt_sub_left c (Nat.lt_succ_self j),j+1,c,rfl,rfl,rfl⟩) fun c=>?_
  subst c
  refine yT5 (yS4 (qX3 rfl) (wR6 (zC0 zM3 (qY5 (qX3 rfl) ha')) (qX3 rfl)) rfl _ ?_)
  refine ife (b:=decide (p<=1+(x.length:Int)-(tlN x y:Nat))) (fun hp=>?_) (fun hp=>?_)
  ·rw[show qU3 x y p=min p (1+hdN x y) from if_pos (of_decide_eq_true hp)]at q
   exact q
  ·rw[show qU3 x y p=p+y.length-x.length from if_neg (of_decide_eq_false hp)]at q
   exact yT7 (yX4 (wR6 (zC0 (qX3 rfl) (qY5 (qX3 rfl) hb')) (qY5 (qX3 rfl) ha') _ q))
end Mine
end
section
namespace Mine
set_option genInjectivity false
set_option genSizeOf false
mutual
inductive U1 where|len|hd|neg|tl|abs
inductive B2 where|add|sub|mod|fdiv|get|lcp|lcs|cons|app|tk|dr|ct0|ct1|rep
inductive T3 where|rev|cut
end
inductive E where
 |v (n:Nat)|c (i:Int)|u (o:U1) (a:E)|b (o:B2) (x y:E)|t (o:T3) (x y z:E)
structure Rho where
 (i:Nat->Int) (l:Nat->List Int) (b:Nat->Bool) (h:Nat->Nat) (pre:AH)
mutual
noncomputable def dI (ρ:Rho):E->Int:=@fun ξ=>match @ξ with
 |.v n=>ρ.i n
 |.c i=>i
 |.u .len l=>(dL ρ l).length
 |.u .hd l=>(dL ρ l).headD 0
 |.u .neg a=>-dI ρ a
 |.b .add x y=>dI ρ x+dI ρ y
 |.b .sub x y=>dI ρ x-dI ρ y
 |.b .mod x y=>dI ρ x % dI ρ y
 |.b .fdiv x y=>dI ρ x / dI ρ y
 |.b .get l i=>(dL ρ l).getD (if dI ρ i<0 then (dI ρ i+(dL ρ l).length).toNat else (dI ρ i).toNat) 0
 |.b .lcp x y=>(hdN (dL ρ x) (dL ρ y):Nat)
 |.b .lcs x y=>(tlN (dL ρ x) (dL ρ y):Nat)
 |.t .rev x y z=>qU3 (dL ρ x) (dL ρ y) (dI ρ z)
 |J=>0
noncomputable def dL (ρ:Rho):E->List Int:=@fun ξ=>match @ξ with
 |.v n=>ρ.l n
 |.u .tl l=>(dL ρ l).tail
 |.u .abs l=>(dL ρ l).map fun i=>if i<0 then -i else i
 |.b .cons i l=>dI ρ i::dL ρ l
 |.b .app x y=>dL ρ x++dL ρ y
 |.b .tk i l=>(dL ρ l).take (dI ρ i).toNat
 |.b .dr i l=>(dL ρ l).drop (dI ρ i).toNat
 |.b .ct0 j l=>((dL ρ l).drop 0).take (PySem.clipAt (dL ρ l).length (dI ρ j)-0)
 |.b .ct1 i l=>((dL ρ l).drop (PySem.clipAt (dL ρ l).length (dI ρ i))).take ((dL ρ l).length-PySem.clipAt (dL ρ l).length (dI ρ i))
 |.b .rep n i=>List.replicate (dI ρ n).toNat (dI ρ i)
 |.t .cut i j l=>((dL ρ l).drop (PySem.clipAt (dL ρ l).length (dI ρ i))).take (PySem.clipAt (dL ρ l).length (dI ρ j)-PySem.clipAt (dL ρ l).length (dI ρ i))
 |J=>[]
end
noncomputable def uN:U1->Nat:=@fun ξ=>match @ξ with
 |.len=>0|.hd=>1|.neg=>2|.tl=>10|.abs=>11
noncomputable def bN:B2->Nat:=@fun ξ=>match @ξ with
 |.add=>0|.sub=>1|.mod=>2|.fdiv=>3|.get=>6|.lcp=>7|.lcs=>8|.cons=>10|.app=>11|.tk=>12|.dr=>13|.ct0=>14|.ct1=>15|.rep=>16
noncomputable def tN:T3->Nat:=@fun ξ=>match @ξ with
 |.rev=>0|.cut=>10
noncomputable def eqE:E->E->Bool:=@fun ξ ξ2=>match @ξ,@ξ2 with
 |.v a,.v b=>Nat.beq a b
 |.c i,.c j=>decide (i=j)
 |.u o a,.u p b=>match Nat.beq (uN o) (uN p) with|true=>eqE a b|false=>false
 |.b o x y,.b p x' y'=>match Nat.beq (bN o) (bN p) with|true=>(match eqE x x' with|true=>eqE y y'|false=>false)|false=>false
 |.t o x y z,.t p x' y' z'=>match Nat.beq (tN o) (tN p) with|true=>(match eqE x x' with|true=>(match eqE y y' with|true=>eqE z z'|false=>false)|false=>false)|false=>false
 |J,J2=>false
noncomputable def yX6 (x:E) (o:Option Nat):Option Nat:=match o,x with
 |some n,.c i=>(match decide (0<=i) with|true=>some (min n i.toNat)|false=>some n)
 |some n,J=>some n
 |none,J=>none
mutual
noncomputable def ub:E->Option Nat:=@fun ξ=>match @ξ with
 |.v J=>some 100
 |.c J=>some 0
 |.u .tl l=>ub l
 |.u .abs l=>ub l
 |.b .cons J l=>match ub l with|some n=>some (n+1)|none=>none
 |.b .app x y=>match ub x,ub y with|some n,some m=>some (n+m)|J,J2=>none
 |.b .tk J l=>ub l
 |.b .dr J l=>ub l
 |.b .ct0 j l=>yX6 j (ub l)
 |.b .ct1 J l=>ub l
 |.b .rep n J=>ubI n
 |.t .cut J J2 l=>ub l
 |J=>none
noncomputable def ubI:E->Option Nat:=@fun ξ=>match @ξ with
 |.c i=>some i.toNat
 |.u .len l=>ub l
 |.b .add x y=>match ubI x,ubI y with|some n,some m=>some (n+m)|J,J2=>none
 |.b .mod J (.c m)=>match decide (0<m) with|true=>some m.toNat|false=>none
 |J=>none
end
noncomputable def lbI:E->Option Int:=@fun ξ=>match @ξ with
 |.c i=>some i
 |.u .len J=>some 0
 |.b .add x y=>match lbI x,lbI y with|some n,some m=>some (n+m)|J,J2=>none
 |.b .mod J (.c m)=>match decide (0<m) with|true=>some 0|false=>none
 |.b .lcp J J2=>some 0
 |.b .lcs J J2=>some 0
 |J=>none
noncomputable def wL7 (f:Int->Int->Bool) (a b:Option Int):Bool:=match a,b with|some i,some j=>f i j|J,J2=>false
noncomputable def isK:E->Option Int:=@fun ξ=>match @ξ with
 |.c i=>some i
 |J=>none
noncomputable def zH2:E->Option (E×E):=@fun ξ=>match @ξ with
 |.b .add x y=>some (x,y)
 |J=>none
noncomputable def cst (x:E):E×Int:=match isK x with
 |some i=>(.c 0,i)
 |none=>match zH2 x with
  |some p=>(match isK p.2 with|some i=>(p.1,i)|none=>(x,0))
  |none=>(x,0)
noncomputable def mkC (x:E) (i:Int):E:=match isK x with
 |some j=>.c (j+i)
 |none=>match decide (i=0) with|true=>x|false=>.b .add x (.c i)
noncomputable def wM0 (p:E) (i:Int) (q:E) (j:Int):E:=match isK p,isK q with
 |some k,J=>mkC q (k+i+j)
 |none,some k=>mkC p (i+(k+j))
 |none,none=>mkC (.b .add p q) (i+j)
noncomputable def qF5 (x y:E):E:=wM0 (cst x).1 (cst x).2 (cst y).1 (cst y).2
noncomputable def xW3 (p:E) (i:Int) (q:E) (j:Int):E:=match eqE p q,isK q with
 |true,J=>.c (i-j)
 |false,some k=>mkC p (i-(k+j))
 |false,none=>match zH2 p with
  |some r=>(match eqE r.1 q,eqE r.2 q with
   |true,J=>mkC r.2 (i-j)
   |false,true=>mkC r.1 (i-j)
   |false,false=>mkC (.b .sub p q) (i-j))
  |none=>mkC (.b .sub p q) (i-j)
noncomputable def wZ2 (x y:E):E:=xW3 (cst x).1 (cst x).2 (cst y).1 (cst y).2
noncomputable def qQ8:E->E:=@fun ξ=>match @ξ with
 |.c J=>.c 0
 |.b .cons J l=>qF5 (qQ8 l) (.c 1)
 |.b .app x y=>qF5 (qQ8 x) (qQ8 y)
 |.b .rep n i=>match wL7 (fun i j=>decide (i<=j)) (some 0) (lbI n) with|true=>n|false=>.u .len (.b .rep n i)
 |l=>.u .len l
noncomputable def wI2 (x:E):E:=match isK x with|some i=>.c (-i)|none=>.u .neg x
noncomputable def xV4 (i l:E):E:=match eqE i (qQ8 l),eqE i (.c 0) with
 |true,J=>l
 |false,true=>.c 0
 |false,false=>.b .tk i l
noncomputable def xV6 (i l:E):E:=match eqE i (.c 0),eqE i (qQ8 l) with
 |true,J=>l
 |false,true=>.c 0
 |false,false=>.b .dr i l
noncomputable def qM7 (x y:E):E:=match isK x,isK y with
 |some J,J2=>y
 |none,some J=>x
 |none,none=>.b .app x y
noncomputable def hE:E->Nat:=@fun ξ=>match @ξ with
 |.v n=>n*7+1
 |.c i=>match i with|.ofNat n=>n*11+2|.negSucc n=>n*13+3
 |.u o a=>(hE a*31+uN o*5+4) % 4093
 |.b o x y=>(hE x*31+hE y*17+bN o*5+6) % 4093
 |.t o x y z=>(hE x*31+hE y*17+hE z*7+tN o*5+8) % 4093
structure SC where
 (o:Nat) (x y:E) (h:Nat)
noncomputable def sc (o:Nat) (x y:E):SC:=⟨o,x,y,(hE x*31+hE y*17+o) % 4093⟩
noncomputable def dC (ρ:Rho) (c:SC):Bool:=match c.o with
 |0=>decide (dI ρ c.x<dI ρ c.y)
 |1=>decide (dI ρ c.x<=dI ρ c.y)
 |2=>decide (dI ρ c.x=dI ρ c.y)
 |3=>decide (dL ρ c.x=dL ρ c.y)
 |J=>match c.x with|.v n=>ρ.b n|J=>false
noncomputable def eqC (a b:SC):Bool:=match Nat.beq a.h b.h with|true=>(match Nat.beq a.o b.o with|true=>(match eqE a.x b.x with|true=>eqE a.y b.y|false=>false)|false=>false)|false=>false
noncomputable abbrev Fx:=List (SC×Bool)
structure Rl where
 (pre:Fx) (c:SC) (r:Bool) (h:Nat) (p q:List Nat)
structure Gx where
 (n0:Nat) (R:List (List Rl)) (pool:List Nat)
noncomputable def zE7:Fx->SC->Option Bool:=@fun ξ ξ2=>match @ξ,@ξ2 with
 |[],J=>none
 |p::r,c=>match eqC p.1 c with|true=>some p.2|false=>zE7 r c
noncomputable def xP0:Bool->Bool->Bool:=@fun ξ ξ2=>match @ξ,@ξ2 with
 |true,true=>true
 |false,false=>true
 |J,J2=>false
noncomputable def wG5 (hs:Fx):Fx->Bool:=@fun ξ=>match @ξ with
 |[]=>true
 |p::r=>match zE7 hs p.1 with|some b=>(match xP0 b p.2 with|true=>wG5 hs r|false=>false)|none=>false
noncomputable def lkR (hs:Fx) (c:SC):List Rl->Option Bool:=@fun ξ=>match @ξ with
 |[]=>none
 |r::R=>match eqC r.c c with
  |true=>match wG5 hs r.pre with|true=>some r.r|false=>lkR hs c R
  |false=>lkR hs c R
noncomputable def ubE (x:E):Option Int:=match x with
 |.c i=>some i
 |J=>match ubI x with|some n=>some n|none=>none
noncomputable def zQ5 (c:SC):Option Bool:=match c.o with
 |0=>match wL7 (fun i j=>decide (i<j)) (ubE c.x) (lbI c.y) with
  |true=>some true
  |false=>match wL7 (fun i j=>decide (i<=j)) (ubE c.y) (lbI c.x) with|true=>some false|false=>match eqE c.x c.y with|true=>some false|false=>none
 |1=>match wL7 (fun i j=>decide (i<=j)) (ubE c.x) (lbI c.y) with
  |true=>some true
  |false=>match wL7 (fun i j=>decide (i<j)) (ubE c.y) (lbI c.x) with|true=>some false|false=>match eqE c.x c.y with|true=>some true|false=>none
 |2=>match eqE c.x c.y with
  |true=>some true
  |false=>match wL7 (fun i j=>decide (i<j)) (ubE c.x) (lbI c.y) with|true=>some false|false=>match wL7 (fun i j=>decide (i<j)) (ubE c.y) (lbI c.x) with|true=>some false|false=>none
 |3=>match eqE c.x c.y with|true=>some true|false=>none
 |J=>none
noncomputable def zL5:List (List Rl)->Nat->List Rl:=@fun ξ ξ2=>match @ξ,@ξ2 with
 |[],J=>[]
 |x::J,0=>x
 |J::r,n+1=>zL5 r n
noncomputable def ask (g:Gx) (hs:Fx) (c:SC):Option Bool:=match zQ5 c with
 |some b=>some b
 |none=>match zE7 hs c with|some b=>some b|none=>lkR hs c (zL5 g.R (c.h % 16))
noncomputable def dec (g:Gx) (hs:Fx) (c:SC) (k:Fx->Bool->Bool):Bool:=match ask g hs c with
 |some b=>k hs b
 |none=>match k ((c,true)::hs) true with|true=>k ((c,false)::hs) false|false=>false
noncomputable def nd (g:Gx) (hs:Fx) (c:SC) (k:Fx->Bool):Bool:=match ask g hs c with|some true=>k hs|J=>false
noncomputable def qB9 (l:E) (m:Nat):Bool:=match ub l with|some n=>Nat.ble n m|none=>false
inductive SAV where
 |none|bool (b:Bool)|sb (n:Nat)|int (i:E)|str (s:List Nat)|obj (k:Nat)|pl (n:Nat)
noncomputable def SAV.ctorIdx (v:SAV):Nat:=SAV.casesOn v 0 (fun J=>1) (fun J=>2) (fun J=>3) (fun J=>4) (fun J=>5) (fun J=>6)
inductive SAO where
 |dead|inst (c:Nat) (fs:List (Nat×SAV))|il (l:E)|vl (xs:List SAV)|tp (xs:List SAV)|sd (es:List (List Nat×SAV))|fd (es:List (List Nat×SAV))|gp (l:E)|fl (l:E)
noncomputable def SAO.ctorIdx (v:SAO):Nat:=SAO.casesOn v 0 (fun J J=>1) (fun J=>2) (fun J=>3) (fun J=>4) (fun J=>5) (fun J=>6) (fun J=>7) (fun J=>8)
noncomputable def jZ6:SAO->Bool
 |.dead=>true
 |J=>false
theorem qQ3 {o:SAO} (h:jZ6 o=false):o≠.dead:=fun e=>by rw[e]at h;exact nt h
noncomputable abbrev SH:=List SAO
noncomputable abbrev qX0:=List (Nat×SAV)
noncomputable def dV (ρ:Rho):SAV->AV:=@fun ξ=>match @ξ with
 |.none=>.none
 |.bool b=>.bool b
 |.sb n=>.bool (ρ.b n)
 |.int i=>.int (dI ρ i)
 |.str s=>.str s
 |.obj k=>.obj k
 |.pl n=>.obj (ρ.h n)
noncomputable def dVs (ρ:Rho):List SAV->List AV:=@fun ξ=>match @ξ with
 |[]=>[]
 |v::r=>dV ρ v::dVs ρ r
noncomputable def dF (ρ:Rho):qX0->Loc:=@fun ξ=>match @ξ with
 |[]=>[]
 |(a,v)::r=>(a,dV ρ v)::dF ρ r
noncomputable def dD (ρ:Rho):List (List Nat×SAV)->List (List Nat×AV):=@fun ξ=>match @ξ with
 |[]=>[]
 |(a,v)::r=>(a,dV ρ v)::dD ρ r
noncomputable def dO (ρ:Rho):SAO->AO:=@fun ξ=>match @ξ with
 |.dead=>.dead
 |.inst c fs=>.inst c (dF ρ fs)
 |.il l=>.il (dL ρ l)
 |.vl xs=>.vl (dVs ρ xs)
 |.tp xs=>.tp (dVs ρ xs)
 |.sd es=>.sd (dD ρ es)
 |.fd es=>.fd (dD ρ es)
 |.gp l=>.gp (dL ρ l)
 |.fl l=>.fl (dL ρ l)
noncomputable def dOs (ρ:Rho):SH->AH:=@fun ξ=>match @ξ with
 |[]=>[]
 |o::r=>dO ρ o::dOs ρ r
noncomputable def dH (ρ:Rho) (H:SH):AH:=ρ.pre++dOs ρ H
noncomputable def xZ6:SH->Nat->SAO:=@fun ξ ξ2=>match @ξ,@ξ2 with
 |[],J=>.dead
 |o::J,0=>o
 |J::r,k+1=>xZ6 r k
noncomputable def yG8:SH->Nat->SAO->SH:=@fun ξ ξ2 ξ3=>match @ξ,@ξ2,@ξ3 with
 |[],J,J2=>[]
 |J::r,0,o'=>o'::r
 |o::r,k+1,o'=>o::yG8 r k o'
noncomputable def oz (g:Gx) (H:SH) (v:SAV):SAO:=match v with
 |.obj k=>match Nat.ble g.n0 k with|true=>xZ6 H (k-g.n0)|false=>.dead
 |.pl n=>match qJ3 g.pool n with|true=>.il (.v (2+n))|false=>.dead
 |J=>.dead
noncomputable def pt (g:Gx) (H:SH) (v:SAV) (o:SAO):SH:=match v with
 |.obj k=>yG8 H (k-g.n0) o
 |J=>H
noncomputable def isO:SAV->Bool:=@fun ξ=>match @ξ with
 |.obj J=>true
 |J=>false
noncomputable def nw (g:Gx) (H:SH):SAV:=.obj (g.n0+H.length)
noncomputable def lkF:qX0->Nat->Option SAV:=@fun ξ ξ2=>match @ξ,@ξ2 with
 |[],J=>none
 |(y,v)::r,x=>match Nat.beq y x with|true=>some v|false=>lkF r x
noncomputable def stF:qX0->Nat->SAV->qX0:=@fun ξ=>no_implicit_lambda%(match @ξ with
 |[]=>@fun x v=>[(x,v)]
 |(y,u)::r=>@fun x v=>match Nat.beq y x with|true=>(y,v)::r|false=>(y,u)::stF r x v
 )
noncomputable def lkD:List (List Nat×SAV)->List Nat->Option SAV:=@fun ξ ξ2=>match @ξ,@ξ2 with
 |[],J=>none
 |(y,v)::r,x=>match eqL y x with|true=>some v|false=>lkD r x
noncomputable def stD:List (List Nat×SAV)->List Nat->SAV->List (List Nat×SAV):=@fun ξ=>no_implicit_lambda%(match @ξ with
 |[]=>@fun x v=>[(x,v)]
 |(y,u)::r=>@fun x v=>match eqL y x with|true=>(y,v)::r|false=>(y,u)::stD r x v
 )
noncomputable def zA4:List SAV->Option E:=@fun ξ=>match @ξ with
 |[]=>some (.c 0)
 |.int i::r=>match zA4 r with|some l=>some (.b .cons i l)|none=>none
 |J=>none
noncomputable def mkO (vs:List SAV):SAO:=match zA4 vs with|some l=>.il l|none=>.vl vs
noncomputable def yZ7:List Nat->List SAV->qX0:=@fun ξ ξ2=>match @ξ,@ξ2 with
 |p::ps,v::vs=>(p,v)::yZ7 ps vs
 |J,J2=>[]
noncomputable def yZ4:List (List Nat)->List SAV->List (List Nat×SAV):=@fun ξ ξ2=>match @ξ,@ξ2 with
 |p::ps,v::vs=>(p,v)::yZ4 ps vs
 |J,J2=>[]
noncomputable abbrev KV:=Fx->SAV->SH->Bool
noncomputable abbrev KVs:=Fx->List SAV->SH->Bool
noncomputable abbrev KB:=Fx->Bool->Bool
noncomputable abbrev KBH:=Fx->Bool->SH->Bool
noncomputable abbrev KLH:=Fx->qX0->SH->Bool
noncomputable abbrev KH:=Fx->SH->Bool
noncomputable abbrev Cl:=Nat->List SAV->Fx->SH->KV->KH->Bool
noncomputable def tru (g:Gx) (hs:Fx) (v:SAV) (k:KB):Bool:=match v with
 |.bool b=>k hs b
 |.sb n=>dec g hs (sc 4 (.v n) (.c 0)) k
 |J=>false
noncomputable def zA6:SAV->Bool:=@fun ξ=>match @ξ with
 |.bool J=>true
 |.sb J=>true
 |J=>false
noncomputable def wT0:SAV->Bool:=@fun ξ=>match @ξ with
 |.none=>true
 |J=>false
noncomputable def wL9:SAV->Option (List Nat):=@fun ξ=>match @ξ with
 |.str s=>some s
 |J=>none
noncomputable def yX8:SAV->Option E:=@fun ξ=>match @ξ with
 |.int i=>some i
 |J=>none
noncomputable def scE (g:Gx) (hs:Fx) (a b:SAV) (k:KB):Bool:=match yX8 a with
 |some i=>(match yX8 b with|some j=>dec g hs (sc 2 i j) k|none=>false)
 |none=>(match wL9 a with
  |some s=>(match wL9 b with|some t=>k hs (eqL s t)|none=>false)
  |none=>(match zA6 a with
   |true=>(match zA6 b with
    |true=>tru g hs a fun hs x=>tru g hs b fun hs y=>k hs (match x,y with|true,true=>true|false,false=>true|J,J2=>false)
    |false=>false)
   |false=>false))
noncomputable def yG3 (g:Gx) (hs:Fx) (H:SH) (a b:SAV) (k:KB):Bool:=match wT0 a with
 |true=>(match wT0 b with|true=>k hs true|false=>false)
 |false=>(match oz g H a,oz g H b with
  |.il xs,.il ys=>dec g hs (sc 3 xs ys) k
  |.dead,.dead=>scE g hs a b k
  |J,J2=>false)
noncomputable def zY4 (g:Gx) (H:SH):Fx->List SAV->List SAV->KB->Bool:=@fun ξ ξ2 ξ3 ξ4=>match @ξ,@ξ2,@ξ3,@ξ4 with
 |hs,[],[],k=>k hs true
 |hs,a::x,b::y,k=>yG3 g hs H a b fun hs p=>zY4 g H hs x y fun hs q=>k hs (match p with|true=>q|false=>false)
 |J,J2,J3,J4=>false
noncomputable def wF2:List SAV->Bool:=@fun ξ=>match @ξ with
 |[]=>true
 |.str J::J2=>false
 |J::r=>wF2 r
noncomputable def yX9 (g:Gx) (hs:Fx) (H:SH) (a b:SAV) (k:KB):Bool:=match oz g H a,oz g H b with
 |.vl xs,.vl ys=>match wF2 xs with|true=>zY4 g H hs xs ys k|false=>false
 |.il xs,.il ys=>dec g hs (sc 3 xs ys) k
 |.dead,.dead=>scE g hs a b k
 |J,J2=>false
noncomputable def yD4 (g:Gx) (op:Cop) (a b:SAV) (hs:Fx) (H:SH) (k:KB):Bool:=match op with
 |.eq=>yX9 g hs H a b k
 |.ne=>yX9 g hs H a b fun hs t=>k hs (!t)
 |.lt=>match a,b with|.int i,.int j=>dec g hs (sc 0 i j) k|J,J2=>false
 |.le=>match a,b with|.int i,.int j=>dec g hs (sc 1 i j) k|J,J2=>false
 |.gt=>match a,b with|.int i,.int j=>dec g hs (sc 0 j i) k|J,J2=>false
 |.ge=>match a,b with|.int i,.int j=>dec g hs (sc 1 j i) k|J,J2=>false
 |.is=>(match wT0 b with|true=>k hs (wT0 a)|false=>false)
 |.isnot=>(match wT0 b with|true=>k hs (!wT0 a)|false=>false)
 |.nin=>match a,b with|.str [c],.str s=>k hs (noC c s)|J,J2=>false
 |.cin=>match a with
  |.str s=>match oz g H b with|.sd es=>k hs (match lkD es s with|some J=>true|none=>false)|J=>false
  |J=>false
noncomputable def yJ8:E->Option E:=@fun ξ=>match @ξ with
 |.b .cons x l=>(match isK l with|some J=>some x|none=>none)
 |J=>none
noncomputable def yM8 (g:Gx) (op:Bop) (a b:SAV) (hs:Fx) (H:SH) (k:KV):Bool:=match op with
 |.add=>match a,b with
  |.int i,.int j=>k hs (.int (qF5 i j)) H
  |.str s,.str t=>match Nat.ble (s.length+t.length) 1000 with|true=>k hs (.str (s++t)) H|false=>false
  |a,b=>match oz g H a,oz g H b with
   |.il xs,.il ys=>match qB9 (.b .app xs ys) 10000 with|true=>k hs (nw g H) (H++[.il (qM7 xs ys)])|false=>false
   |J,J2=>false
 |.sub=>match a,b with|.int i,.int j=>k hs (.int (wZ2 i j)) H|J,J2=>false
 |.mod=>match a,b with|.int i,.int j=>nd g hs (sc 0 (.c 0) j) fun hs=>k hs (.int (.b .mod i j)) H|J,J2=>false
 |.mul=>match b with
  |.int n=>match oz g H a with
   |.il l=>match yJ8 l with
    |some x=>nd g hs (sc 1 (.c 0) n) fun hs=>nd g hs (sc 1 n (.c 1000)) fun hs=>k hs (nw g H) (H++[.il (.b .rep n x)])
    |none=>false
   |J=>false
  |J=>false
 |.fdiv=>match a,b with|.int i,.int j=>nd g hs (sc 0 (.c 0) j) fun hs=>nd g hs (sc 1 (.c 0) i) fun hs=>nd g hs (sc 1 i (.c 10000)) fun hs=>nd g hs (sc 1 j (.c 10000)) fun hs=>k hs (.int (.b .fdiv i j)) H|J,J2=>false
noncomputable def yZ6 (g:Gx) (o i:SAV) (hs:Fx) (H:SH) (k:Fx->SAV->Bool):Bool:=match oz g H o,i with
 |.il xs,.int i=>nd g hs (sc 1 (wI2 (qQ8 xs)) i) fun hs=>nd g hs (sc 0 i (qQ8 xs)) fun hs=>k hs (.int (.b .get xs i))
 |.sd es,.str s=>match lkD es s with|some v=>k hs v|none=>false
 |J,J2=>false
noncomputable def zX5:SAV->Option AV:=@fun ξ=>match @ξ with
 |.none=>some .none
 |.int (.c i)=>some (.int i)
 |J=>none
noncomputable def slI (g:Gx) (lo hi:SAV) (xs:E) (hs:Fx) (H:SH) (k:KV):Bool:=match lo,hi with
 |.int i,.int j=>k hs (nw g H) (H++[.il (.t .cut i j xs)])
 |.none,.int j=>k hs (nw g H) (H++[.il (.b .ct0 j xs)])
 |.int i,.none=>k hs (nw g H) (H++[.il (.b .ct1 i xs)])
 |J,J2=>false
noncomputable def xO0 (g:Gx) (o lo hi:SAV) (hs:Fx) (H:SH) (k:KV):Bool:=match o with
 |.str s=>match zX5 lo,zX5 hi with
  |some a,some b=>match xA1 s a b with|some t=>k hs (.str t) H|none=>false
  |J,J2=>false
 |o=>match oz g H o with
  |.il xs=>slI g lo hi xs hs H k
  |.fl xs=>slI g lo hi xs hs H k
  |J=>false
noncomputable def wG9:List SAV->Option (List (List Nat)):=@fun ξ=>match @ξ with
 |[]=>some []
 |.str s::l=>match wG9 l with|some r=>some (s::r)|none=>none
 |J=>none
noncomputable def yE0 (g:Gx) (v:SAV) (hs:Fx) (H:SH) (k:KV):Bool:=match oz g H v with
 |.il xs=>k hs (.int (qQ8 xs)) H
 |.fl xs=>k hs (.int (qQ8 xs)) H
 |.vl xs=>k hs (.int (.c xs.length)) H
 |J=>false
noncomputable def bi1 (g:Gx) (n:Nat) (v:SAV) (hs:Fx) (H:SH) (k:KV):Bool:=match n with
 |0=>(match v with
  |.str s=>(match Nat.ble s.length 1000 with|true=>k hs (.int (.c s.length)) H|false=>false)
  |v=>yE0 g v hs H k)
 |3=>(match oz g H v with
  |.il xs=>k hs (nw g H) (H++[.il xs])
  |.vl xs=>k hs (nw g H) (H++[.vl xs])
  |J=>false)
 |4=>(match oz g H v with
  |.il l=>(match isK l with|some J=>k hs (nw g H) (H++[.il (.c 0)])|none=>false)
  |.sd []=>k hs (nw g H) (H++[.il (.c 0)])
  |.vl xs=>(match wG9 xs with|some ss=>(match Nat.ble ss.length 50 with|true=>k hs (nw g H) (H++[.vl ((qB7 ss).map .str)])|false=>false)|none=>false)
  |J=>false)
 |J=>false
noncomputable def bi2 (g:Gx) (n:Nat) (a b:SAV) (hs:Fx) (H:SH) (k:KV):Bool:=match a,b with
 |.int i,.int j=>(match n with
  |1=>dec g hs (sc 1 i j) fun hs t=>k hs (.int (match t with|true=>i|false=>j)) H
  |2=>dec g hs (sc 1 i j) fun hs t=>k hs (.int (match t with|true=>j|false=>i)) H
  |J=>false)
 |J,J2=>false
noncomputable def biS (g:Gx) (n:Nat) (args:List SAV) (hs:Fx) (H:SH) (k:KV):Bool:=match args with
 |[v]=>bi1 g n v hs H k
 |[a,b]=>bi2 g n a b hs H k
 |J=>false
noncomputable def wL2 (s:List Nat):List (List Nat×SAV)->List (List Nat×SAV):=@fun ξ=>match @ξ with
 |[]=>[]
 |e::r=>match eqL e.1 s with|true=>wL2 s r|false=>e::wL2 s r
noncomputable def zV7:SAV->Option Nat:=@fun ξ=>match @ξ with
 |.str t=>(match t with|[c]=>some c|J=>none)
 |J=>none
noncomputable def yX7:SAV->Option Int:=@fun ξ=>match @ξ with
 |.int e=>isK e
 |J=>none
noncomputable def bmT (a:Nat) (s:List Nat) (args:List SAV) (hs:Fx) (H:SH) (k:KV):Bool:=match args with
 |[v]=>(match Nat.beq a qM2,zV7 v with
  |true,some c=>k hs (.int (.c (wQ7 c s))) H
  |J,J2=>false)
 |[v,w]=>(match Nat.beq a qF4,zV7 v,yX7 w with
  |true,some c,some i=>k hs (.int (.c (xK8 c s i))) H
  |J,J2,J3=>false)
 |J=>false
noncomputable def yW5 (g:Gx) (a:Nat) (o:SAV) (s:List Nat) (hs:Fx) (H:SH) (k:KV):Bool:=match isO o,Nat.beq a qZ9 with
 |true,true=>(match oz g H o with
  |.il l=>(match isK l with|some J=>k hs .none (pt g H o (mkO [.str s]))|none=>false)
  |.vl xs=>(match Nat.ble xs.length 100 with|true=>k hs .none (pt g H o (.vl (xs++[.str s])))|false=>false)
  |J=>false)
 |true,false=>(match Nat.beq a qU1,oz g H o with
  |true,.sd es=>(match lkD es s with|some u=>k hs u (pt g H o (.sd (wL2 s es)))|none=>false)
  |J,J2=>false)
 |false,J=>false
noncomputable def bmO (g:Gx) (a:Nat) (o:SAV) (args:List SAV) (hs:Fx) (H:SH) (k:KV):Bool:=match args with
 |[v]=>(match wL9 v with|some s=>yW5 g a o s hs H k|none=>false)
 |[v,w]=>(match Nat.beq a xI7,wL9 v,wT0 w,oz g H o with
  |true,some s,true,.sd es=>k hs (match lkD es s with|some u=>u|none=>.none) H
  |J,J2,J3,J4=>false)
 |J=>false
noncomputable def bmS (g:Gx) (a:Nat) (o:SAV) (args:List SAV) (hs:Fx) (H:SH) (k:KV):Bool:=match o with
 |.str s=>bmT a s args hs H k
 |o=>bmO g a o args hs H k
noncomputable def kdS (g:Gx) (v:SAV) (H:SH):Nat:=match v with
 |.str J=>3
 |v=>match oz g H v with|.il J=>1|.vl J=>1|.sd J=>2|J=>0
noncomputable def qD0 (lc:qX0):List Nat->qX0:=@fun ξ=>match @ξ with
 |[]=>[]
 |y::r=>match lkF lc y with|some v=>(y,v)::qD0 lc r|none=>qD0 lc r
noncomputable abbrev Nx:=Nat->Fx->SH->(Fx->Option SAV->Bool)->Bool
noncomputable def nxR (g:Gx) (m:E):Nx:=fun i hs J k=>dec g hs (sc 0 (.c i) m) fun hs t=>k hs (match t with|true=>some (.int (.c i))|false=>none)
noncomputable def zQ4:List SAV->Nat->Option SAV:=@fun ξ ξ2=>match @ξ,@ξ2 with
 |[],J=>none
 |x::J,0=>some x
 |J::r,i+1=>zQ4 r i
noncomputable def nxT (g:Gx) (v:SAV):Nx:=fun i hs H k=>match oz g H v with|.tp xs=>k hs (zQ4 xs i)|J=>false
noncomputable def yX1:List (List Nat×SAV)->Nat->Option (List Nat×SAV):=@fun ξ ξ2=>match @ξ,@ξ2 with
 |[],J=>none
 |x::J,0=>some x
 |J::r,i+1=>yX1 r i
noncomputable def nxD (es:List (List Nat×SAV)):Nx:=fun i hs J k=>k hs (match yX1 es i with|some e=>some (.str e.1)|none=>none)
noncomputable def lpC (nx:Nx) (tst:qX0->Fx->SH->KBH->Bool) (elt:qX0->Fx->SH->KV->Bool) (x:Nat) (lc:qX0):Nat->Nat->List SAV->Fx->SH->KVs->Bool:=@fun ξ=>no_implicit_lambda%(match @ξ with
 |0=>@fun J J2 J3 J4 J5=>false
 |n+1=>@fun i acc hs H k=>nx i hs H fun hs o=>match o with
  |some v=>tst (stF lc x v) hs H fun hs t H=>match t with
   |true=>elt (stF lc x v) hs H fun hs r H=>lpC nx tst elt x lc n (i+1) (acc++[r]) hs H k
   |false=>lpC nx tst elt x lc n (i+1) acc hs H k
  |none=>k hs acc H
 )
noncomputable def zI0 (x:Nat) (ifs:Xs) (elt:X):Bool:=match ifs,elt with
 |.nil,.bi 5 (.cons (.loc y) .nil)=>Nat.beq y x
 |J,J2=>false
mutual
noncomputable def sev (g:Gx) (cl:Cl):X->qX0->Fx->SH->KV->Bool:=@fun ξ=>no_implicit_lambda%(match @ξ with
 |.bad=>@fun J J2 J3 J4=>false
 |.none=>@fun J hs H k=>k hs .none H
 |.bool b=>@fun J hs H k=>k hs (.bool b) H
 |.int i=>@fun J hs H k=>k hs (.int (.c i)) H
 |.str s=>@fun J hs H k=>k hs (.str s) H
 |.loc x=>@fun lc hs H k=>match lkF lc x with|some v=>k hs v H|none=>false
 |.glob n=>@fun J hs H k=>match qW8 gcT n with|some i=>k hs (.int (.c i)) H|.none=>false
 |.attr o a=>@fun lc hs H k=>sev g cl o lc hs H fun hs v H=>match oz g H v with
  |.inst c fs=>match qJ3 (okA c) a with
   |true=>match lkF fs a with|some u=>k hs u H|none=>false
   |false=>false
  |J=>false
 |.bin op a b=>@fun lc hs H k=>sev g cl a lc hs H fun hs va H=>sev g cl b lc hs H fun hs vb H=>yM8 g op va vb hs H k
 |.neg a=>@fun lc hs H k=>sev g cl a lc hs H fun hs v H=>match v with|.int i=>k hs (.int (wI2 i)) H|J=>false
 |.not a=>@fun lc hs H k=>sev g cl a lc hs H fun hs v H=>tru g hs v fun hs b=>k hs (.bool (!b)) H
 |.and xs=>@fun lc hs H k=>zG7 g cl true xs lc hs H k
 |.or xs=>@fun lc hs H k=>zG7 g cl false xs lc hs H k
 |.cmp op a b=>@fun lc hs H k=>sev g cl a lc hs H fun hs va H=>sev g cl b lc hs H fun hs vb H=>yD4 g op va vb hs H fun hs t=>k hs (.bool t) H
 |.ite c a b=>@fun lc hs H k=>scd g cl c lc hs H fun hs t H=>match t with|true=>sev g cl a lc hs H k|false=>sev g cl b lc hs H k
 |.call n args=>@fun lc hs H k=>match qW8 gfT n with
  |some f=>qG1 g cl args lc hs H fun hs vs H=>cl f vs hs H k fun J J=>false
  |.none=>false
 |.mk n args=>@fun lc hs H k=>match qW8 clT n with
  |some (c,f)=>qG1 g cl args lc hs H fun hs vs H=>cl f (nw g H::vs) hs (H++[.inst c []]) (fun hs v H'=>match v with|.none=>k hs (nw g H) H'|J=>false) fun J J=>false
  |.none=>false
 |.bi n args=>@fun lc hs H k=>qG1 g cl args lc hs H fun hs vs H=>biS g n vs hs H k
 |.meth o a args=>@fun lc hs H k=>sev g cl o lc hs H fun hs v H=>match isO v,oz g H v with
  |true,.inst c fs=>match mt c a,lkF fs a with
   |some f,none=>qG1 g cl args lc hs H fun hs vs H=>cl f (v::vs) hs H k fun J J=>false
   |J,J2=>false
  |true,.gp J=>match mt 3 a with
   |some f=>qG1 g cl args lc hs H fun hs vs H=>cl f (v::vs) hs H k fun J J=>false
   |J=>false
  |J,J2=>match qS4 (kdS g v H) a with
   |true=>qG1 g cl args lc hs H fun hs vs H'=>match Nat.beq (kdS g v H) (kdS g v H') with|true=>bmS g a v vs hs H' k|false=>false
   |false=>false
 |.sub o i=>@fun lc hs H k=>sev g cl o lc hs H fun hs v H=>sev g cl i lc hs H fun hs u H=>yZ6 g v u hs H fun hs r=>k hs r H
 |.slice o lo hi=>@fun lc hs H k=>sev g cl o lc hs H fun hs v H=>sev g cl lo lc hs H fun hs a H=>sev g cl hi lc hs H fun hs b H=>xO0 g v a b hs H k
 |.list args=>@fun lc hs H k=>qG1 g cl args lc hs H fun hs vs H=>k hs (nw g H) (H++[mkO vs])
 |.tup args=>@fun lc hs H k=>qG1 g cl args lc hs H fun hs vs H=>k hs (nw g H) (H++[.tp vs])
 |.dict ks args=>@fun lc hs H k=>match qN3 ks with
  |true=>qG1 g cl args lc hs (H++[.sd []]) fun hs vs H'=>match oz g H' (nw g H),Nat.beq vs.length ks.length with
   |.sd [],true=>k hs (nw g H) (pt g H' (nw g H) (.sd (yZ4 ks vs)))
   |J,J2=>false
  |false=>false
 |.comp rng x fv src ifs elt=>@fun lc hs H k=>sev g cl src lc hs H fun hs v H=>match rng,v with
  |true,.int m=>nd g hs (sc 1 (.c 0) m) fun hs=>nd g hs (sc 1 m (.c 1000)) fun hs=>lpC (nxR g m) (fun lc hs H k=>wL6 g cl true ifs lc hs H k) (fun lc hs H k=>sev g cl elt lc hs H k) x (qD0 lc fv) 64 0 [] hs H fun hs vs H=>k hs (nw g H) (H++[mkO vs])
  |false,v=>match oz g H v with
   |.sd es=>lpC (nxD es) (fun lc hs H k=>wL6 g cl true ifs lc hs H k) (fun lc hs H k=>sev g cl elt lc hs H k) x (qD0 lc fv) 64 0 [] hs (pt g H v (.fd es)) fun hs vs H=>match oz g H v with
    |.fd J=>k hs (nw g (pt g H v (.sd es))) (pt g H v (.sd es)++[mkO vs])
    |J=>false
   |.il xs=>match zI0 x ifs elt,qB9 xs 60 with
    |true,true=>k hs (nw g H) (H++[.il (.u .abs xs)])
    |J,J2=>false
   |.tp J=>lpC (nxT g v) (fun lc hs H k=>wL6 g cl true ifs lc hs H k) (fun lc hs H k=>sev g cl elt lc hs H k) x (qD0 lc fv) 64 0 [] hs H fun hs vs H=>k hs (nw g H) (H++[mkO vs])
   |J=>false
  |J,J2=>false
 )
noncomputable def qG1 (g:Gx) (cl:Cl):Xs->qX0->Fx->SH->KVs->Bool:=@fun ξ=>no_implicit_lambda%(match @ξ with
 |.nil=>@fun J hs H k=>k hs [] H
 |.cons x xs=>@fun lc hs H k=>sev g cl x lc hs H fun hs v H=>qG1 g cl xs lc hs H fun hs vs H=>k hs (v::vs) H
 )
noncomputable def zG7 (g:Gx) (cl:Cl) (w:Bool):Xs->qX0->Fx->SH->KV->Bool:=@fun ξ=>no_implicit_lambda%(match @ξ with
 |.nil=>@fun J J2 J3 J4=>false
 |.cons x .nil=>@fun lc hs H k=>sev g cl x lc hs H k
 |.cons x (.cons y ys)=>@fun lc hs H k=>sev g cl x lc hs H fun hs v H=>tru g hs v fun hs t=>match w,t with
  |true,true=>zG7 g cl w (.cons y ys) lc hs H k
  |false,false=>zG7 g cl w (.cons y ys) lc hs H k
  |J,t=>k hs (.bool t) H
 )
noncomputable def scd (g:Gx) (cl:Cl):X->qX0->Fx->SH->KBH->Bool:=@fun ξ=>no_implicit_lambda%(match @ξ with
 |.not a=>@fun lc hs H k=>scd g cl a lc hs H fun hs b H=>k hs (!b) H
 |.and xs=>@fun lc hs H k=>wL6 g cl true xs lc hs H k
 |.or xs=>@fun lc hs H k=>wL6 g cl false xs lc hs H k
 |.cmp op a b=>@fun lc hs H k=>sev g cl a lc hs H fun hs va H=>sev g cl b lc hs H fun hs vb H=>yD4 g op va vb hs H fun hs t=>k hs t H
 |.bool b=>@fun J hs H k=>k hs b H
 |.loc x=>@fun lc hs H k=>match lkF lc x with|some v=>tru g hs v fun hs b=>k hs b H|none=>false
 |.attr o a=>@fun lc hs H k=>sev g cl o lc hs H fun hs v H=>match oz g H v with
  |.inst c fs=>match qJ3 (okA c) a with
   |true=>match lkF fs a with|some u=>tru g hs u fun hs b=>k hs b H|none=>false
   |false=>false
  |J=>false
 |.call n args=>@fun lc hs H k=>match qW8 gfT n with
  |some f=>qG1 g cl args lc hs H fun hs vs H=>cl f vs hs H (fun hs v H=>tru g hs v fun hs b=>k hs b H) fun J J=>false
  |.none=>false
 |.meth o a args=>@fun lc hs H k=>sev g cl o lc hs H fun hs v H=>match isO v,oz g H v with
  |true,.inst c fs=>match mt c a,lkF fs a with
   |some f,none=>qG1 g cl args lc hs H fun hs vs H=>cl f (v::vs) hs H (fun hs v H=>tru g hs v fun hs b=>k hs b H) fun J J=>false
   |J,J2=>false
  |J,J2=>false
 |.sub o i=>@fun lc hs H k=>sev g cl o lc hs H fun hs v H=>sev g cl i lc hs H fun hs u H=>yZ6 g v u hs H fun hs r=>tru g hs r fun hs b=>k hs b H
 |J=>@fun J2 J3 J4 J5=>false
 )
noncomputable def wL6 (g:Gx) (cl:Cl) (w:Bool):Xs->qX0->Fx->SH->KBH->Bool:=@fun ξ=>no_implicit_lambda%(match @ξ with
 |.nil=>@fun J hs H k=>k hs w H
 |.cons x xs=>@fun lc hs H k=>scd g cl x lc hs H fun hs t H=>match w,t with
  |true,true=>wL6 g cl w xs lc hs H k
  |false,false=>wL6 g cl w xs lc hs H k
  |true,false=>k hs false H
  |false,true=>k hs true H
 )
end
noncomputable def as1 (g:Gx) (cl:Cl) (t:T1) (v:SAV) (lc:qX0) (hs:Fx) (H:SH) (k:KLH):Bool:=match t with
 |.loc x=>k hs (stF lc x v) H
 |.attr o a=>sev g cl o lc hs H fun hs u H=>match isO u,oz g H u with
  |true,.inst c fs=>match qJ3 (okA c) a,Nat.ble fs.length 40 with
   |true,true=>k hs lc (pt g H u (.inst c (stF fs a v)))
   |J,J2=>false
  |J,J2=>false
 |.sub o i=>sev g cl o lc hs H fun hs u H=>sev g cl i lc hs H fun hs j H=>match isO u,oz g H u,j with
  |true,.sd es,.str s=>match Nat.blt es.length 50 with|true=>k hs lc (pt g H u (.sd (stD es s v)))|false=>false
  |J,J2,J3=>false
noncomputable def as2 (g:Gx) (cl:Cl):List T1->List SAV->qX0->Fx->SH->KLH->Bool:=@fun ξ ξ2=>no_implicit_lambda%(match @ξ,@ξ2 with
 |[],[]=>@fun lc hs H k=>k hs lc H
 |t::ts,v::vs=>@fun lc hs H k=>as1 g cl t v lc hs H fun hs lc H=>as2 g cl ts vs lc hs H k
 |J,J2=>@fun J3 J4 J5 J6=>false
 )
noncomputable def as3 (g:Gx) (cl:Cl) (t:T) (v:SAV) (lc:qX0) (hs:Fx) (H:SH) (k:KLH):Bool:=match t with
 |.one t=>as1 g cl t v lc hs H k
 |.slice J J2 J3=>false
 |.tup ts=>match oz g H v with
  |.tp vs=>match Nat.beq ts.length vs.length with|true=>as2 g cl ts vs lc hs H k|false=>false
  |J=>false
noncomputable def lpL (g:Gx) (body:qX0->Fx->SH->KLH->Bool) (x:Nat) (v:SAV):Nat->Nat->qX0->Fx->SH->KLH->Bool:=@fun ξ=>no_implicit_lambda%(match @ξ with
 |0=>@fun J J2 J3 J4 J5=>false
 |n+1=>@fun i lc hs H k=>match oz g H v with
  |.il l=>(match isK l with|some J=>k hs lc H|none=>false)
  |.vl xs=>match zQ4 xs i with
   |some u=>body (stF lc x u) hs H fun hs lc H=>lpL g body x v n (i+1) lc hs H k
   |none=>k hs lc H
  |J=>false
 )
noncomputable def lpD (body:qX0->Fx->SH->KLH->Bool) (x:Nat):List (List Nat×SAV)->qX0->Fx->SH->KLH->Bool:=@fun ξ=>no_implicit_lambda%(match @ξ with
 |[]=>@fun lc hs H k=>k hs lc H
 |e::r=>@fun lc hs H k=>body (stF lc x (.str e.1)) hs H fun hs lc H=>lpD body x r lc hs H k
 )
noncomputable def lpR (g:Gx) (body:qX0->Fx->SH->KLH->Bool) (x:Nat) (m:E):Nat->Nat->qX0->Fx->SH->KLH->Bool:=@fun ξ=>no_implicit_lambda%(match @ξ with
 |0=>@fun J J2 J3 J4 J5=>false
 |n+1=>@fun i lc hs H k=>dec g hs (sc 0 (.c i) m) fun hs t=>match t with
  |true=>body (stF lc x (.int (.c i))) hs H fun hs lc H=>lpR g body x m n (i+1) lc hs H k
  |false=>k hs lc H
 )
noncomputable def lpW (cond:qX0->Fx->SH->KBH->Bool) (body:qX0->Fx->SH->KLH->Bool):Nat->qX0->Fx->SH->KLH->Bool:=@fun ξ=>no_implicit_lambda%(match @ξ with
 |0=>@fun J J2 J3 J4=>false
 |n+1=>@fun lc hs H k=>cond lc hs H fun hs t H=>match t with
  |true=>body lc hs H fun hs lc H=>lpW cond body n lc hs H k
  |false=>k hs lc H
 )
noncomputable def yZ9:Cop->Cop->Bool:=@fun ξ ξ2=>match @ξ,@ξ2 with
 |.lt,.lt=>true
 |.eq,.eq=>true
 |J,J2=>false
noncomputable def yZ2:Bop->Bop->Bool:=@fun ξ ξ2=>match @ξ,@ξ2 with
 |.add,.add=>true
 |.sub,.sub=>true
 |J,J2=>false
mutual
noncomputable def eqX:X->X->Bool:=@fun ξ ξ2=>match @ξ,@ξ2 with
 |.int i,b=>(match b with|.int j=>decide (i=j)|J=>false)
 |.loc x,b=>(match b with|.loc y=>Nat.beq x y|J=>false)
 |.and a,b=>(match b with|.and c=>zJ3 a c|J=>false)
 |.cmp o a b,c=>(match c with|.cmp p x y=>(match yZ9 o p,eqX a x with|true,true=>eqX b y|J,J2=>false)|J=>false)
 |.bi n a,b=>(match b with|.bi m c=>(match Nat.beq n m with|true=>zJ3 a c|false=>false)|J=>false)
 |.sub a b,c=>(match c with|.sub x y=>(match eqX a x with|true=>eqX b y|false=>false)|J=>false)
 |.bin o a b,c=>(match c with|.bin p x y=>(match yZ2 o p,eqX a x with|true,true=>eqX b y|J,J2=>false)|J=>false)
 |J,J2=>false
noncomputable def zJ3:Xs->Xs->Bool:=@fun ξ ξ2=>match @ξ,@ξ2 with
 |.nil,b=>(match b with|.nil=>true|J=>false)
 |.cons a b,c=>(match c with|.cons x y=>(match eqX a x with|true=>zJ3 b y|false=>false)|J=>false)
end
noncomputable def upB (x:Nat) (b:Ys):Bool:=match b with
 |.cons (.asgn (.one (.loc y)) e) .nil=>match Nat.beq y x with|true=>eqX e (.bin .add (.loc x) (.int 1))|false=>false
 |J=>false
noncomputable def xH1 (lc:qX0) (x:Nat):Bool:=match lkF lc x with|some (.int (.c i))=>decide (i=0)|J=>false
noncomputable def xO3 (g:Gx) (lc:qX0) (H:SH) (x:Nat):Option E:=match lkF lc x with|some v=>(match oz g H v with|.il l=>some l|J=>none)|none=>none
mutual
noncomputable def sex (g:Gx) (cl:Cl) (ke:KH) (kr:KV):Y->qX0->Fx->SH->KLH->Bool:=@fun ξ=>no_implicit_lambda%(match @ξ with
 |.expr e=>@fun lc hs H k=>sev g cl e lc hs H fun hs J H=>k hs lc H
 |.asgn t e=>@fun lc hs H k=>sev g cl e lc hs H fun hs v H=>as3 g cl t v lc hs H k
 |.asgc x e=>@fun lc hs H k=>sev g cl e lc hs H fun hs v H=>k hs (stF lc x v) H
 |.ret e=>@fun lc hs H J=>sev g cl e lc hs H kr
 |.ret0=>@fun J hs H J2=>kr hs .none H
 |.ife c a b=>@fun lc hs H k=>scd g cl c lc hs H fun hs t H=>match t with|true=>qO3 g cl ke kr a lc hs H k|false=>qO3 g cl ke kr b lc hs H k
 |.forl n x e body=>@fun lc hs H k=>sev g cl e lc hs H fun hs v H=>match isO v,oz g H v with
  |true,.sd es=>lpD (fun lc hs H k=>qO3 g cl (fun J J=>false) (fun J J J=>false) body lc hs H k) x es lc hs (pt g H v (.fd es)) fun hs lc H=>match oz g H v with|.fd J=>k hs lc (pt g H v (.sd es))|J=>false
  |true,J=>lpL g (fun lc hs H k=>qO3 g cl (fun J J=>false) kr body lc hs H k) x v n 0 lc hs H k
  |false,J=>false
 |.forr n x e body=>@fun lc hs H k=>sev g cl e lc hs H fun hs v H=>match v with
  |.int m=>nd g hs (sc 1 (.c 0) m) fun hs=>nd g hs (sc 1 m (.c 1000)) fun hs=>lpR g (fun lc hs H k=>qO3 g cl (fun J J=>false) kr body lc hs H k) x m n 0 lc hs H k
  |J=>false
 |.whl n c body=>@fun lc hs H k=>lpW (fun lc hs H k=>scd g cl c lc hs H k) (fun lc hs H k=>qO3 g cl (fun J J=>false) kr body lc hs H k) n lc hs H k
 |.whs c body=>@fun lc hs H k=>match xO3 g lc H 167,xO3 g lc H 58 with
  |some x,some y=>match eqX c wc1,upB 94 body,xH1 lc 94 with
   |true,true,true=>k hs (stF lc 94 (.int (.b .lcp x y))) H
   |J,J2,J3=>match eqX c wc2,upB 218 body,xH1 lc 218 with
    |true,true,true=>match lkF lc 150 with
     |some (.int m)=>match ask g hs (sc 1 (qQ8 x) (qQ8 y)) with
      |some t=>match eqE m (wZ2 (match t with|true=>qQ8 x|false=>qQ8 y) (.b .lcp x y)) with
       |true=>k hs (stF lc 218 (.int (.b .lcs x y))) H
       |false=>false
      |none=>false
     |J=>false
    |J,J2,J3=>false
  |J,J2=>false
 |.raise J args=>@fun lc hs H J2=>qG1 g cl args lc hs H fun hs J H=>ke hs H
 |.no=>@fun J J2 J3 J4=>false
 )
noncomputable def qO3 (g:Gx) (cl:Cl) (ke:KH) (kr:KV):Ys->qX0->Fx->SH->KLH->Bool:=@fun ξ=>no_implicit_lambda%(match @ξ with
 |.nil=>@fun lc hs H k=>k hs lc H
 |.cons s ss=>@fun lc hs H k=>sex g cl ke kr s lc hs H fun hs lc H=>qO3 g cl ke kr ss lc hs H k
 )
end
noncomputable def sF (g:Gx) (cl:Cl) (ps:List Nat) (body:Ys) (args:List SAV) (hs:Fx) (H:SH) (k:KV) (ke:KH):Bool:=
 match Nat.beq ps.length args.length with
 |true=>qO3 g cl ke k body (yZ7 ps args) hs H fun hs J H=>k hs .none H
 |false=>false
noncomputable def yW6 (g:Gx) (f:Nat) (o:SAV) (xs:E) (args:List SAV) (hs:Fx) (H:SH) (k:KV):Bool:=match Nat.beq f 411 with
 |true=>match args with|[J]=>k hs (.int (qQ8 xs)) H|J=>false
 |false=>match Nat.beq f 425 with
  |true=>match args with|[J,.int a,.int b]=>nd g hs (sc 1 (.c 0) a) fun hs=>nd g hs (sc 1 a b) fun hs=>nd g hs (sc 1 b (qQ8 xs)) fun hs=>k hs (nw g H) (H++[.il (xV6 a (xV4 b xs))])|J=>false
  |false=>match Nat.beq f 446 with
   |true=>match args with
    |[J,.int a,l]=>match oz g H l with
     |.il ys=>match qB9 (.b .app xs ys) 1000,qB9 ys 900 with
      |true,true=>nd g hs (sc 1 (.c 0) a) fun hs=>nd g hs (sc 1 a (qQ8 xs)) fun hs=>k hs .none (pt g H o (.gp (qM7 (qM7 (xV4 a xs) ys) (xV6 a xs))))
      |J,J2=>false
     |J=>false
    |J=>false
   |false=>match Nat.beq f 453 with
    |true=>match args with|[J,.int a,.int b]=>nd g hs (sc 1 (.c 0) a) fun hs=>nd g hs (sc 1 a b) fun hs=>nd g hs (sc 1 b (qQ8 xs)) fun hs=>k hs (nw g H) (pt g H o (.gp (qM7 (xV4 a xs) (xV6 b xs)))++[.il (xV6 a (xV4 b xs))])|J=>false
    |false=>false
noncomputable def zD4 (g:Gx) (args:List SAV) (hs:Fx) (H:SH) (k:KV):Bool:=match args with
 |[o,l,.int (.c i)]=>match isO o,oz g H o,oz g H l with
  |true,.inst c [],.il l=>match Nat.beq c 3,decide (i=8),isK l with
   |true,true,some J=>k hs .none (pt g H o (.gp (.c 0)))
   |J,J2,J3=>false
  |J,J2,J3=>false
 |J=>false
noncomputable def zP7 (g:Gx) (args:List SAV) (hs:Fx) (H:SH) (k:KV):Bool:=match args with
 |[o,.int m]=>match isO o,oz g H o with
  |true,.il l=>nd g hs (sc 0 (.c 0) m) fun hs=>k hs (.int (.b .mod (.u .hd l) m)) (pt g (H++[.il (.c 0)]) o (.il (.u .tl l)))
  |J,J2=>false
 |J=>false
noncomputable def yI1 (g:Gx) (args:List SAV) (hs:Fx) (H:SH) (k:KV):Bool:=match args with
 |[a,b,.int p]=>match oz g H a,oz g H b with
  |.il x,.il y=>k hs (.int (.t .rev x y p)) (H++[.tp [.int (.c 0),.int (.c 0)]])
  |J,J2=>false
 |J=>false
noncomputable def sS (g:Gx) (cl:Cl):Cl:=fun f args hs H k ke=>match Nat.beq f 946,Nat.beq f 972 with
 |true,J=>zP7 g args hs H k
 |J,true=>yI1 g args hs H k
 |J,J2=>match qW8 fnT f with
  |some (ps,b)=>sF g cl ps b args hs H k ke
  |none=>match qW8 fnC f with
   |some (ps,b)=>sF g cl ps b args hs H k fun J J=>false
   |none=>match Nat.beq f 112 with
    |true=>match args with|[a,b,c]=>sF g cl [52,175,58,49] yA3 [a,b,c,.bool false] hs H k fun J J=>false|J=>false
    |false=>match Nat.beq f 601 with
     |true=>match args with|[a,b,c]=>sF g cl [199,163,153,193] yD3 [a,b,c,.int (.c 8)] hs H k fun J J=>false|J=>false
     |false=>match Nat.beq f 404 with
      |true=>zD4 g args hs H k
      |false=>match Nat.beq f 958 with
       |true=>sF g cl [234,52,142,107] yQ8 args hs H k fun hs H=>k hs .none H
       |false=>match Nat.beq f 965 with
        |true=>sF g cl [234,52] zI3 args hs H (fun hs J H=>k hs (.bool true) H) fun hs H=>k hs (.bool false) H
        |false=>match args with
         |o::J=>match isO o,oz g H o with|true,.gp xs=>yW6 g f o xs args hs H k|J,J2=>false
         |[]=>false
noncomputable def sN (g:Gx):Nat->Cl:=@fun ξ=>match @ξ with
 |0=>fun J J J J J J=>false
 |k+1=>sS g (sN g k)
end Mine
end
section
namespace Mine
noncomputable def HV (ρ:Rho) (hs:Fx):Prop:=∀ p∈hs,dC ρ p.1=p.2
structure Gd (ρ:Rho) (g:Gx):Prop where
 n0:ρ.pre.length=g.n0
 ru:∀ B∈g.R,∀ r∈B,HV ρ r.pre->dC ρ r.c=r.r
 bd:∀ n,(ρ.l n).length<=100
 pl:∀ n,qJ3 g.pool n=true->qQ0 ρ.pre (ρ.h n)=.il (ρ.l (2+n))
section
variable {P:Prop}
theorem soE {o:Option E} {f:E->Bool} (h:(match o with|some v=>f v|none=>false)=true) (q:∀ v,o=some v->f v=true->P):P:=match o,h,q with|none,h,J=>nf h|some v,h,q=>q v rfl h
theorem soS {o:Option (List Nat)} {f:List Nat->Bool} (h:(match o with|some v=>f v|none=>false)=true) (q:∀ v,o=some v->f v=true->P):P:=match o,h,q with|none,h,J=>nf h|some v,h,q=>q v rfl h
theorem boT {b:Bool} {f:Bool} (h:(match b with|true=>f|false=>false)=true) (q:b=true->f=true->P):P:=match b,h,q with|false,h,J=>nf h|true,h,q=>q rfl h
theorem boF {b:Bool} {f f':Bool} (h:(match b with|true=>f|false=>f')=true) (q:b=true->f=true->P) (q':f'=true->P):P:=match b,h,q with|false,h,J=>q' h|true,h,q=>q rfl h
theorem obB {b r:Bool} {o o':Option Bool} (h:(match b with|true=>o|false=>o')=some r) (q:b=true->o=some r->P) (q':o'=some r->P):P:=match b,h,q with|false,h,J=>q' h|true,h,q=>q rfl h
theorem osB {o:Option Bool} {f:Bool->Bool} (h:(match o with|some v=>f v|none=>false)=true) (q:∀ v,o=some v->f v=true->P):P:=match o,h,q with|none,h,J=>nf h|some v,h,q=>q v rfl h
end
theorem qP7 {a b:Nat} (h:Nat.beq a b=true):a=b:=Nat.eq_of_beq_eq_true h
theorem zO0 {a b:U1} (h:Nat.beq (uN a) (uN b)=true):a=b:=by cases a<;>cases b<;>first|rfl|exact nf h
theorem xN1 {a b:B2} (h:Nat.beq (bN a) (bN b)=true):a=b:=by
 have e:∀ a:B2,(match bN a with|0=>B2.add|1=>.sub|2=>.mod|3=>.fdiv|6=>.get|7=>.lcp|8=>.lcs|10=>.cons|11=>.app|12=>.tk|13=>.dr|14=>.ct0|15=>.ct1|_=>.rep)=a:=fun a=>by cases a<;>rfl
 rw[<-e a,<-e b,qP7 h]
theorem zT5 {a b:T3} (h:Nat.beq (tN a) (tN b)=true):a=b:=by cases a<;>cases b<;>first|rfl|exact nf h
set_option tactic.hygienic true in
theorem qZ2:∀{a b:E},eqE a b=true->a=b:=@fun ξ=>no_implicit_lambda%(match @ξ with
 |.v a=>@fun b h=>by cases b<;>first|(first|exact nf h|(injection h;done))|rw[qP7 h]
 |.c i=>@fun b h=>by cases b<;>first|(first|exact nf h|(injection h;done))|rw[of_decide_eq_true (show decide (i=_)=true from h)]
 |.u o a=>@fun b h=>by
  cases b<;>first|exact nf h|(injection h;done)|skip
  rename_i p b
  exact boT h fun e h=>by rw[zO0 e,qZ2 h]
 |.b o x y=>@fun b h=>by
  cases b<;>first|exact nf h|(injection h;done)|skip
  rename_i p x' y'
  exact boT h fun e h=>boT h fun e1 h=>by rw[xN1 e,qZ2 e1,qZ2 h]
 |.t o x y z=>@fun b h=>by
  cases b<;>first|exact nf h|(injection h;done)|skip
  rename_i p x' y' z'
  exact boT h fun e h=>boT h fun e1 h=>boT h fun e2 h=>by rw[zT5 e,qZ2 e1,qZ2 e2,qZ2 h]
 )
theorem wU9 {ρ:Rho} {a b:SC} (h:eqC a b=true):dC ρ a=dC ρ b:=by
 obtain ⟨o,x,y,k⟩:=a
 obtain ⟨o',x',y',k'⟩:=b
 exact boT h fun J h=>boT h fun e h=>boT h fun e1 h=>by
  obtain rfl:o=o':=qP7 e
  obtain rfl:x=x':=qZ2 e1
  obtain rfl:y=y':=qZ2 h
  rfl
theorem wV3 {ρ:Rho}:∀{hs:Fx} {c:SC} {b:Bool},HV ρ hs->zE7 hs c=some b->dC ρ c=b:=@fun ξ=>no_implicit_lambda%(match @ξ with
 |[]=>@fun J J2 J3 h=>by injection h
 |p::r=>@fun c b hv h=>obB h (fun e h=>by
  obtain rfl:=Option.some.inj h
  rw[<-wU9 e]
  exact hv p (.head _)) fun h=>wV3 (fun q hq=>hv q (.tail _ hq)) h
 )
theorem qM4:∀{a b:Bool},xP0 a b=true->a=b:=@fun ξ ξ2 ξ3=>match @ξ,@ξ2,@ξ3 with
 |true,true,J=>rfl
 |false,false,J=>rfl
 |true,false,h=>by exact nf h
 |false,true,h=>by exact nf h
theorem qP0 {ρ:Rho} {hs:Fx} (hv:HV ρ hs):∀{pre:Fx},wG5 hs pre=true->HV ρ pre:=@fun ξ ξ2=>match @ξ,@ξ2 with
 |[],J=>fun p hp=>nomatch hp
 |p::r,h=>osB h fun b e h=>boT h fun e2 h q hq=>by
  rcases List.mem_cons.mp hq with rfl|hq
  ·rw[wV3 hv e,qM4 e2]
  ·exact qP0 hv h q hq
theorem xO8 {ρ:Rho} {hs:Fx} {c:SC} (hv:HV ρ hs):∀{R:List Rl} {b:Bool},(∀ r∈R,HV ρ r.pre->dC ρ r.c=r.r)->lkR hs c R=some b->dC ρ c=b:=@fun ξ=>no_implicit_lambda%(match @ξ with
 |[]=>@fun J J2 h=>by injection h
 |r::R=>@fun b hR h=>by
  have rest:lkR hs c R=some b->dC ρ c=b:=xO8 hv fun q hq=>hR q (.tail _ hq)
  exact obB h (fun e h=>obB h (fun e2 h=>by
   obtain rfl:=Option.some.inj h
   rw[<-wU9 e]
   exact hR r (.head _) (qP0 hv e2)) rest) rest
 )
theorem wY8:∀{R:List (List Rl)} {n:Nat},zL5 R n=[]∨zL5 R n∈R:=@fun ξ ξ2=>match @ξ,@ξ2 with
 |[],J=>.inl rfl
 |J::J2,0=>.inr (.head _)
 |J::r,n+1=>(wY8 (R:=r) (n:=n)).elim .inl fun h=>.inr (.tail _ h)
theorem wZ5 {f:Int->Int->Bool} {a b:Option Int} (h:wL7 f a b=true):∃ i j,a=some i/\b=some j/\f i j=true:=by
 cases a with
 |none=>exact nf h
 |some i=>cases b with
  |none=>exact nf h
  |some j=>exact ⟨i,j,rfl,rfl,h⟩
theorem zM1 {a m:Int} (h:0<m):0<=a % m/\a % m<m:=⟨Int.emod_nonneg _ (by omega),Int.emod_lt_of_pos _ h⟩
theorem qP5 (n:Nat) (l:List Int):(l.take n).length<=l.length:=by rw[List.length_take];exact Nat.min_le_right _ _
theorem qT6 (n:Nat) (l:List Int):(l.drop n).length<=l.length:=by rw[List.length_drop];exact Nat.sub_le _ _
theorem xL3 (x y:E):ub (.b .ct0 x y)=yX6 x (ub y):=rfl
set_option tactic.hygienic true in
mutual
theorem qF6 {ρ:Rho} (hb:∀ n,(ρ.l n).length<=100):∀(x:E) {n:Nat},ub x=some n->(dL ρ x).length<=n:=@fun ξ ξ2 ξ3=>match @ξ,@ξ2,@ξ3 with
 |.v k,n,h=>by obtain rfl:=Option.some.inj h;exact hb k
 |.c J,n,h=>by obtain rfl:=Option.some.inj h;exact Nat.le_refl _
 |.u .tl a,n,h=>by
  have:=qF6 hb a (show ub a=some n from h)
  show (dL ρ a).tail.length<=n
  rw[List.length_tail];exact Nat.not_lt.mp fun gz=>lin [_,_,_] [] [(1,.nl (.v 0) (.v 1)),(1,.nl (.v 2) (.v 0)),(1,.nl (.a (.v 1) (.c 1)) (.v 2))] rfl this (Nat.sub_le ((dL ρ a).length) (1)) gz
 |.u .abs a,n,h=>by
  have:=qF6 hb a (show ub a=some n from h)
  show (List.map _ (dL ρ a)).length<=n
  rw[List.length_map];exact this
 |.u .len J,J2,h|.u .hd J,J2,h|.u .neg J,J2,h=>by injection h
 |.b .cons x y,n,h=>by
  cases e:ub y with
  |none=>rw[show ub (.b .cons x y)=(match ub y with|some n=>some (n+1)|none=>none) from rfl,e]at h;injection h
  |some m=>
   rw[show ub (.b .cons x y)=(match ub y with|some n=>some (n+1)|none=>none) from rfl,e]at h
   obtain rfl:=Option.some.inj h
   exact Nat.succ_le_succ (qF6 hb y e)
 |.b .app x y,n,h=>by
  rw[show ub (.b .app x y)=(match ub x,ub y with|some n,some m=>some (n+m)|J,J2=>none) from rfl]at h
  cases e:ub x<;>cases e1:ub y<;>rw[e,e1]at h<;>(first|obtain rfl:=Option.some.inj h|(injection h;done))
  show (dL ρ x++dL ρ y).length<=_
  rw[List.length_append]
  exact Nat.add_le_add (qF6 hb x e) (qF6 hb y e1)
 |.b .tk x y,n,h=>Nat.le_trans (qP5 _ _) (qF6 hb y (show ub y=some n from h))
 |.b .dr x y,n,h=>Nat.le_trans (qT6 _ _) (qF6 hb y (show ub y=some n from h))
 |.b .ct1 x y,n,h=>Nat.le_trans (qP5 _ _) (Nat.le_trans (qT6 _ _) (qF6 hb y (show ub y=some n from h)))
 |.b .ct0 x y,n,h=>by
  cases e:ub y with
  |none=>rw[xL3,e]at h;injection h
  |some m=>
   rw[xL3,e]at h
   have l1:(dL ρ (.b .ct0 x y)).length<=m:=Nat.le_trans (qP5 _ _) (Nat.le_trans (qT6 _ _) (qF6 hb y e))
   cases x<;>first|((first|obtain rfl:=Option.some.inj h|(injection h;done));exact l1)|skip
   rename_i i
   cases e3:decide (0<=i) with
   |false=>rw[show yX6 (.c i) (some m)=(match decide (0<=i) with|true=>some (min m i.toNat)|false=>some m) from rfl,e3]at h;obtain rfl:=Option.some.inj h;exact l1
   |true=>
   rw[show yX6 (.c i) (some m)=(match decide (0<=i) with|true=>some (min m i.toNat)|false=>some m) from rfl,e3]at h
   have e4:=of_decide_eq_true e3
   obtain rfl:=Option.some.inj h
   refine Nat.le_min.mpr ⟨l1,?_⟩
   show (((dL ρ y).drop 0).take (PySem.clipAt (dL ρ y).length i-0)).length<=_
   rw[List.length_take]
   refine Nat.le_trans (Nat.min_le_left _ _) ?_
   have:=PySem.clipAt_cast (dL ρ y).length i
   rw[if_neg (by exact fun gz=>lin [] [_] [(1,.il (.c (0)) (.v 0)),(1,.il (.a (.v 0) (.c 1)) (.c (0)))] rfl e4 gz)]at this
   omega
 |.b .rep x y,n,h=>by
  have:=wC5 hb x (show ubI x=some n from h)
  show (List.replicate (dI ρ x).toNat _).length<=n
  rw[List.length_replicate];omega
 |.b .add J J2,J3,h|.b .sub J J2,J3,h|.b .mod J J2,J3,h|.b .fdiv J J2,J3,h|.b .get J J2,J3,h|.b .lcp J J2,J3,h|.b .lcs J J2,J3,h=>by injection h
 |.t .cut x y z,n,h=>Nat.le_trans (qP5 _ _) (Nat.le_trans (qT6 _ _) (qF6 hb z (show ub z=some n from h)))
 |.t .rev J J2 J3,J4,h=>by injection h
theorem wC5 {ρ:Rho} (hb:∀ n,(ρ.l n).length<=100):∀(x:E) {n:Nat},ubI x=some n->dI ρ x<=n:=@fun ξ ξ2 ξ3=>match @ξ,@ξ2,@ξ3 with
 |.v k,n,h=>by injection h
 |.c i,n,h=>by obtain rfl:=Option.some.inj h;exact Int.self_le_toNat i
 |.u .len a,n,h=>Int.ofNat_le.mpr (qF6 hb a (show ub a=some n from h))
 |.u .tl J,J2,h|.u .abs J,J2,h|.u .hd J,J2,h|.u .neg J,J2,h=>by injection h
 |.b .add x y,n,h=>by
  rw[show ubI (.b .add x y)=(match ubI x,ubI y with|some n,some m=>some (n+m)|J,J2=>none) from rfl]at h
  cases e:ubI x<;>cases e1:ubI y<;>rw[e,e1]at h<;>(first|obtain rfl:=Option.some.inj h|(injection h;done))
  have h1:=wC5 hb x e
  have h2:=wC5 hb y e1
  show dI ρ x+dI ρ y<=_
  exact Int.not_lt.mp fun gz=>lin [_,_] [_,_] [(1,.il (.v 0) (.n (.v 0))),(1,.il (.v 1) (.n (.v 1))),(1,.il (.a (.n (.a (.v 0) (.v 1))) (.c 1)) (.a (.v 0) (.v 1)))] rfl h1 h2 gz
 |.b .mod x y,n,h=>by
  cases y<;>first|injection h|skip
  rename_i m
  cases e:decide (0<m)<;>rw[show ubI (.b .mod x (.c m))=(match decide (0<m) with|true=>some m.toNat|false=>none) from rfl,e]at h<;>(first|obtain rfl:=Option.some.inj h|(injection h;done))
  have:=(zM1 (a:=dI ρ x) (of_decide_eq_true e)).2
  show dI ρ x % m<=_
  omega
 |.b .sub J J2,J3,h|.b .fdiv J J2,J3,h|.b .get J J2,J3,h|.b .lcp J J2,J3,h|.b .lcs J J2,J3,h|.b .cons J J2,J3,h|.b .app J J2,J3,h|.b .tk J J2,J3,h|.b .dr J J2,J3,h|.b .ct0 J J2,J3,h|.b .ct1 J J2,J3,h|.b .rep J J2,J3,h=>by injection h
 |.t .cut J J2 J3,J4,h|.t .rev J J2 J3,J4,h=>by injection h
end
set_option tactic.hygienic true in
theorem wX0 {ρ:Rho}:∀(x:E) {n:Int},lbI x=some n->n<=dI ρ x:=@fun ξ ξ2 ξ3=>match @ξ,@ξ2,@ξ3 with
 |.v k,n,h=>by injection h
 |.c i,n,h=>by obtain rfl:=Option.some.inj h;exact Int.le_refl _
 |.u .len a,n,h=>by obtain rfl:=Option.some.inj h;exact Int.natCast_nonneg _
 |.u .tl J,J2,h|.u .abs J,J2,h|.u .hd J,J2,h|.u .neg J,J2,h=>by injection h
 |.b .add x y,n,h=>by
  rw[show lbI (.b .add x y)=(match lbI x,lbI y with|some n,some m=>some (n+m)|J,J2=>none) from rfl]at h
  cases e:lbI x<;>cases e1:lbI y<;>rw[e,e1]at h<;>(first|obtain rfl:=Option.some.inj h|(injection h;done))
  exact Int.add_le_add (wX0 x e) (wX0 y e1)
 |.b .mod x y,n,h=>by
  cases y<;>first|injection h|skip
  rename_i m
  cases e:decide (0<m)<;>rw[show lbI (.b .mod x (.c m))=(match decide (0<m) with|true=>some 0|false=>none) from rfl,e]at h<;>(first|obtain rfl:=Option.some.inj h|(injection h;done))
  exact (zM1 (a:=dI ρ x) (of_decide_eq_true e)).1
 |.b .lcp J J2,J3,h|.b .lcs J J2,J3,h=>by obtain rfl:=Option.some.inj h;exact Int.natCast_nonneg _
 |.b .sub J J2,J3,h|.b .fdiv J J2,J3,h|.b .get J J2,J3,h|.b .cons J J2,J3,h|.b .app J J2,J3,h|.b .tk J J2,J3,h|.b .dr J J2,J3,h|.b .ct0 J J2,J3,h|.b .ct1 J J2,J3,h|.b .rep J J2,J3,h=>by injection h
 |.t .cut J J2 J3,J4,h|.t .rev J J2 J3,J4,h=>by injection h
theorem qJ2 {x:E} {i:Int} (h:isK x=some i):x=.c i:=by cases x<;>(first|obtain rfl:=Option.some.inj h|(injection h;done));rfl
set_option tactic.hygienic true in
theorem wJ2 {x:E} {p:E×E} (h:zH2 x=some p):x=.b .add p.1 p.2:=by
 cases x<;>first|injection h|skip
 rename_i o a b
 cases o<;>(first|obtain rfl:=Option.some.inj h|(injection h;done))
 rfl
section
variable {ρ:Rho}
theorem wE1 (x:E):dI ρ (cst x).1+(cst x).2=dI ρ x:=by
 unfold cst
 cases e:isK x with
 |some i=>rw[qJ2 e];exact Int.zero_add i
 |none=>
  cases e2:zH2 x with
  |none=>exact Int.add_zero _
  |some p=>
   dsimp only
   cases e3:isK p.2 with
   |none=>exact Int.add_zero _
   |some i=>
    rw[wJ2 e2,qJ2 e3]
    rfl
theorem qL8 (x:E) (i:Int):dI ρ (mkC x i)=dI ρ x+i:=by
 unfold mkC
 cases e:isK x with
 |some j=>rw[qJ2 e];rfl
 |none=>
  cases e2:decide (i=0) with
  |true=>rw[of_decide_eq_true e2];exact (Int.add_zero _).symm
  |false=>rfl
theorem xJ8 (p:E) (i:Int) (q:E) (j:Int):dI ρ (wM0 p i q j)=dI ρ p+i+(dI ρ q+j):=by
 unfold wM0
 cases e:isK p with
 |some k=>rw[qJ2 e];dsimp only;rw[qL8];show dI ρ q+(k+i+j)=k+i+_;exact leq [] [_,_,_,_] (.il (.a (.v 0) (.a (.a (.v 1) (.v 2)) (.v 3))) (.a (.a (.v 1) (.v 2)) (.a (.v 0) (.v 3)))) [] rfl
 |none=>
  cases e2:isK q with
  |some k=>rw[qJ2 e2];dsimp only;rw[qL8];show _=_+(k+j);exact leq [] [_,_,_,_] (.il (.a (.v 0) (.a (.v 1) (.a (.v 2) (.v 3)))) (.a (.a (.v 0) (.v 1)) (.a (.v 2) (.v 3)))) [] rfl
  |none=>dsimp only;rw[qL8];show dI ρ p+dI ρ q+_=_;exact leq [] [_,_,_,_] (.il (.a (.a (.v 0) (.v 1)) (.a (.v 2) (.v 3))) (.a (.a (.v 0) (.v 2)) (.a (.v 1) (.v 3)))) [] rfl
theorem qA3 (x y:E):dI ρ (qF5 x y)=dI ρ x+dI ρ y:=by
 unfold qF5
 rw[xJ8,wE1,wE1]
theorem wM7 (p:E) (i:Int) (q:E) (j:Int):dI ρ (xW3 p i q j)=dI ρ p+i-(dI ρ q+j):=by
 unfold xW3
 cases e:eqE p q with
 |true=>rw[qZ2 e];show i-j=_;exact leq [] [_,_,_] (.il (.s (.v 0) (.v 1)) (.s (.a (.v 2) (.v 0)) (.a (.v 2) (.v 1)))) [] rfl
 |false=>
  cases e2:isK q with
  |some k=>rw[qJ2 e2];dsimp only;rw[qL8];show _=_-(k+j);exact leq [] [_,_,_,_] (.il (.a (.v 0) (.s (.v 1) (.a (.v 2) (.v 3)))) (.s (.a (.v 0) (.v 1)) (.a (.v 2) (.v 3)))) [] rfl
  |none=>
   have fin:dI ρ (mkC (.b .sub p q) (i-j))=dI ρ p+i-(dI ρ q+j):=by
    rw[qL8];show dI ρ p-dI ρ q+_=_;exact leq [] [_,_,_,_] (.il (.a (.s (.v 0) (.v 1)) (.s (.v 2) (.v 3))) (.s (.a (.v 0) (.v 2)) (.a (.v 1) (.v 3)))) [] rfl
   cases e3:zH2 p with
   |none=>exact fin
   |some r=>
    dsimp only
    cases e4:eqE r.1 q with
    |true=>
     rw[wJ2 e3,<-qZ2 e4];dsimp only;rw[qL8]
     show _=dI ρ r.1+dI ρ r.2+i-_;exact leq [] [_,_,_,_] (.il (.a (.v 0) (.s (.v 1) (.v 2))) (.s (.a (.a (.v 3) (.v 0)) (.v 1)) (.a (.v 3) (.v 2)))) [] rfl
    |false=>
     cases e5:eqE r.2 q with
     |true=>
      rw[wJ2 e3,<-qZ2 e5];dsimp only;rw[qL8]
      show _=dI ρ r.1+dI ρ r.2+i-_;exact leq [] [_,_,_,_] (.il (.a (.v 0) (.s (.v 1) (.v 2))) (.s (.a (.a (.v 0) (.v 3)) (.v 1)) (.a (.v 3) (.v 2)))) [] rfl
     |false=>exact fin
theorem wD2 (x y:E):dI ρ (wZ2 x y)=dI ρ x-dI ρ y:=by
 unfold wZ2
 rw[wM7,wE1,wE1]
theorem qW3:∀ l:E,dI ρ (qQ8 l)=(dL ρ l).length:=@fun ξ=>match @ξ with
 |.v J|.c J|.u J J2|.t J J2 J3 J4=>rfl
 |.b .cons J l=>by
  show dI ρ (qF5 (qQ8 l) (.c 1))=_
  rw[qA3,qW3 l];rfl
 |.b .app x y=>by
  show dI ρ (qF5 (qQ8 x) (qQ8 y))=((dL ρ x++dL ρ y).length:Int)
  rw[qA3,qW3 x,qW3 y,List.length_append];rfl
 |.b .rep n i=>by
  show dI ρ (match wL7 (fun i j=>decide (i<=j)) (some 0) (lbI n) with|true=>n|false=>.u .len (.b .rep n i))=_
  cases e:wL7 (fun i j=>decide (i<=j)) (some 0) (lbI n) with
  |false=>rfl
  |true=>
   obtain ⟨a,b,e1,e2,e3⟩:=wZ5 e
   obtain rfl:=Option.some.inj e1
   have h1:=wX0 (ρ:=ρ) n e2
   have h2:=of_decide_eq_true e3
   show dI ρ n=((List.replicate (dI ρ n).toNat _).length:Int)
   rw[List.length_replicate];omega
 |.b .add J J2|.b .sub J J2|.b .mod J J2|.b .fdiv J J2|.b .get J J2|.b .lcp J J2|.b .lcs J J2|.b .tk J J2|.b .dr J J2|.b .ct0 J J2|.b .ct1 J J2=>rfl
theorem wC9 (x:E):dI ρ (wI2 x) = -dI ρ x:=by
 unfold wI2
 cases e:isK x with
 |some i=>rw[qJ2 e];rfl
 |none=>rfl
theorem wV0 (i l:E):dL ρ (xV4 i l)=(dL ρ l).take (dI ρ i).toNat:=by
 unfold xV4
 cases e:eqE i (qQ8 l) with
 |true=>
  rw[qZ2 e,qW3,Int.toNat_natCast,List.take_length]
 |false=>
  cases e2:eqE i (.c 0) with
  |true=>rw[qZ2 e2];rfl
  |false=>rfl
theorem wJ9 (i l:E):dL ρ (xV6 i l)=(dL ρ l).drop (dI ρ i).toNat:=by
 unfold xV6
 cases e:eqE i (.c 0) with
 |true=>rw[qZ2 e];rfl
 |false=>
  cases e2:eqE i (qQ8 l) with
  |true=>rw[qZ2 e2,qW3,Int.toNat_natCast,List.drop_length];rfl
  |false=>rfl
theorem qT7 (x y:E):dL ρ (qM7 x y)=dL ρ x++dL ρ y:=by
 unfold qM7
 cases e:isK x with
 |some k=>rw[qJ2 e];rfl
 |none=>
  cases e2:isK y with
  |some k=>rw[qJ2 e2];exact (List.append_nil _).symm
  |none=>rfl
set_option tactic.hygienic true in
theorem xR5 (hb:∀ n,(ρ.l n).length<=100) {x:E} {i:Int} (h:ubE x=some i):dI ρ x<=i:=by
 cases x with
 |c j=>obtain rfl:=Option.some.inj h;exact Int.le_refl _
 |_=>
  unfold ubE at h
  dsimp only at h
  split at h<;>(first|obtain rfl:=Option.some.inj h|(injection h;done))
  rename_i e
  exact wC5 hb _ e
theorem jV7 {o:Nat} {x y:E} {k:Nat}:dC ρ ⟨o,x,y,k⟩=dC ρ (sc o x y):=rfl
theorem yX3 (hb:∀ n,(ρ.l n).length<=100) {x y:E} (h:wL7 (fun i j=>decide (i<j)) (ubE x) (lbI y)=true):dI ρ x<dI ρ y:=by
 obtain ⟨i,j,e1,e2,e3⟩:=wZ5 h
 exact Int.lt_of_le_of_lt (xR5 hb e1) (Int.lt_of_lt_of_le (of_decide_eq_true e3) (wX0 y e2))
theorem yL5 (hb:∀ n,(ρ.l n).length<=100) {x y:E} (h:wL7 (fun i j=>decide (i<=j)) (ubE x) (lbI y)=true):dI ρ x<=dI ρ y:=by
 obtain ⟨i,j,e1,e2,e3⟩:=wZ5 h
 exact Int.le_trans (xR5 hb e1) (Int.le_trans (of_decide_eq_true e3) (wX0 y e2))
theorem xA3 (hb:∀ n,(ρ.l n).length<=100) {c:SC} {r:Bool} (h:zQ5 c=some r):dC ρ c=r:=by
 obtain ⟨o,x,y,k⟩:=c
 have T:∀{p:Prop} [Decidable p],p->some true=some r->decide p=r:=fun hp e=>(decide_eq_true hp).trans (Option.some.inj e)
 have F:∀{p:Prop} [Decidable p],¬ p->some false=some r->decide p=r:=fun hp e=>(decide_eq_false hp).trans (Option.some.inj e)
 match o,h with
 |0,h=>exact obB h (fun e h=>T (yX3 hb e) h) fun h=>obB h (fun e h=>F (Int.not_lt.mpr (yL5 hb e)) h) fun h=>obB h (fun e h=>F (by rw[qZ2 e];exact Int.lt_irrefl _) h) fun h=>by injection h
 |1,h=>exact obB h (fun e h=>T (yL5 hb e) h) fun h=>obB h (fun e h=>F (Int.not_le.mpr (yX3 hb e)) h) fun h=>obB h (fun e h=>T (by rw[qZ2 e];exact Int.le_refl _) h) fun h=>by injection h
 |2,h=>exact obB h (fun e h=>T (by rw[qZ2 e]) h) fun h=>obB h (fun e h=>F (Int.ne_of_lt (yX3 hb e)) h) fun h=>obB h (fun e h=>F (Int.ne_of_gt (yX3 hb e)) h) fun h=>by injection h
 |3,h=>exact obB h (fun e h=>T (by rw[qZ2 e]) h) fun h=>by injection h
 |J+4,h=>injection h
variable {g:Gx}
theorem qB1 (G:Gd ρ g) {hs:Fx} (hv:HV ρ hs) {c:SC} {b:Bool} (h:ask g hs c=some b):dC ρ c=b:=by
 unfold ask at h
 cases e:zQ5 c with
 |some b'=>rw[e]at h;obtain rfl:=Option.some.inj h;exact xA3 G.bd e
 |none=>
  rw[e]at h
  cases e1:zE7 hs c with
  |some b'=>rw[e1]at h;obtain rfl:=Option.some.inj h;exact wV3 hv e1
  |none=>
   rw[e1]at h
   refine xO8 hv (R:=zL5 g.R (c.h % 16)) (fun r hr=>?_) h
   rcases wY8 (R:=g.R) (n:=c.h % 16) with z|z
   ·rw[z]at hr;cases hr
   ·exact G.ru _ z r hr
theorem qW0 {hs:Fx} (hv:HV ρ hs) {c:SC} {b:Bool} (h:dC ρ c=b):HV ρ ((c,b)::hs):=fun p hp=>by
 rcases List.mem_cons.mp hp with rfl|hp
 ·exact h
 ·exact hv p hp
theorem qD1 (G:Gd ρ g) {hs:Fx} (hv:HV ρ hs) {c:SC} {k:Fx->Bool->Bool} {P:Prop} (q:∀ hs',HV ρ hs'->k hs' (dC ρ c)=true->P) (h:dec g hs c k=true):P:=by
 unfold dec at h
 cases e:ask g hs c with
 |some b=>rw[e]at h;exact q hs hv (by rw[qB1 G hv e];exact h)
 |none=>
  rw[e]at h
  cases e1:k ((c,true)::hs) true with
  |false=>rw[e1]at h;exact nf h
  |true=>
   rw[e1]at h
   cases e2:dC ρ c with
   |true=>exact q _ (qW0 hv e2) (by rw[e2];exact e1)
   |false=>exact q _ (qW0 hv e2) (by rw[e2];exact h)
theorem qK0 (G:Gd ρ g) {hs:Fx} (hv:HV ρ hs) {c:SC} {k:Fx->Bool} {P:Prop} (q:dC ρ c=true->k hs=true->P) (h:nd g hs c k=true):P:=by
 unfold nd at h
 cases e:ask g hs c with
 |none=>rw[e]at h;exact nf h
 |some b=>
  cases b with
  |false=>rw[e]at h;exact nf h
  |true=>rw[e]at h;exact q (qB1 G hv e) h
theorem qC2 (G:Gd ρ g) {l:E} {m:Nat} (h:qB9 l m=true):(dL ρ l).length<=m:=by
 unfold qB9 at h
 cases e:ub l with
 |none=>rw[e]at h;exact nf h
 |some n=>rw[e]at h;exact Nat.le_trans (qF6 G.bd l e) (Nat.le_of_ble_eq_true h)
end
end Mine
end
section
namespace Mine
section
variable {ρ:Rho} {g:Gx} {H:SH} {hs:Fx}
theorem xK6:∀(H:SH) (k:Nat),qQ0 (dOs ρ H) k=dO ρ (xZ6 H k):=@fun ξ ξ2=>match @ξ,@ξ2 with
 |[],J=>rfl
 |J::J2,0=>rfl
 |J::r,k+1=>xK6 r k
theorem wP8:∀(H:SH) (k:Nat) (o:SAO),dOs ρ (yG8 H k o)=qX7 (dOs ρ H) k (dO ρ o):=@fun ξ ξ2 ξ3=>match @ξ,@ξ2,@ξ3 with
 |[],J,J2=>rfl
 |J::J2,0,J3=>rfl
 |x::r,k+1,o=>congrArg (dO ρ x::·) (wP8 r k o)
theorem wB6:∀(P X:AH) (j:Nat),qQ0 (P++X) (P.length+j)=qQ0 X j:=@fun ξ=>no_implicit_lambda%(match @ξ with
 |[]=>@fun X j=>by rw[List.nil_append,List.length_nil,Nat.zero_add]
 |J::P=>@fun X j=>by rw[List.length_cons,Nat.succ_add];exact wB6 P X j
 )
theorem wE6:∀(P X:AH) (j:Nat) (o:AO),qX7 (P++X) (P.length+j) o=P++qX7 X j o:=@fun ξ=>no_implicit_lambda%(match @ξ with
 |[]=>@fun X j o=>by rw[List.nil_append,List.length_nil,Nat.zero_add,List.nil_append]
 |p::P=>@fun X j o=>by rw[List.length_cons,Nat.succ_add];exact congrArg (p::·) (wE6 P X j o)
 )
theorem xK9:∀(A B:SH),dOs ρ (A++B)=dOs ρ A++dOs ρ B:=@fun ξ ξ2=>match @ξ,@ξ2 with
 |[],J=>rfl
 |a::A,B=>congrArg (dO ρ a::·) (xK9 A B)
theorem wK0:∀(A:SH),(dOs ρ A).length=A.length:=@fun ξ=>match @ξ with
 |[]=>rfl
 |J::A=>congrArg (·+1) (wK0 A)
theorem qN2 (H:SH) (o:SAO):dH ρ (H++[o])=dH ρ H++[dO ρ o]:=by
 show ρ.pre++dOs ρ (H++[o])=(ρ.pre++dOs ρ H)++[dO ρ o]
 rw[xK9,List.append_assoc]
 rfl
theorem zS5 (G:Gd ρ g) (H:SH):(dH ρ H).length=g.n0+H.length:=by
 show (ρ.pre++dOs ρ H).length=_
 rw[List.length_append,wK0,G.n0]
theorem xZ2 (G:Gd ρ g) (H:SH):dV ρ (nw g H)=.obj (dH ρ H).length:=by rw[zS5 G];rfl
theorem qX5 (G:Gd ρ g) {v:SAV} {o:SAO} (h:oz g H v=o) (hd:o≠.dead):∃ k,dV ρ v=.obj k/\qQ0 (dH ρ H) k=dO ρ o:=by
 cases v with
 |obj k=>
  have h':(match Nat.ble g.n0 k with|true=>xZ6 H (k-g.n0)|false=>.dead)=o:=h
  cases e:Nat.ble g.n0 k with
  |false=>rw[e]at h';exact absurd h'.symm hd
  |true=>
   rw[e]at h'
   refine ⟨k,rfl,?_⟩
   have:=wB6 ρ.pre (dOs ρ H) (k-g.n0)
   rw[G.n0,Nat.add_sub_cancel' (Nat.le_of_ble_eq_true e),xK6]at this
   exact this.trans (congrArg _ h')
 |pl n=>
  have h':(match qJ3 g.pool n with|true=>SAO.il (.v (2+n))|false=>.dead)=o:=h
  cases e:qJ3 g.pool n with
  |false=>rw[e]at h';exact absurd h'.symm hd
  |true=>
   rw[e]at h'
   subst h'
   exact ⟨_,rfl,qV0 (G.pl n e) (by intro z;injection z)⟩
 |_=>exact absurd h.symm hd
theorem qF3 (G:Gd ρ g) {v:SAV} {o:SAO} (hi:isO v=true) (h:oz g H v=o) (hd:o≠.dead):∃ k,dV ρ v=.obj k/\qQ0 (dH ρ H) k=dO ρ o/\∀ o',dH ρ (pt g H v o')=qX7 (dH ρ H) k (dO ρ o'):=by
 cases v with
 |obj k=>
  obtain ⟨k',e1,e2⟩:=qX5 G h hd
  (injection e1 with e1;subst e1)
  refine ⟨k,rfl,e2,fun o'=>?_⟩
  have h':(match Nat.ble g.n0 k with|true=>xZ6 H (k-g.n0)|false=>.dead)=o:=h
  cases e:Nat.ble g.n0 k with
  |false=>rw[e]at h';exact absurd h'.symm hd
  |true=>
   have:=wE6 ρ.pre (dOs ρ H) (k-g.n0) (dO ρ o')
   rw[G.n0,Nat.add_sub_cancel' (Nat.le_of_ble_eq_true e),<-wP8]at this
   exact this.symm
 |_=>exact nf hi
theorem qY0:∀(l:qX0) (x:Nat),lk (dF ρ l) x=(lkF l x).map (dV ρ):=@fun ξ ξ2=>match @ξ,@ξ2 with
 |[],J=>rfl
 |(y,v)::r,x=>by
  show (match Nat.beq y x with|true=>some (dV ρ v)|false=>lk (dF ρ r) x)=(match Nat.beq y x with|true=>some v|false=>lkF r x).map (dV ρ)
  cases Nat.beq y x with
  |true=>rfl
  |false=>exact qY0 r x
theorem qB2:∀(l:qX0) (x:Nat) (v:SAV),dF ρ (stF l x v)=st (dF ρ l) x (dV ρ v):=@fun ξ=>no_implicit_lambda%(match @ξ with
 |[]=>@fun J J2=>rfl
 |(y,u)::r=>@fun x v=>by
  show dF ρ (match Nat.beq y x with|true=>(y,v)::r|false=>(y,u)::stF r x v)=(match Nat.beq y x with|true=>(y,dV ρ v)::dF ρ r|false=>(y,dV ρ u)::st (dF ρ r) x (dV ρ v))
  cases Nat.beq y x with
  |true=>rfl
  |false=>exact congrArg ((y,dV ρ u)::·) (qB2 r x v)
 )
theorem wQ1:∀(l:List (List Nat×SAV)) (x:List Nat),lkS (dD ρ l) x=(lkD l x).map (dV ρ):=@fun ξ ξ2=>match @ξ,@ξ2 with
 |[],J=>rfl
 |(y,v)::r,x=>by
  show (match eqL y x with|true=>some (dV ρ v)|false=>lkS (dD ρ r) x)=(match eqL y x with|true=>some v|false=>lkD r x).map (dV ρ)
  cases eqL y x with
  |true=>rfl
  |false=>exact wQ1 r x
theorem xO5:∀(l:List (List Nat×SAV)) (x:List Nat) (v:SAV),dD ρ (stD l x v)=stS (dD ρ l) x (dV ρ v):=@fun ξ=>no_implicit_lambda%(match @ξ with
 |[]=>@fun J J2=>rfl
 |(y,u)::r=>@fun x v=>by
  show dD ρ (match eqL y x with|true=>(y,v)::r|false=>(y,u)::stD r x v)=(match eqL y x with|true=>(y,dV ρ v)::dD ρ r|false=>(y,dV ρ u)::stS (dD ρ r) x (dV ρ v))
  cases eqL y x with
  |true=>rfl
  |false=>exact congrArg ((y,dV ρ u)::·) (xO5 r x v)
 )
theorem xL6:∀(l:qX0),(dF ρ l).length=l.length:=@fun ξ=>match @ξ with
 |[]=>rfl
 |J::r=>congrArg (·+1) (xL6 r)
theorem xO1:∀(l:List (List Nat×SAV)),(dD ρ l).length=l.length:=@fun ξ=>match @ξ with
 |[]=>rfl
 |J::r=>congrArg (·+1) (xO1 r)
theorem qE6:∀(l:List SAV),(dVs ρ l).length=l.length:=@fun ξ=>match @ξ with
 |[]=>rfl
 |J::r=>congrArg (·+1) (qE6 r)
theorem wJ8:∀(A B:List SAV),dVs ρ (A++B)=dVs ρ A++dVs ρ B:=@fun ξ ξ2=>match @ξ,@ξ2 with
 |[],J=>rfl
 |a::A,B=>congrArg (dV ρ a::·) (wJ8 A B)
theorem xQ0:∀(ps:List Nat) (vs:List SAV),dF ρ (yZ7 ps vs)=ps.zip (dVs ρ vs):=@fun ξ ξ2=>match @ξ,@ξ2 with
 |[],J=>rfl
 |J::J2,[]=>rfl
 |p::ps,v::vs=>congrArg ((p,dV ρ v)::·) (xQ0 ps vs)
theorem wT5:∀(ps:List (List Nat)) (vs:List SAV),dD ρ (yZ4 ps vs)=ps.zip (dVs ρ vs):=@fun ξ ξ2=>match @ξ,@ξ2 with
 |[],J=>rfl
 |J::J2,[]=>rfl
 |p::ps,v::vs=>congrArg ((p,dV ρ v)::·) (wT5 ps vs)
theorem wO0:∀(vs:List SAV),qJ0 (dVs ρ vs)=(zA4 vs).map (dL ρ):=@fun ξ=>match @ξ with
 |[]=>rfl
 |v::r=>by
  cases v with
  |int i=>
   show (match qJ0 (dVs ρ r) with|some l=>some (dI ρ i::l)|none=>none)=(match zA4 r with|some l=>some (E.b .cons i l)|none=>none).map (dL ρ)
   rw[wO0 r]
   cases zA4 r<;>rfl
  |_=>rfl
theorem wB5 (vs:List SAV):mkL (dVs ρ vs)=dO ρ (mkO vs):=by
 unfold mkL mkO
 rw[wO0]
 cases zA4 vs<;>rfl
theorem qC3 (G:Gd ρ g) (hv:HV ρ hs) {v:SAV} {k:KB} {P:Prop} (q:∀ hs' b,HV ρ hs'->dV ρ v=.bool b->k hs' b=true->P) (h:tru g hs v k=true):P:=by
 cases v with
 |bool b=>exact q hs b hv rfl h
 |sb n=>exact qD1 G hv (c:=sc 4 (.v n) (.c 0)) (fun hs' hv' h=>q hs' _ hv' rfl h) h
 |_=>exact nf h
theorem jQ9 (G:Gd ρ g) {v:SAV} {f:E->Bool} (h:(match oz g H v with|.il l=>f l|_=>false)=true):∃ k l,dV ρ v=.obj k/\qQ0 (dH ρ H) k=.il (dL ρ l)/\f l=true:=by
 have key:∀{o:SAO},(match o with|.il l=>f l|_=>false)=true->oz g H v=o->∃ k l,dV ρ v=.obj k/\qQ0 (dH ρ H) k=.il (dL ρ l)/\f l=true:=fun {o} h e=>by
  cases o<;>first|exact nf h|skip
  obtain ⟨k,e1,e2⟩:=qX5 G e (qQ3 rfl)
  exact ⟨k,_,e1,e2,h⟩
 exact key h rfl
theorem wP5 {v:SAV} {i:E} (h:yX8 v=some i):v=.int i:=by cases v<;>(first|obtain rfl:=Option.some.inj h|(injection h;done));rfl
theorem qR0 {v:SAV} {s:List Nat} (h:wL9 v=some s):v=.str s:=by cases v<;>(first|obtain rfl:=Option.some.inj h|(injection h;done));rfl
theorem qH6 {v:SAV} (h:wT0 v=true):v=.none:=by cases v<;>first|rfl|exact nf h
theorem xH8 (G:Gd ρ g) (hv:HV ρ hs) {a b:SAV} {k:KB} {P:Prop} (q:∀ hs' t,HV ρ hs'->(∀ X,vEq X (dV ρ a) (dV ρ b)=some t/\sEq X (dV ρ a) (dV ρ b)=some t)->k hs' t=true->P) (h:scE g hs a b k=true):P:=by
 have three:(match zA6 a with
   |true=>(match zA6 b with
    |true=>tru g hs a fun hs x=>tru g hs b fun hs y=>k hs (match x,y with|true,true=>true|false,false=>true|J,J2=>false)
    |false=>false)
   |false=>false)=true->P:=fun h=>boT h fun J h=>boT h fun J h=>
  qC3 G hv (fun hs1 x hv1 e1 h=>qC3 G hv1 (fun hs2 y hv2 e2 h=>q hs2 _ hv2 (fun X=>by rw[e1,e2];exact ⟨rfl,rfl⟩) h) h) h
 have two:(match wL9 a with
  |some s=>(match wL9 b with|some t=>k hs (eqL s t)|none=>false)
  |none=>(match zA6 a with
   |true=>(match zA6 b with
    |true=>tru g hs a fun hs x=>tru g hs b fun hs y=>k hs (match x,y with|true,true=>true|false,false=>true|J,J2=>false)
    |false=>false)
   |false=>false))=true->P:=fun h=>by
  cases e:wL9 a<;>rw[e]at h
  ·exact three h
  ·refine soS h fun t e2 h=>?_
   exact q hs _ hv (fun X=>by rw[qR0 e,qR0 e2];exact ⟨rfl,rfl⟩) h
 unfold scE at h
 cases e:yX8 a<;>rw[e]at h
 ·exact two h
 ·refine soE h fun j e2 h=>qD1 G hv (fun hs' hv' h=>q hs' _ hv' (fun X=>by rw[wP5 e,wP5 e2];exact ⟨rfl,rfl⟩) h) h
theorem wD8 (G:Gd ρ g) (hv:HV ρ hs) {a b:SAV} {xs ys:E} {k:KB} {P:Prop} (e1:oz g H a=.il xs) (e2:oz g H b=.il ys) (q:∀ hs' t,HV ρ hs'->(vEq (dH ρ H) (dV ρ a) (dV ρ b)=some t/\sEq (dH ρ H) (dV ρ a) (dV ρ b)=some t)->k hs' t=true->P) (h:dec g hs (sc 3 xs ys) k=true):P:=by
 obtain ⟨j,e3,e4⟩:=qX5 G e1 (qQ3 rfl)
 obtain ⟨j2,e5,e6⟩:=qX5 G e2 (qQ3 rfl)
 refine qD1 G hv (fun hs' hv' h=>q hs' _ hv' ?_ h) h
 rw[e3,e5]
 exact ⟨xI9 e4 e6,xH7 e4 e6⟩
theorem zX7 (G:Gd ρ g) (hv:HV ρ hs) {a b:SAV} {k:KB} {P:Prop} (q:∀ hs' t,HV ρ hs'->vEq (dH ρ H) (dV ρ a) (dV ρ b)=some t->k hs' t=true->P) (h:yG3 g hs H a b k=true):P:=by
 have two:(match oz g H a,oz g H b with|.il xs,.il ys=>dec g hs (sc 3 xs ys) k|.dead,.dead=>scE g hs a b k|J,J2=>false)=true->P:=fun h=>by
  cases e:oz g H a<;>rw[e]at h<;>first|exact nf h|skip
  all_goals cases e2:oz g H b<;>rw[e2]at h<;>first|exact nf h|skip
  ·exact xH8 G hv (fun hs' t hv' e h=>q hs' t hv' (e _).1 h) h
  ·exact wD8 G hv e e2 (fun hs' t hv' e h=>q hs' t hv' e.1 h) h
 unfold yG3 at h
 cases e:wT0 a<;>rw[e]at h
 ·exact two h
 ·exact boT h fun e2 h=>q hs true hv (by rw[qH6 e,qH6 e2];rfl) h
theorem wD9 (G:Gd ρ g):∀{x y:List SAV} {hs:Fx} {k:KB} {P:Prop},HV ρ hs->(∀ hs' t,HV ρ hs'->wO8 (dH ρ H) (dVs ρ x) (dVs ρ y)=some t->k hs' t=true->P)->zY4 g H hs x y k=true->P:=@fun ξ ξ2=>no_implicit_lambda%(match @ξ,@ξ2 with
 |[],[]=>@fun hs k P hv q h=>q hs true hv rfl h
 |[],J::J2=>@fun J3 J4 J5 J6 J7 h=>by exact nf h
 |J::J2,[]=>@fun J3 J4 J5 J6 J7 h=>by exact nf h
 |a::x,b::y=>@fun hs k P hv q h=>zX7 G hv (fun hs1 p hv1 e1 h=>wD9 G hv1 (fun hs2 r hv2 e2 h=>q hs2 _ hv2 (by
   show (match vEq (dH ρ H) (dV ρ a) (dV ρ b),wO8 (dH ρ H) (dVs ρ x) (dVs ρ y) with|some p,some q=>some (match p with|true=>q|false=>false)|J,J2=>none)=_
   rw[e1,e2]<;>rfl) h) h) h
 )
theorem wW9:∀(xs:List SAV),qM0 (dVs ρ xs)=wF2 xs:=@fun ξ=>match @ξ with
 |[]=>rfl
 |v::r=>by cases v<;>first|rfl|exact wW9 r
set_option tactic.hygienic true in
theorem wS1 (G:Gd ρ g) (hv:HV ρ hs) {a b:SAV} {k:KB} {P:Prop} (q:∀ hs' t,HV ρ hs'->sEq (dH ρ H) (dV ρ a) (dV ρ b)=some t->k hs' t=true->P) (h:yX9 g hs H a b k=true):P:=by
 unfold yX9 at h
 cases e1:oz g H a<;>rw[e1]at h<;>first|exact nf h|(injection h;done)|skip
 all_goals cases e2:oz g H b<;>rw[e2]at h<;>first|exact nf h|(injection h;done)|skip
 ·exact xH8 G hv (fun hs' t hv' e h=>q hs' t hv' (e _).2 h) h
 ·exact wD8 G hv e1 e2 (fun hs' t hv' e h=>q hs' t hv' e.2 h) h
 ·rename_i xs ys
  obtain ⟨j,e3,e4⟩:=qX5 G e1 (qQ3 rfl)
  obtain ⟨j2,e5,e6⟩:=qX5 G e2 (qQ3 rfl)
  dsimp only at h
  cases e:wF2 xs<;>rw[e]at h
  ·exact nf h
  ·refine wD9 G hv (fun hs' t hv' e7 h=>q hs' t hv' ?_ h) h
   rw[e3,e5]
   exact zS3 e4 e6 ((wW9 xs).trans e) e7
theorem iiS {P:Prop} {a b:SAV} {f:E->E->Bool} (h:(match a,b with|.int i,.int j=>f i j|J,J2=>false)=true) (q:∀ i j,a=.int i->b=.int j->f i j=true->P):P:=by
 cases a<;>first|exact nf h|skip
 cases b<;>first|exact nf h|exact q _ _ rfl rfl h
theorem yF4 {s:List Nat} {k:Nat} {H:AH} {es:List (List Nat×AV)} {K:Bool->Prop} (e:qQ0 H k=.sd es) (h:K (match lkS es s with|some J=>true|none=>false)):zU7 .cin (.str s) (.obj k) H K:=by
 show (match qQ0 H k with|.sd es=>K (match lkS es s with|some J=>true|none=>false)|_=>False)
 rw[e]
 exact h
set_option tactic.hygienic true in
theorem wT2 (G:Gd ρ g) (hv:HV ρ hs) {op:Cop} {a b:SAV} {k:KB} {K:Bool->AH->Prop} (q:∀ hs' t,HV ρ hs'->k hs' t=true->K t (dH ρ H)) (h:yD4 g op a b hs H k=true):zU7 op (dV ρ a) (dV ρ b) (dH ρ H) fun t=>K t (dH ρ H):=by
 have two:∀(o:Nat) (f:Int->Int->Bool),(∀ i j:E,dC ρ (sc o i j)=f (dI ρ i) (dI ρ j))->∀ i j:E,dec g hs (sc o i j) k=true->K (f (dI ρ i) (dI ρ j)) (dH ρ H):=fun o f hf i j h=>qD1 G hv (fun hs' hv' h=>(hf i j)▸q hs' _ hv' h) h
 have two':∀(o:Nat) (f:Int->Int->Bool),(∀ i j:E,dC ρ (sc o i j)=f (dI ρ i) (dI ρ j))->(match (generalizing:=false) a,b with|.int i,.int j=>dec g hs (sc o i j) k|J,J2=>false)=true->(match dV ρ a,dV ρ b with|.int i,.int j=>K (f i j) (dH ρ H)|J,J2=>False):=fun o f hf h=>iiS h fun i j e1 e2 h=>by
  subst e1 e2
  exact two o f hf _ _ h
 cases op with
 |eq=>exact wS1 G hv (fun hs' t hv' e h=>by show opt (sEq _ _ _) _;rw[e];exact q hs' t hv' h) h
 |ne=>exact wS1 G hv (fun hs' t hv' e h=>by show opt (sEq _ _ _) _;rw[e];exact q hs' _ hv' h) h
 |lt=>exact two' 0 (fun i j=>decide (i<j)) (fun J J=>rfl) h
 |le=>exact two' 1 (fun i j=>decide (i<=j)) (fun J J=>rfl) h
 |gt=>exact iiS h fun i j e1 e2 h=>by subst e1 e2;exact two 0 (fun i j=>decide (i<j)) (fun J J=>rfl) _ _ h
 |ge=>exact iiS h fun i j e1 e2 h=>by subst e1 e2;exact two 1 (fun i j=>decide (i<=j)) (fun J J=>rfl) _ _ h
 |is=>
  refine boT h fun e h=>?_
  rw[qH6 e]
  have:=q hs _ hv h
  cases a<;>exact this
 |isnot=>
  refine boT h fun e h=>?_
  rw[qH6 e]
  have:=q hs _ hv h
  cases a<;>exact this
 |nin=>
  cases a<;>first|exact nf h|(injection h;done)|skip
  rename_i s
  cases s with
  |nil=>exact nf h
  |cons c r=>cases r with
   |cons J J2=>exact nf h
   |nil=>cases b<;>first|exact nf h|(injection h;done)|exact q hs _ hv h
 |cin=>
  cases a<;>first|exact nf h|(injection h;done)|skip
  rename_i s
  have h':(match oz g H b with|.sd es=>k hs (match lkD es s with|some J=>true|none=>false)|_=>false)=true:=h
  cases e:oz g H b<;>rw[e]at h'<;>first|exact nf h'|(injection h';done)|skip
  obtain ⟨j,e1,e2⟩:=qX5 G e (qQ3 rfl)
  rw[e1]
  rename_i es
  refine yF4 e2 ?_
  rw[wQ1]
  dsimp only at h'
  cases e4:lkD es s<;>rw[e4]at h'<;>exact q hs _ hv h'
end
end Mine
end
section
namespace Mine
noncomputable abbrev KO (ρ:Rho) (k:KV) (K:AV->AH->Prop):Prop:=∀ hs v H,HV ρ hs->k hs v H=true->K (dV ρ v) (dH ρ H)
section
variable {ρ:Rho} {g:Gx} {H:SH} {hs:Fx}
set_option tactic.hygienic true in
theorem zZ2 {l x:E} (h:yJ8 l=some x):dL ρ l=[dI ρ x]:=by
 cases l<;>first|injection h|skip
 rename_i o a b
 cases o<;>first|injection h|skip
 have h':(match isK b with|some J=>some a|none=>none)=some x:=h
 cases e:isK b<;>rw[e]at h'<;>(first|obtain rfl:=Option.some.inj h'|(injection h';done))
 rw[qJ2 e]
 rfl
theorem qK2 (G:Gd ρ g) {k:KV} {K:AV->AH->Prop} (q:KO ρ k K) (hv:HV ρ hs) {o:SAO} (h:k hs (nw g H) (H++[o])=true):K (.obj (dH ρ H).length) (dH ρ H++[dO ρ o]):=by
 have:=q _ _ _ hv h
 rw[xZ2 G,qN2]at this
 exact this
set_option tactic.hygienic true in
theorem zQ0 (G:Gd ρ g) (hv:HV ρ hs) {op:Bop} {a b:SAV} {k:KV} {K:AV->AH->Prop} (q:KO ρ k K) (h:yM8 g op a b hs H k=true):zJ7 op (dV ρ a) (dV ρ b) (dH ρ H) K:=by
 cases op with
 |add=>
  have two:(match oz g H a,oz g H b with|.il xs,.il ys=>(match qB9 (.b .app xs ys) 10000 with|true=>k hs (nw g H) (H++[.il (qM7 xs ys)])|false=>false)|J,J2=>false)=true->zJ7 .add (dV ρ a) (dV ρ b) (dH ρ H) K:=fun h=>by
   cases e:oz g H a<;>rw[e]at h<;>first|exact nf h|(injection h;done)|skip
   cases e2:oz g H b<;>rw[e2]at h<;>first|exact nf h|(injection h;done)|skip
   rename_i xs ys
   obtain ⟨j,e3,e4⟩:=qX5 G e (qQ3 rfl)
   obtain ⟨j2,e5,e6⟩:=qX5 G e2 (qQ3 rfl)
   dsimp only at h
   cases e7:qB9 (.b .app xs ys) 10000<;>rw[e7]at h<;>first|exact nf h|(injection h;done)|skip
   have l:=qC2 G e7
   have n:=qK2 G q hv h
   rw[e3,e5]
   refine yH3 e4 e6 ?_ ?_
   ·rw[<-List.length_append];exact l
   ·rw[<-qT7];exact n
  cases a with
  |int i=>cases b with
   |int j=>
    have:=q _ _ _ hv h
    show K (.int (dI ρ i+dI ρ j)) _
    rw[<-qA3]
    exact this
   |_=>exact two h
  |str s=>cases b with
   |str t=>
    have h':(match Nat.ble (s.length+t.length) 1000 with|true=>k hs (.str (s++t)) H|false=>false)=true:=h
    show (match Nat.ble (s.length+t.length) 1000 with|true=>K (.str (s++t)) _|false=>False)
    cases e:Nat.ble (s.length+t.length) 1000<;>rw[e]at h'
    ·exact nf h'
    ·exact q _ _ _ hv h'
   |_=>exact two h
  |_=>exact two h
 |sub=>
  cases a<;>first|exact nf h|(injection h;done)|skip
  cases b<;>first|exact nf h|(injection h;done)|skip
  have:=q _ _ _ hv h
  show K (.int (_-_)) _
  rw[<-wD2]
  exact this
 |mod=>
  cases a<;>first|exact nf h|(injection h;done)|skip
  cases b<;>first|exact nf h|(injection h;done)|skip
  have h:nd g hs (sc 0 (.c 0) _) (fun hs=>k hs (.int (.b .mod _ _)) H)=true:=h
  refine qK0 G hv ?_ h
  intro c h
  exact ⟨of_decide_eq_true c,q _ _ _ hv h⟩
 |fdiv=>
  cases a<;>first|exact nf h|(injection h;done)|skip
  cases b<;>first|exact nf h|(injection h;done)|skip
  rename_i i j
  have h:nd g hs (sc 0 (.c 0) j) (fun hs=>nd g hs (sc 1 (.c 0) i) fun hs=>nd g hs (sc 1 i (.c 10000)) fun hs=>nd g hs (sc 1 j (.c 10000)) fun hs=>k hs (.int (.b .fdiv i j)) H)=true:=h
  refine qK0 G hv ?_ h
  intro c1 h
  refine qK0 G hv ?_ h
  intro c2 h
  refine qK0 G hv ?_ h
  intro c3 h
  refine qK0 G hv ?_ h
  intro c4 h
  exact ⟨of_decide_eq_true c1,of_decide_eq_true c2,of_decide_eq_true c3,of_decide_eq_true c4,q _ _ _ hv h⟩
 |mul=>
  cases b<;>first|exact nf h|(injection h;done)|skip
  rename_i n
  have h':(match oz g H a with|.il l=>(match yJ8 l with|some x=>nd g hs (sc 1 (.c 0) n) fun hs=>nd g hs (sc 1 n (.c 1000)) fun hs=>k hs (nw g H) (H++[.il (.b .rep n x)])|none=>false)|_=>false)=true:=h
  cases e:oz g H a<;>rw[e]at h'<;>first|exact nf h'|(injection h';done)|skip
  rename_i l
  dsimp only at h'
  obtain ⟨j,e1,e2⟩:=qX5 G e (qQ3 rfl)
  cases e3:yJ8 l<;>rw[e3]at h'<;>first|exact nf h'|(injection h';done)|skip
  rename_i x
  rw[e1]
  show (match qQ0 (dH ρ H) j with|.il [x]=>_|_=>False)
  rw[e2]
  show (match AO.il (dL ρ l) with|.il [x]=>_|_=>False)
  rw[zZ2 e3]
  refine qK0 G hv ?_ h'
  intro c1 h
  refine qK0 G hv ?_ h
  intro c2 h
  exact ⟨of_decide_eq_true c1,of_decide_eq_true c2,qK2 G q hv h⟩
theorem zD8 {H:AH} {k:Nat} {xs:List Int} {i:Int} {K:AV->Prop} (e:qQ0 H k=.il xs) (h1:-(xs.length:Int)<=i) (h2:i<xs.length) (h3:K (.int (xs.getD (if i<0 then (i+xs.length).toNat else i.toNat) 0))):zQ1 (.obj k) (.int i) H K:=by
 show (match qQ0 H k with|.il xs=>-(xs.length:Int)<=i/\i<xs.length/\K (.int (xs.getD (if i<0 then (i+xs.length).toNat else i.toNat) 0))|_=>False)
 rw[e]
 exact ⟨h1,h2,h3⟩
theorem zH9 {H:AH} {k:Nat} {es:List (List Nat×AV)} {s:List Nat} {v:AV} {K:AV->Prop} (e:qQ0 H k=.sd es) (g:lkS es s=some v) (h:K v):zQ1 (.obj k) (.str s) H K:=by
 show (match qQ0 H k with|.sd es=>(match lkS es s with|some v=>K v|none=>False)|_=>False)
 rw[e]
 show (match lkS es s with|some v=>K v|none=>False)
 rw[g]
 exact h
set_option tactic.hygienic true in
theorem wM1 (G:Gd ρ g) (hv:HV ρ hs) {o i:SAV} {k:Fx->SAV->Bool} {K:AV->Prop} (q:∀ hs v,HV ρ hs->k hs v=true->K (dV ρ v)) (h:yZ6 g o i hs H k=true):zQ1 (dV ρ o) (dV ρ i) (dH ρ H) K:=by
 delta yZ6 at h
 cases e:oz g H o<;>rw[e]at h<;>first|exact nf h|(injection h;done)|skip
 ·rename_i l
  cases i<;>first|exact nf h|(injection h;done)|skip
  rename_i i
  obtain ⟨j,e1,e2⟩:=qX5 G e (qQ3 rfl)
  rw[e1]
  refine qK0 G hv ?_ h
  intro c1 h
  refine qK0 G hv ?_ h
  intro c2 h
  refine zD8 e2 ?_ ?_ (q _ _ hv h)
  ·have:=of_decide_eq_true c1
   rw[show (sc 1 (wI2 (qQ8 l)) i).x=wI2 (qQ8 l) from rfl,wC9,qW3]at this
   exact this
  ·have:=of_decide_eq_true c2
   rw[show (sc 0 i (qQ8 l)).y=qQ8 l from rfl,qW3]at this
   exact this
 ·rename_i es
  cases i<;>first|exact nf h|(injection h;done)|skip
  rename_i s
  obtain ⟨j,e1,e2⟩:=qX5 G e (qQ3 rfl)
  rw[e1]
  dsimp only at h
  cases e3:lkD es s<;>rw[e3]at h
  ·exact nf h
  ·exact zH9 e2 (by rw[wQ1,e3];rfl) (q _ _ hv h)
theorem wT4 {v:SAV} {a:AV} (h:zX5 v=some a):dV ρ v=a:=by
 cases v with
 |none=>obtain rfl:=Option.some.inj h;rfl
 |int e=>cases e<;>first|(obtain rfl:=Option.some.inj h;rfl)|(injection h;done)
 |_=>injection h
theorem xM4 (G:Gd ρ g) (hv:HV ρ hs) {o lo hi:SAV} {xs:E} {k:KV} {K:AV->AH->Prop} (q:KO ρ k K) (e:oz g H o=.il xs∨oz g H o=.fl xs) (h:slI g lo hi xs hs H k=true):qN6 (dV ρ o) (dV ρ lo) (dV ρ hi) (dH ρ H) K:=by
 obtain ⟨j,e1,e2⟩:∃ j,dV ρ o=.obj j/\(qQ0 (dH ρ H) j=.il (dL ρ xs)∨qQ0 (dH ρ H) j=.fl (dL ρ xs)):=by
  rcases e with e|e
  ·obtain ⟨j,e1,e2⟩:=qX5 G e (qQ3 rfl);exact ⟨j,e1,.inl e2⟩
  ·obtain ⟨j,e1,e2⟩:=qX5 G e (qQ3 rfl);exact ⟨j,e1,.inr e2⟩
 rw[e1]
 suffices w:(match cut (dL ρ xs) (dV ρ lo) (dV ρ hi) with|some ys=>K (.obj (dH ρ H).length) (dH ρ H++[.il ys])|none=>False) by
  show (match qQ0 (dH ρ H) j with|.il xs=>_|.fl xs=>_|_=>False)
  rcases e2 with e2|e2<;>rw[e2]<;>exact w
 cases lo<;>first|exact nf h|(injection h;done)|skip
 all_goals cases hi<;>first|exact nf h|(injection h;done)|exact qK2 G q hv h
set_option tactic.hygienic true in
theorem xK0 (G:Gd ρ g) (hv:HV ρ hs) {o lo hi:SAV} {k:KV} {K:AV->AH->Prop} (q:KO ρ k K) (h:xO0 g o lo hi hs H k=true):qN6 (dV ρ o) (dV ρ lo) (dV ρ hi) (dH ρ H) K:=by
 have two:(match oz g H o with|.il xs=>slI g lo hi xs hs H k|.fl xs=>slI g lo hi xs hs H k|_=>false)=true->qN6 (dV ρ o) (dV ρ lo) (dV ρ hi) (dH ρ H) K:=fun h=>by
  cases e:oz g H o<;>rw[e]at h<;>first|exact nf h|(injection h;done)|skip
  ·exact xM4 G hv q (.inl e) h
  ·exact xM4 G hv q (.inr e) h
 cases o with
 |str s=>
  have h':(match zX5 lo,zX5 hi with|some a,some b=>(match xA1 s a b with|some t=>k hs (.str t) H|none=>false)|J,J2=>false)=true:=h
  show (match xA1 s (dV ρ lo) (dV ρ hi) with|some t=>K (.str t) _|none=>False)
  cases e2:zX5 lo<;>rw[e2]at h'<;>first|exact nf h'|(injection h';done)|skip
  cases e3:zX5 hi<;>rw[e3]at h'<;>first|exact nf h'|(injection h';done)|skip
  rw[wT4 e2,wT4 e3]
  dsimp only at h' ⊢
  rename_i a b
  cases e4:xA1 s a b<;>rw[e4]at h'
  ·exact nf h'
  ·exact q _ _ _ hv h'
 |_=>exact two h
theorem wB0:∀(xs:List SAV),qB4 (dVs ρ xs)=wG9 xs
 |[]=>rfl
 |v::r=>by
  cases v<;>first|rfl|skip
  show (match qB4 (dVs ρ r) with|some r=>some (_::r)|none=>none)=(match wG9 r with|some r=>some (_::r)|none=>none)
  rw[wB0 r]
theorem wM6:∀(l:List (List Nat)),dVs ρ (l.map .str)=l.map .str
 |[]=>rfl
 |s::l=>congrArg (AV.str s::·) (wM6 l)
theorem zX0 (G:Gd ρ g) (hv:HV ρ hs) {v:SAV} {k:KV} {K:AV->AH->Prop} (q:KO ρ k K) (h:yE0 g v hs H k=true):sBi 0 [dV ρ v] (dH ρ H) K:=by
 unfold yE0 at h
 cases e:oz g H v<;>rw[e]at h<;>first|exact nf h|(injection h;done)|skip
 all_goals
  obtain ⟨j,e1,e2⟩:=qX5 G e (qQ3 rfl)
  have:=q _ _ _ hv h
  rw[e1]
  show (match qQ0 (dH ρ H) j with|.il xs=>K (.int xs.length) _|.fl xs=>K (.int xs.length) _|.vl xs=>K (.int xs.length) _|_=>False)
  rw[e2]
 ·show K (.int (dL ρ _).length) _
  rw[<-qW3];exact this
 ·show K (.int (dVs ρ _).length) _
  rw[qE6];exact this
 ·show K (.int (dL ρ _).length) _
  rw[<-qW3];exact this
set_option tactic.hygienic true in
theorem zP9 (G:Gd ρ g) (hv:HV ρ hs) {n:Nat} {v:SAV} {k:KV} {K:AV->AH->Prop} (q:KO ρ k K) (h:bi1 g n v hs H k=true):sBi n [dV ρ v] (dH ρ H) K:=by
 match n,h with
 |0,h=>
  cases v with
  |str s=>
   have h':(match Nat.ble s.length 1000 with|true=>k hs (.int (.c s.length)) H|false=>false)=true:=h
   show (match Nat.ble s.length 1000 with|true=>K (.int s.length) _|false=>False)
   cases e:Nat.ble s.length 1000<;>rw[e]at h'
   ·exact nf h'
   ·exact q _ _ _ hv h'
  |_=>exact zX0 G hv q h
 |1,h=>exact nf h
 |2,h=>exact nf h
 |3,h=>
  have h':(match oz g H v with|.il xs=>k hs (nw g H) (H++[.il xs])|.vl xs=>k hs (nw g H) (H++[.vl xs])|_=>false)=true:=h
  cases e:oz g H v<;>rw[e]at h'<;>first|exact nf h'|(injection h';done)|skip
  all_goals
   obtain ⟨j,e1,e2⟩:=qX5 G e (qQ3 rfl)
   show yY1 (dV ρ v) _ _
   rw[e1]
   show (match qQ0 (dH ρ H) j with|.il xs=>K (.obj (dH ρ H).length) (dH ρ H++[.il xs])|.vl xs=>K (.obj (dH ρ H).length) (dH ρ H++[.vl xs])|_=>False)
   rw[e2]
   exact qK2 G q hv h'
 |4,h=>
  have h':(match oz g H v with
   |.il l=>(match isK l with|some J=>k hs (nw g H) (H++[.il (.c 0)])|none=>false)
   |.sd []=>k hs (nw g H) (H++[.il (.c 0)])
   |.vl xs=>(match wG9 xs with|some ss=>(match Nat.ble ss.length 50 with|true=>k hs (nw g H) (H++[.vl ((qB7 ss).map .str)])|false=>false)|none=>false)
   |_=>false)=true:=h
  cases e:oz g H v<;>rw[e]at h'<;>first|exact nf h'|(injection h';done)|skip
  all_goals
   obtain ⟨j,e1,e2⟩:=qX5 G e (qQ3 rfl)
   show yD6 (dV ρ v) _ _
   rw[e1]
   show (match qQ0 (dH ρ H) j with|.il l=>(match l with|[]=>_|J::J2=>False)|.sd l=>(match l with|[]=>_|J::J2=>False)|.vl xs=>(match qB4 xs with|some ss=>(match Nat.ble ss.length 50 with|true=>_|false=>False)|none=>False)|_=>False)
  ·rename_i l
   dsimp only at h'
   cases e3:isK l<;>rw[e3]at h'<;>first|exact nf h'|(injection h';done)|skip
   rw[qJ2 e3]at e2
   rw[e2]
   exact qK2 G q hv h'
  ·rename_i xs
   dsimp only at h'
   cases e3:wG9 xs<;>rw[e3]at h'<;>first|exact nf h'|(injection h';done)|skip
   rename_i ss
   dsimp only at h'
   cases e4:Nat.ble ss.length 50<;>rw[e4]at h'<;>first|exact nf h'|(injection h';done)|skip
   rw[e2]
   show (match qB4 (dVs ρ xs) with|some ss=>(match Nat.ble ss.length 50 with|true=>K _ (_++[.vl ((qB7 ss).map .str)])|false=>False)|none=>False)
   rw[wB0,e3]
   show (match Nat.ble ss.length 50 with|true=>K _ (_++[.vl ((qB7 ss).map .str)])|false=>False)
   rw[e4,<-wM6 (ρ:=ρ)]
   exact qK2 G q hv h'
  ·rename_i es
   cases es with
   |cons J J2=>exact nf h'
   |nil=>
    rw[e2]
    exact qK2 G q hv h'
 |J+5,h=>exact nf h
set_option tactic.hygienic true in
theorem zD2 (G:Gd ρ g) (hv:HV ρ hs) {n:Nat} {a b:SAV} {k:KV} {K:AV->AH->Prop} (q:KO ρ k K) (h:bi2 g n a b hs H k=true):sBi n [dV ρ a,dV ρ b] (dH ρ H) K:=by
 cases a<;>first|exact nf h|(injection h;done)|skip
 cases b<;>first|exact nf h|(injection h;done)|skip
 rename_i i j
 have e:dC ρ (sc 1 i j)=decide (dI ρ i<=dI ρ j):=rfl
 match n,h with
 |0,h=>exact nf h
 |1,h=>
  have h:dec g hs (sc 1 i j) (fun hs t=>k hs (.int (match t with|true=>i|false=>j)) H)=true:=h
  refine qD1 G hv ?_ h
  intro hs' hv' h
  have:=q _ _ _ hv' h
  show K (.int (min (dI ρ i) (dI ρ j))) _
  cases e2:decide (dI ρ i<=dI ρ j)<;>rw[e,e2]at this
  ·rw[Int.min_eq_right (by have:=of_decide_eq_false e2;omega)];exact this
  ·rw[Int.min_eq_left (of_decide_eq_true e2)];exact this
 |2,h=>
  have h:dec g hs (sc 1 i j) (fun hs t=>k hs (.int (match t with|true=>j|false=>i)) H)=true:=h
  refine qD1 G hv ?_ h
  intro hs' hv' h
  have:=q _ _ _ hv' h
  show K (.int (max (dI ρ i) (dI ρ j))) _
  cases e2:decide (dI ρ i<=dI ρ j)<;>rw[e,e2]at this
  ·rw[Int.max_eq_left (by have:=of_decide_eq_false e2;omega)];exact this
  ·rw[Int.max_eq_right (of_decide_eq_true e2)];exact this
 |J+3,h=>exact nf h
theorem zL4 (G:Gd ρ g) (hv:HV ρ hs) {n:Nat} {args:List SAV} {k:KV} {K:AV->AH->Prop} (q:KO ρ k K) (h:biS g n args hs H k=true):sBi n (dVs ρ args) (dH ρ H) K:=by
 match args,h with
 |[],h=>exact nf h
 |[v],h=>exact zP9 G hv q h
 |[a,b],h=>exact zD2 G hv q h
 |J::J2::J3::J4,h=>exact nf h
theorem qS5 (s:List Nat):∀(l:List (List Nat×SAV)),dD ρ (wL2 s l)=(dD ρ l).filter fun e=>!eqL e.1 s:=@fun ξ=>match @ξ with
 |[]=>rfl
 |(a,v)::r=>by
  show dD ρ (match eqL a s with|true=>wL2 s r|false=>(a,v)::wL2 s r)=List.filter _ ((a,dV ρ v)::dD ρ r)
  rw[List.filter_cons]
  cases e:eqL a s with
  |true=>exact qS5 s r
  |false=>exact congrArg ((a,dV ρ v)::·) (qS5 s r)
end
end Mine
end
section
namespace Mine
section
variable {ρ:Rho} {g:Gx} {H:SH} {hs:Fx}
set_option tactic.hygienic true in
theorem xJ0 {v:SAV} {c:Nat} (h:zV7 v=some c):v=.str [c]:=by
 cases v<;>first|injection h|skip
 rename_i t
 match t,h with
 |[],h=>injection h
 |[c],h=>obtain rfl:=Option.some.inj h;rfl
 |J::J2::J3,h=>injection h
theorem zV9 {v:SAV} {i:Int} (h:yX7 v=some i):v=.int (.c i):=by
 cases v<;>first|injection h|skip
 rw[qJ2 h]
set_option tactic.hygienic true in
theorem zT6 (hv:HV ρ hs) {a:Nat} {s:List Nat} {args:List SAV} {k:KV} {K:AV->AH->Prop} (q:KO ρ k K) (h:bmT a s args hs H k=true):sBm a (.str s) (dVs ρ args) (dH ρ H) K:=by
 match args,h with
 |[],h=>exact nf h
 |J::J2::J3::J4,h=>exact nf h
 |[v],h=>
  have h':(match Nat.beq a qM2,zV7 v with|true,some c=>k hs (.int (.c (wQ7 c s))) H|J,J2=>false)=true:=h
  cases e:Nat.beq a qM2<;>rw[e]at h'<;>first|exact nf h'|skip
  cases e2:zV7 v<;>rw[e2]at h'<;>first|exact nf h'|skip
  rw[xJ0 e2]
  show (match Nat.beq a qM2 with|true=>K (.int (wQ7 _ s)) _|false=>False)
  rw[e]
  exact q _ _ _ hv h'
 |[v,w],h=>
  have h':(match Nat.beq a qF4,zV7 v,yX7 w with
   |true,some c,some i=>k hs (.int (.c (xK8 c s i))) H
   |J,J2,J3=>false)=true:=h
  cases e1:Nat.beq a qF4<;>rw[e1]at h'<;>first|exact nf h'|skip
  cases e2:zV7 v<;>rw[e2]at h'<;>first|exact nf h'|skip
  cases e3:yX7 w<;>rw[e3]at h'<;>first|exact nf h'|skip
  rename_i c i
  rw[xJ0 e2,zV9 e3]
  show (match Nat.beq a qF4 with|true=>K (.int (xK8 c s i)) _|false=>False)
  rw[e1]
  exact q _ _ _ hv h'
set_option tactic.hygienic true in
theorem zX4 (G:Gd ρ g) (hv:HV ρ hs) {a:Nat} {o:SAV} {s:List Nat} {k:KV} {K:AV->AH->Prop} (q:KO ρ k K) (h:yW5 g a o s hs H k=true):sBm a (dV ρ o) [.str s] (dH ρ H) K:=by
 unfold yW5 at h
 cases e0:isO o<;>rw[e0]at h<;>first|exact nf h|skip
 cases e1:Nat.beq a qZ9<;>rw[e1]at h<;>dsimp only at h
 ·cases e2:Nat.beq a qU1<;>rw[e2]at h<;>first|exact nf h|skip
  cases e:oz g H o<;>rw[e]at h<;>first|exact nf h|skip
  obtain ⟨j,e3,e4,e5⟩:=qF3 G e0 e (qQ3 rfl)
  rename_i es
  dsimp only at h
  cases e6:lkD es s<;>rw[e6]at h<;>first|exact nf h|skip
  have:=q _ _ _ hv h
  rw[e5]at this
  rw[e3]
  show bm1 _ _ _ _ _
  unfold bm1
  rw[e4]
  show (match Nat.beq a qU1 with|true=>(match lkS (dD ρ es) s with|some u=>K u (qX7 (dH ρ H) j (.sd ((dD ρ es).filter fun e=>!eqL e.1 s)))|none=>False)|false=>False)
  rw[e2,wQ1,e6,<-qS5]
  exact this
 ·cases e:oz g H o<;>rw[e]at h<;>first|exact nf h|skip
  all_goals
   obtain ⟨j,e3,e4,e5⟩:=qF3 G e0 e (qQ3 rfl)
   dsimp only at h
  ·rename_i l
   cases e6:isK l<;>rw[e6]at h<;>first|exact nf h|skip
   have:=q _ _ _ hv h
   rw[e5]at this
   rw[qJ2 e6]at e4
   rw[e3]
   show bm1 _ _ _ _ _
   unfold bm1
   rw[e4]
   show (match Nat.beq a qZ9 with|true=>K .none (qX7 (dH ρ H) j (mkL [.str s]))|false=>False)
   rw[e1]
   exact this
  ·rename_i xs
   cases e6:Nat.ble xs.length 100<;>rw[e6]at h<;>first|exact nf h|skip
   have:=q _ _ _ hv h
   rw[e5]at this
   rw[e3]
   show bm1 _ _ _ _ _
   unfold bm1
   rw[e4]
   show (match Nat.beq a qZ9 with|true=>(dVs ρ xs).length<=100/\K .none (qX7 (dH ρ H) j (.vl (dVs ρ xs++[.str s])))|false=>False)
   rw[e1,qE6,show dVs ρ xs++[.str s]=dVs ρ (xs++[.str s]) from (wJ8 (ρ:=ρ) xs [.str s]).symm]
   exact ⟨Nat.le_of_ble_eq_true e6,this⟩
set_option tactic.hygienic true in
theorem zR2 (G:Gd ρ g) (hv:HV ρ hs) {a:Nat} {o:SAV} {args:List SAV} {k:KV} {K:AV->AH->Prop} (q:KO ρ k K) (h:bmO g a o args hs H k=true):sBm a (dV ρ o) (dVs ρ args) (dH ρ H) K:=by
 match args,h with
 |[],h=>exact nf h
 |J::J2::J3::J4,h=>exact nf h
 |[v],h=>
  have h':(match wL9 v with|some s=>yW5 g a o s hs H k|none=>false)=true:=h
  cases e:wL9 v<;>rw[e]at h'<;>first|exact nf h'|skip
  rw[qR0 e]
  exact zX4 G hv q h'
 |[v,w],h=>
  have h':(match Nat.beq a xI7,wL9 v,wT0 w,oz g H o with
   |true,some s,true,.sd es=>k hs (match lkD es s with|some u=>u|none=>.none) H
   |J,J2,J3,J4=>false)=true:=h
  cases e1:Nat.beq a xI7<;>rw[e1]at h'<;>first|exact nf h'|skip
  cases e2:wL9 v<;>rw[e2]at h'<;>first|exact nf h'|skip
  cases e3:wT0 w<;>rw[e3]at h'<;>first|exact nf h'|skip
  cases e:oz g H o<;>rw[e]at h'<;>first|exact nf h'|skip
  rename_i s es
  obtain ⟨j,e4,e5⟩:=qX5 G e (qQ3 rfl)
  have:=q _ _ _ hv h'
  rw[qR0 e2,qH6 e3]
  show sBm a (dV ρ o) [.str s,.none] _ _
  rw[e4]
  show (match Nat.beq a xI7 with|true=>(match qQ0 (dH ρ H) j with|.sd es=>K (match lkS es s with|some u=>u|none=>.none) _|_=>False)|false=>False)
  rw[e1,e5]
  show K (match lkS (dD ρ es) s with|some u=>u|none=>.none) _
  rw[wQ1]
  cases e6:lkD es s<;>rw[e6]at this<;>exact this
theorem xN4 (G:Gd ρ g) (hv:HV ρ hs) {a:Nat} {o:SAV} {args:List SAV} {k:KV} {K:AV->AH->Prop} (q:KO ρ k K) (h:bmS g a o args hs H k=true):sBm a (dV ρ o) (dVs ρ args) (dH ρ H) K:=by
 cases o with
 |str s=>exact zT6 hv q h
 |_=>exact zR2 G hv q h
theorem xN8 (G:Gd ρ g) {v:SAV} (h:kdS g v H≠0):qA4 (dV ρ v) (dH ρ H)=kdS g v H:=by
 have two:(match oz g H v with|.il J=>1|.vl J=>1|.sd J=>2|_=>0)≠0->qA4 (dV ρ v) (dH ρ H)=(match oz g H v with|.il J=>1|.vl J=>1|.sd J=>2|_=>0):=fun h=>by
  cases e:oz g H v<;>rw[e]at h<;>first|exact absurd rfl h|skip
  all_goals
   obtain ⟨j,e1,e2⟩:=qX5 G e (qQ3 rfl)
   rw[e1]
   simp only[qA4,e2,dO]
 cases v with
 |str s=>rfl
 |_=>exact two h
theorem qG4 (lc:qX0):∀(ys:List Nat),qD6 (dF ρ lc) ys=dF ρ (qD0 lc ys):=@fun ξ=>match @ξ with
 |[]=>rfl
 |y::r=>by
  show (match lk (dF ρ lc) y with|some v=>(y,v)::qD6 (dF ρ lc) r|none=>qD6 (dF ρ lc) r)=dF ρ (match lkF lc y with|some v=>(y,v)::qD0 lc r|none=>qD0 lc r)
  rw[qY0,qG4 lc r]
  cases lkF lc y<;>rfl
theorem wZ8:∀(xs:List SAV) (i:Nat),qU0 (dVs ρ xs) i=(zQ4 xs i).map (dV ρ):=@fun ξ ξ2=>match @ξ,@ξ2 with
 |[],J=>rfl
 |J::J2,0=>rfl
 |J::r,i+1=>wZ8 r i
theorem wT6:∀(xs:List (List Nat×SAV)) (i:Nat),qU0 (dD ρ xs) i=(yX1 xs i).map fun e=>(e.1,dV ρ e.2):=@fun ξ ξ2=>match @ξ,@ξ2 with
 |[],J=>rfl
 |J::J2,0=>rfl
 |J::r,i+1=>wT6 r i
noncomputable abbrev NxO (ρ:Rho) (nx:Nx) (next:Nat->AH->Option (Option AV)):Prop:=∀{i hs H k} {P:Prop},HV ρ hs->(∀ hs' o,HV ρ hs'->next i (dH ρ H)=some (o.map (dV ρ))->k hs' o=true->P)->nx i hs H k=true->P
theorem zH3 (G:Gd ρ g) (m:E):NxO ρ (nxR g m) (wX5 (dI ρ m)):=fun {i hs H k P} hv q h=>by
 refine qD1 G hv (fun hs' hv' h=>?_) h
 refine q hs' _ hv' ?_ h
 have e:dC ρ (sc 0 (.c i) m)=decide ((i:Int)<dI ρ m):=rfl
 rw[e]
 unfold wX5
 cases decide ((i:Int)<dI ρ m)<;>rfl
theorem zG4 (G:Gd ρ g) {v:SAV} {j:Nat} (e1:dV ρ v=.obj j):NxO ρ (nxT g v) (wK3 j):=fun {i hs H k P} hv q h=>by
 have h':(match oz g H v with|.tp xs=>k hs (zQ4 xs i)|_=>false)=true:=h
 cases e:oz g H v<;>rw[e]at h'<;>first|exact nf h'|skip
 obtain ⟨j',e3,e4⟩:=qX5 G e (qQ3 rfl)
 rw[e1]at e3
 (injection e3 with e3;subst e3)
 refine q hs _ hv ?_ h'
 unfold wK3
 rw[e4]
 show some (qU0 (dVs ρ _) i)=_
 rw[wZ8]
theorem zE8 (es:List (List Nat×SAV)):NxO ρ (nxD es) (wZ6 (dD ρ es)):=fun {i hs H k P} hv q h=>by
 refine q hs _ hv ?_ h
 unfold wZ6
 rw[wT6]
 cases yX1 es i<;>rfl
noncomputable abbrev TO (ρ:Rho) (t:qX0->Fx->SH->KBH->Bool) (T:Loc->AH->(Bool->AH->Prop)->Prop):Prop:=∀{lc hs H k K},HV ρ hs->(∀ hs b H,HV ρ hs->k hs b H=true->K b (dH ρ H))->t lc hs H k=true->T (dF ρ lc) (dH ρ H) K
noncomputable abbrev XO (ρ:Rho) (t:qX0->Fx->SH->KV->Bool) (T:Loc->AH->(AV->AH->Prop)->Prop):Prop:=∀{lc hs H k K},HV ρ hs->KO ρ k K->t lc hs H k=true->T (dF ρ lc) (dH ρ H) K
theorem wW5 {nx:Nx} {next:Nat->AH->Option (Option AV)} {tst:qX0->Fx->SH->KBH->Bool} {T:Loc->AH->(Bool->AH->Prop)->Prop} {elt:qX0->Fx->SH->KV->Bool} {Z:Loc->AH->(AV->AH->Prop)->Prop} (n1:NxO ρ nx next) (n2:TO ρ tst T) (n3:XO ρ elt Z) (x:Nat) (lc:qX0) {k:KVs} {K:List AV->AH->Prop} (q:∀ hs vs H,HV ρ hs->k hs vs H=true->K (dVs ρ vs) (dH ρ H)) :
  ∀(n i:Nat) (acc:List SAV) (hs:Fx) (H:SH),HV ρ hs->lpC nx tst elt x lc n i acc hs H k=true->qZ7 next T Z x (dF ρ lc) n i (dVs ρ acc) (dH ρ H) K:=@fun ξ=>no_implicit_lambda%(match @ξ with
 |0=>@fun J J2 J3 J4 J5 h=>by exact nf h
 |n+1=>@fun i acc hs H hv h=>by
  refine n1 hv (fun hs' o hv' e h=>?_) h
  unfold qZ7
  rw[e]
  cases o with
  |none=>exact q _ _ _ hv' h
  |some v=>
   show T (st (dF ρ lc) x (dV ρ v)) _ _
   rw[<-qB2]
   refine n2 hv' (fun hs2 b H2 hv2 h=>?_) h
   cases b with
   |true=>
    refine n3 hv2 (fun hs3 r H3 hv3 h=>?_) h
    have:=wW5 n1 n2 n3 x lc q n (i+1) (acc++[r]) hs3 H3 hv3 h
    rw[wJ8]at this
    exact this
   |false=>exact wW5 n1 n2 n3 x lc q n (i+1) acc hs2 H2 hv2 h
 )
end
end Mine
end
section
namespace Mine
theorem yB8 {o:Option SAV} {f:SAV->Bool} (h:(match o with|some v=>f v|none=>false)=true):∃ v,o=some v/\f v=true:=by
 cases o with
 |none=>exact nf h
 |some v=>exact ⟨v,rfl,h⟩
theorem jJ3 {o:Option Int} {f:Int->Bool} (h:(match o with|some v=>f v|none=>false)=true):∃ v,o=some v/\f v=true:=by
 cases o with
 |none=>exact nf h
 |some v=>exact ⟨v,rfl,h⟩
theorem yI0 {o:Option PySem.Addr} {f:PySem.Addr->Bool} (h:(match o with|some v=>f v|none=>false)=true):∃ v,o=some v/\f v=true:=by
 cases o with
 |none=>exact nf h
 |some v=>exact ⟨v,rfl,h⟩
theorem trb {b:Bool} {f:Bool} (h:(match b with|true=>f|false=>false)=true):b=true/\f=true:=by
 cases b with
 |false=>exact nf h
 |true=>exact ⟨rfl,h⟩
theorem zF3 {o:SAO} {f:Nat->qX0->Bool} (h:(match o with|.inst c fs=>f c fs|_=>false)=true):∃ c fs,o=.inst c fs/\f c fs=true:=by
 cases o<;>first|(first|exact nf h)|exact ⟨_,_,rfl,h⟩
structure SpO (ρ:Rho) (cl:Cl) (sp:Sp):Prop where
 go:∀{f:Nat} {args:List SAV} {hs:Fx} {H:SH} {k:KV} {ke:KH} {K:AV->AH->Prop} {KE:AH->Prop},HV ρ hs->KO ρ k K->(∀ hs H,HV ρ hs->ke hs H=true->KE (dH ρ H))->cl f args hs H k ke=true->sp f (dVs ρ args) (dH ρ H) K KE
noncomputable abbrev KBO (ρ:Rho) (k:KBH) (K:Bool->AH->Prop):Prop:=∀ hs b H,HV ρ hs->k hs b H=true->K b (dH ρ H)
noncomputable abbrev KSO (ρ:Rho) (k:KVs) (K:List AV->AH->Prop):Prop:=∀ hs vs H,HV ρ hs->k hs vs H=true->K (dVs ρ vs) (dH ρ H)
section
variable {ρ:Rho} {g:Gx} {cl:Cl} {sp:Sp}
theorem yC7 {k a:Nat} (h:qS4 k a=true):k≠0:=fun e=>by subst e;exact nf h
theorem xW7 (G:Gd ρ g) {H:SH} {v:SAV} {a:Nat} {f:SAV->Bool} {F:AV->Prop} (q:∀ u,f u=true->F (dV ρ u))
  (h:(match oz g H v with|.inst c fs=>(match qJ3 (okA c) a with|true=>(match lkF fs a with|some u=>f u|none=>false)|false=>false)|_=>false)=true) :
  (match dV ρ v with|.obj k=>(match qQ0 (dH ρ H) k with|.inst c fs=>(match qJ3 (okA c) a with|true=>(match lk fs a with|some u=>F u|.none=>False)|false=>False)|_=>False)|_=>False):=by
 obtain ⟨c,fs,e,h⟩:=zF3 h
 obtain ⟨j,e1,e2⟩:=qX5 G e (qQ3 rfl)
 obtain ⟨e3,h⟩:=trb h
 obtain ⟨u,e4,h⟩:=yB8 (o:=lkF fs a) (f:=f) h
 simp only[e1,e2,dO,e3,qY0,e4,Option.map_some]
 exact q u h
theorem yY6 (G:Gd ρ g) (C:SpO ρ cl sp) {H:SH} {hs:Fx} {k:KV} {K:AV->AH->Prop} (hv:HV ρ hs) (q:KO ρ k K) {c f:Nat} {vs:List SAV} (h:cl f (nw g H::vs) hs (H++[.inst c []]) (fun hs v H'=>match v with|.none=>k hs (nw g H) H'|_=>false) (fun J J=>false)=true) :
  sp f (.obj (dH ρ H).length::dVs ρ vs) (dH ρ H++[.inst c []]) (fun v H'=>match v with|.none=>K (.obj (dH ρ H).length) H'|_=>False) fun J=>False:=by
 have:=C.go (K:=fun v H'=>match v with|.none=>K (.obj (dH ρ H).length) H'|_=>False) (KE:=fun J=>False) hv (fun hs' v H' hv' h=>by
  cases v<;>first|exact nf h|skip
  have:=q _ _ _ hv' h
  rw[xZ2 G]at this
  exact this) (fun J J J h=>by exact nf h) h
 rw[qN2,show dVs ρ (nw g H::vs)=dV ρ (nw g H)::dVs ρ vs from rfl,xZ2 G]at this
 exact this
theorem zY2 (l:List Int) (x j:Nat) (H:AH) (sp':Sp) (hH:qQ0 H j=.il l) {y:Nat} (hy:Nat.beq y x=true) (lc:Loc) {K:List AV->AH->Prop} (q:K (l.map fun i=>AV.int (if i<0 then -i else i)) H) (hl:l.length<=60) :
  qZ7 (qR4 j) (fun lc H K=>cdb sp' true .nil lc H K) (fun lc H K=>ev sp' (.bi 5 (.cons (.loc y) .nil)) lc H K) x lc 64 0 [] H K:=by
 have key:∀(n i:Nat) (acc:List AV),i+n=64->acc=(l.take i).map (fun i=>AV.int (if i<0 then -i else i))->i<=l.length->qZ7 (qR4 j) (fun lc H K=>cdb sp' true .nil lc H K) (fun lc H K=>ev sp' (.bi 5 (.cons (.loc y) .nil)) lc H K) x lc n i acc H K:=by
  intro n
  induction n with
  |zero=>intro i acc e J h;omega
  |succ n ih=>
   intro i acc e ea hi
   have nI:qR4 j i H=some (match qU0 l i with|some v=>some (.int v)|none=>none):=by unfold qR4;rw[hH]<;>rfl
   unfold qZ7
   rw[nI]
   have nth:∀(l:List Int) (i:Nat),qU0 l i=l[i]?:=by
    intro l
    induction l with
    |nil=>intro i;rfl
    |cons a l ih=>intro i;cases i with
     |zero=>rfl
     |succ i=>exact ih i
   rw[nth]
   by_cases h:i<l.length
   ·rw[List.getElem?_eq_getElem h]
    show (match lk (st lc x (.int l[i])) y with|some v=>_|.none=>False)
    rw[qA5,if_pos (qP7 hy)]
    refine ih (i+1) _ (by exact leq [_,_] [] (.nl (.a (.a (.v 0) (.c 1)) (.v 1)) (.c 64)) [(-1,.nl (.a (.v 0) (.a (.v 1) (.c 1))) (.c 64))] rfl e) ?_ h
    rw[ea,List.take_succ,List.getElem?_eq_getElem h,List.map_append]
    rfl
   ·rw[List.getElem?_eq_none (by exact Nat.not_lt.mp fun gz=>lin [_,_] [] [(1,.nl (.v 0) (.v 1)),(1,.nl (.a (.v 1) (.c 1)) (.v 0))] rfl (Nat.not_lt.mp h) gz)]
    have:i=l.length:=by exact Nat.le_antisymm (Nat.not_lt.mp fun gz=>lin [_,_] [] [(1,.nl (.v 0) (.v 1)),(1,.nl (.a (.v 1) (.c 1)) (.v 0))] rfl hi gz) (Nat.not_lt.mp fun gz=>lin [_,_] [] [(1,.nl (.v 0) (.v 1)),(1,.nl (.a (.v 1) (.c 1)) (.v 0))] rfl (Nat.not_lt.mp h) gz)
    subst this
    rw[List.take_length]at ea
    rw[ea]
    exact q
 exact key 64 0 [] rfl rfl (Nat.zero_le _)
theorem xG3:∀(l:List Int),mkL (l.map fun i=>AV.int (if i<0 then -i else i))=.il (l.map fun i=>if i<0 then -i else i):=by
 have:∀(l:List Int),qJ0 (l.map fun i=>AV.int (if i<0 then -i else i))=some (l.map fun i=>if i<0 then -i else i):=by
  intro l
  induction l with
  |nil=>rfl
  |cons a l ih=>
   show (match qJ0 (l.map fun i=>AV.int (if i<0 then -i else i)) with|some l=>some ((if a<0 then -a else a)::l)|none=>none)=_
   rw[ih];rfl
 intro l
 unfold mkL
 rw[this]
set_option tactic.hygienic true in
theorem zJ9 {x:Nat} {ifs:Xs} {elt:X} (h:zI0 x ifs elt=true):∃ y,ifs=.nil/\elt=.bi 5 (.cons (.loc y) .nil)/\Nat.beq y x=true:=by
 delta zI0 at h
 cases ifs<;>first|exact nf h|skip
 cases elt<;>first|exact nf h|skip
 rename_i n xs
 match n,h with
 |0,h=>exact nf h
 |1,h=>exact nf h
 |2,h=>exact nf h
 |3,h=>exact nf h
 |4,h=>exact nf h
 |J+6,h=>exact nf h
 |5,h=>
  cases xs<;>first|exact nf h|skip
  rename_i a xs _
  cases a<;>first|exact nf h|skip
  cases xs<;>first|exact nf h|exact ⟨_,rfl,rfl,h⟩
noncomputable abbrev ASO (ρ:Rho) (g:Gx) (cl:Cl) (sp:Sp) (args:Xs) (lc:qX0) (hs:Fx) (H:SH):Prop:=∀{k:KVs} {K:List AV->AH->Prop},KSO ρ k K->qG1 g cl args lc hs H k=true->evs sp args (dF ρ lc) (dH ρ H) K
theorem wA0 (C:SpO ρ cl sp) {args:Xs} {lc:qX0} {hs:Fx} {H:SH} (AS:ASO ρ g cl sp args lc hs H) {v:SAV} {j c a:Nat} {fs:qX0} {k:KV} {K:AV->AH->Prop} (q:KO ρ k K) (e1:dV ρ v=.obj j)
  (h:(match mt c a,lkF fs a with|some f,none=>qG1 g cl args lc hs H fun hs vs H=>cl f (v::vs) hs H k fun J J=>false|J,J2=>false)=true) :
  (match mt c a,lk (dF ρ fs) a with|some f,.none=>evs sp args (dF ρ lc) (dH ρ H) fun vs H=>sp f (.obj j::vs) H K fun J=>False|J,J2=>False):=by
 rw[qY0]
 cases e3:mt c a<;>rw[e3]at h<;>first|exact nf h|skip
 cases e4:lkF fs a<;>rw[e4]at h<;>first|exact nf h|skip
 exact AS (fun J vs J hv h=>by
  have:=C.go (args:=v::vs) hv q (KE:=fun J=>False) (fun J J J h=>by exact nf h) h
  rw[<-e1]
  exact this) h
theorem wF6 (G:Gd ρ g) {args:Xs} {lc:qX0} {hs:Fx} {H:SH} (AS:ASO ρ g cl sp args lc hs H) {v:SAV} {a:Nat} {k:KV} {K:AV->AH->Prop} (q:KO ρ k K)
  (h:(match qS4 (kdS g v H) a with|true=>qG1 g cl args lc hs H (fun hs vs H'=>match Nat.beq (kdS g v H) (kdS g v H') with|true=>bmS g a v vs hs H' k|false=>false)|false=>false)=true) :
  (match dV ρ v with
  |.obj k=>match qQ0 (dH ρ H) k with
   |.inst c fs=>match mt c a,lk fs a with
    |some f,.none=>evs sp args (dF ρ lc) (dH ρ H) fun vs H=>sp f (.obj k::vs) H K fun J=>False
    |J,J2=>False
   |.gp J=>match mt 3 a with
    |some f=>evs sp args (dF ρ lc) (dH ρ H) fun vs H=>sp f (.obj k::vs) H K fun J=>False
    |_=>False
   |_=>match qS4 (qA4 (dV ρ v) (dH ρ H)) a with
    |true=>evs sp args (dF ρ lc) (dH ρ H) fun vs H'=>match Nat.beq (qA4 (dV ρ v) (dH ρ H)) (qA4 (dV ρ v) H') with|true=>sBm a (dV ρ v) vs H' K|false=>False
    |false=>False
  |.str J=>match qS4 3 a with|true=>evs sp args (dF ρ lc) (dH ρ H) fun vs H=>sBm a (dV ρ v) vs H K|false=>False
  |_=>False):=by
 obtain ⟨e1,h⟩:=trb h
 have k0:=yC7 e1
 have kk:=xN8 (ρ:=ρ) G k0
 have qX9:(evs sp args (dF ρ lc) (dH ρ H) fun vs H'=>match Nat.beq (qA4 (dV ρ v) (dH ρ H)) (qA4 (dV ρ v) H') with|true=>sBm a (dV ρ v) vs H' K|false=>False):=AS (fun hs' vs H' hv' h=>by
  obtain ⟨e2,h⟩:=trb (b:=Nat.beq (kdS g v H) (kdS g v H')) (f:=bmS g a v vs hs' H' k) h
  have e3:kdS g v H=kdS g v H':=qP7 e2
  rw[kk,xN8 G (e3▸k0),e2]
  exact xN4 G hv' q h) h
 cases v with
 |str s=>
  show (match qS4 3 a with|true=>_|false=>False)
  rw[show qS4 3 a=true from e1]
  exact AS (fun hs' vs H' hv' h=>by
   obtain ⟨e2,h⟩:=trb (b:=Nat.beq (kdS g (.str s) H) (kdS g (.str s) H')) (f:=bmS g a (.str s) vs hs' H' k) h
   exact xN4 G hv' q h) h
 |obj n=>
  have k1:(match oz g H (.obj n) with|.il J=>1|.vl J=>1|.sd J=>2|_=>0)≠0:=k0
  show (match qQ0 (dH ρ H) n with
   |.inst c fs=>_|.gp J=>_
   |_=>match qS4 (qA4 (.obj n) (dH ρ H)) a with|true=>_|false=>False)
  rw[show qA4 (.obj n) (dH ρ H)=_ from kk,e1]
  cases e:oz g H (.obj n)<;>rw[e]at k1<;>first|exact absurd rfl k1|skip
  all_goals
   obtain ⟨j,e2,e3⟩:=qX5 G e (qQ3 rfl)
   (injection e2 with e2;subst e2)
   rw[e3]
   exact (show qA4 (.obj n) (dH ρ H)=_ from kk)▸qX9
 |pl n=>
  have k1:(match oz g H (.pl n) with|.il J=>1|.vl J=>1|.sd J=>2|_=>0)≠0:=k0
  show (match qQ0 (dH ρ H) (ρ.h n) with
   |.inst c fs=>_|.gp J=>_
   |_=>match qS4 (qA4 (.obj (ρ.h n)) (dH ρ H)) a with|true=>_|false=>False)
  rw[show qA4 (.obj (ρ.h n)) (dH ρ H)=_ from kk,e1]
  cases e:oz g H (.pl n)<;>rw[e]at k1<;>first|exact absurd rfl k1|skip
  all_goals
   obtain ⟨j,e2,e3⟩:=qX5 G e (qQ3 rfl)
   (injection e2 with e2;subst e2)
   rw[e3]
   exact (show qA4 (.obj (ρ.h n)) (dH ρ H)=_ from kk)▸qX9
 |_=>exact absurd rfl k0
set_option tactic.hygienic true in
mutual
theorem qW2 (G:Gd ρ g) (C:SpO ρ cl sp):∀(x:X) {lc:qX0} {hs:Fx} {H:SH} {k:KV} {K:AV->AH->Prop},HV ρ hs->KO ρ k K->sev g cl x lc hs H k=true->ev sp x (dF ρ lc) (dH ρ H) K:=@fun ξ=>no_implicit_lambda%(match @ξ with
 |.bad=>@fun J J2 J3 J4 J5 J6 J7 h=>by exact nf h
 |.none=>@fun J J2 J3 J4 J5 hv q h=>q _ _ _ hv h
 |.bool J=>@fun J2 J3 J4 J5 J6 hv q h=>q _ _ _ hv h
 |.int i=>@fun J J2 J3 J4 J5 hv q h=>q _ _ _ hv h
 |.str J=>@fun J2 J3 J4 J5 J6 hv q h=>q _ _ _ hv h
 |.loc x=>@fun lc hs H k K hv q h=>by
  obtain ⟨v,e,h⟩:=yB8 (o:=lkF lc x) (f:=fun v=>k hs v H) h
  show (match lk (dF ρ lc) x with|some v=>K v (dH ρ H)|.none=>False)
  rw[qY0,e]
  exact q _ _ _ hv h
 |.glob n=>@fun lc hs H k K hv q h=>by
  obtain ⟨i,e,h⟩:=jJ3 (o:=qW8 gcT n) (f:=fun i=>k hs (.int (.c i)) H) h
  show (match qW8 gcT n with|some i=>K (.int i) (dH ρ H)|.none=>False)
  rw[e]
  exact q _ _ _ hv h
 |.attr o a=>@fun lc hs H k K hv q h=>qW2 G C o hv (fun hs' v H' hv' h=>xW7 G (f:=fun u=>k hs' u H') (F:=fun u=>K u (dH ρ H')) (fun u h=>q _ _ _ hv' h) h) h
 |.bin op a b=>@fun lc hs H k K hv q h=>qW2 G C a hv (fun J va J hv h=>qW2 G C b hv (fun J vb J hv h=>zQ0 G hv q h) h) h
 |.neg a=>@fun lc hs H k K hv q h=>qW2 G C a hv (fun J v J hv h=>by
   cases v<;>first|exact nf h|skip
   have:=q _ _ _ hv h
   show K (.int (-_)) _
   rw[<-wC9]
   exact this) h
 |.not a=>@fun lc hs H k K hv q h=>qW2 G C a hv (fun J v J hv h=>qC3 G hv (fun hs' b hv' e h=>by rw[e];exact q _ _ _ hv' h) h) h
 |.and xs=>@fun J J2 J3 J4 J5 hv q h=>qT5 G C true xs hv q h
 |.or xs=>@fun J J2 J3 J4 J5 hv q h=>qT5 G C false xs hv q h
 |.cmp op a b=>@fun lc hs H k K hv q h=>qW2 G C a hv (fun J va J hv h=>qW2 G C b hv (fun J vb J hv h=>wT2 G hv (K:=fun t H=>K (.bool t) H) (fun J t hv h=>q _ (.bool t) _ hv h) h) h) h
 |.ite c a b=>@fun lc hs H k K hv q h=>wQ6 G C c hv (fun J t J hv h=>by
   cases t with
   |true=>exact qW2 G C a hv q h
   |false=>exact qW2 G C b hv q h) h
 |.call n args=>@fun lc hs H k K hv q h=>by
  obtain ⟨f,e,h⟩:=yI0 (o:=qW8 gfT n) (f:=fun f=>qG1 g cl args lc hs H fun hs vs H=>cl f vs hs H k fun J J=>false) h
  show (match qW8 gfT n with|some f=>evs sp args (dF ρ lc) (dH ρ H) fun vs H=>sp f vs H K fun J=>False|.none=>False)
  rw[e]
  exact qJ9 G C args hv (fun J vs J hv h=>C.go hv q (fun J J J h=>by exact nf h) h) h
 |.mk n args=>@fun lc hs H k K hv q h=>by
  have h':(match qW8 clT n with|some (c,f)=>qG1 g cl args lc hs H fun hs vs H=>cl f (nw g H::vs) hs (H++[.inst c []]) (fun hs v H'=>match v with|.none=>k hs (nw g H) H'|_=>false) fun J J=>false|.none=>false)=true:=h
  show (match qW8 clT n with|some (c,f)=>evs sp args (dF ρ lc) (dH ρ H) fun vs H=>sp f (.obj H.length::vs) (H++[.inst c []]) (fun v H'=>match v with|.none=>K (.obj H.length) H'|_=>False) fun J=>False|.none=>False)
  cases e:qW8 clT n with
  |none=>rw[e]at h';exact nf h'
  |some p=>
   obtain ⟨c,f⟩:=p
   rw[e]at h'
   exact qJ9 G C args hv (fun J vs J hv h=>yY6 (c:=c) (f:=f) G C hv q h) h'
 |.bi n args=>@fun lc hs H k K hv q h=>qJ9 G C args hv (fun J vs J hv h=>zL4 G hv q h) h
 |.meth o a args=>@fun lc hs H k K hv q h=>qW2 G C o hv (fun hs v H hv h=>by
   have AS:ASO ρ g cl sp args lc hs H:=fun q h=>qJ9 G C args hv q h
   have h':(match isO v,oz g H v with
    |true,.inst c fs=>(match mt c a,lkF fs a with|some f,none=>qG1 g cl args lc hs H fun hs vs H=>cl f (v::vs) hs H k fun J J=>false|J,J2=>false)
    |true,.gp J=>(match mt 3 a with|some f=>qG1 g cl args lc hs H fun hs vs H=>cl f (v::vs) hs H k fun J J=>false|_=>false)
    |J,J2=>(match qS4 (kdS g v H) a with|true=>qG1 g cl args lc hs H (fun hs vs H'=>match Nat.beq (kdS g v H) (kdS g v H') with|true=>bmS g a v vs hs H' k|false=>false)|false=>false))=true:=h
   cases e0:isO v<;>rw[e0]at h'
   ·exact wF6 G AS q h'
   ·cases e:oz g H v<;>rw[e]at h'<;>first|exact wF6 G AS q h'|skip
    all_goals
     obtain ⟨j,e1,e2⟩:=qX5 G e (qQ3 rfl)
     show (match dV ρ v with
      |.obj k=>match qQ0 (dH ρ H) k with
       |.inst c fs=>_
       |.gp J=>_
       |_=>_
      |.str J=>_
      |_=>False)
     rw[e1]
     show (match qQ0 (dH ρ H) j with
       |.inst c fs=>_
       |.gp J=>_
       |_=>_)
     rw[e2]
    ·rename_i c fs
     exact wA0 (g:=g) (cl:=cl) (args:=args) (lc:=lc) (hs:=hs) (H:=H) (a:=a) (c:=c) (fs:=fs) C AS q e1 h'
    ·show (match mt 3 a with|some f=>_|_=>False)
     cases e3:mt 3 a<;>rw[e3]at h'<;>first|exact nf h'|skip
     exact AS (fun J vs J hv h=>by
      have:=C.go (args:=v::vs) hv q (KE:=fun J=>False) (fun J J J h=>by exact nf h) h
      rw[<-e1]
      exact this) h') h
 |.sub o i=>@fun lc hs H k K hv q h=>qW2 G C o hv (fun J v J hv h=>qW2 G C i hv (fun hs u H hv h=>wM1 G hv (K:=fun r=>K r (dH ρ H)) (fun J r hv h=>q _ _ _ hv h) h) h) h
 |.slice o lo hi=>@fun lc hs H k K hv q h=>qW2 G C o hv (fun J v J hv h=>qW2 G C lo hv (fun J a J hv h=>qW2 G C hi hv (fun J b J hv h=>xK0 G hv q h) h) h) h
 |.list args=>@fun lc hs H k K hv q h=>qJ9 G C args hv (fun J vs J hv h=>by
   have:=qK2 G q hv h
   rw[<-wB5]at this
   exact this) h
 |.tup args=>@fun lc hs H k K hv q h=>qJ9 G C args hv (fun J vs J hv h=>qK2 G q hv h) h
 |.dict ks args=>@fun lc hs H k K hv q h=>by
  obtain ⟨e0,h⟩:=trb h
  show (match qN3 ks with|true=>evs sp args (dF ρ lc) (dH ρ H++[.sd []]) _|false=>False)
  rw[e0,show dH ρ H++[AO.sd []]=dH ρ (H++[.sd []]) from (qN2 H (.sd [])).symm]
  refine qJ9 G C args hv (fun hs' vs H' hv' h=>?_) h
  have h':(match oz g H' (nw g H),Nat.beq vs.length ks.length with|.sd [],true=>k hs' (nw g H) (pt g H' (nw g H) (.sd (yZ4 ks vs)))|J,J2=>false)=true:=h
  cases e:oz g H' (nw g H)<;>rw[e]at h'<;>first|exact nf h'|skip
  rename_i es
  cases es with
  |cons J J2=>exact nf h'
  |nil=>
   cases e1:Nat.beq vs.length ks.length<;>rw[e1]at h'<;>first|exact nf h'|skip
   obtain ⟨j,e2,e3,e4⟩:=qF3 G rfl e (qQ3 rfl)
   have:=q _ _ _ hv' h'
   rw[xZ2 G]at e2 this
   (injection e2 with e2;subst e2)
   rw[e4]at this
   show (match qQ0 (dH ρ H') (dH ρ H).length,Nat.beq (dVs ρ vs).length ks.length with|.sd [],true=>K (.obj (dH ρ H).length) (qX7 (dH ρ H') (dH ρ H).length (.sd (ks.zip (dVs ρ vs))))|J,J2=>False)
   rw[e3,qE6,e1,<-wT5]
   exact this
 |.comp rng x fv src ifs elt=>@fun lc hs H k K hv q h=>qW2 G C src hv (fun hs v H hv h=>by
   have n2:TO ρ (fun lc hs H k=>wL6 g cl true ifs lc hs H k) (fun lc H K=>cdb sp true ifs lc H K):=fun hv q h=>qH9 G C true ifs hv q h
   have n3:XO ρ (fun lc hs H k=>sev g cl elt lc hs H k) (fun lc H K=>ev sp elt lc H K):=fun hv q h=>qW2 G C elt hv q h
   cases rng with
   |true=>
    cases v<;>first|exact nf h|skip
    rename_i m
    have h':nd g hs (sc 1 (.c 0) m) (fun hs=>nd g hs (sc 1 m (.c 1000)) fun hs=>lpC (nxR g m) (fun lc hs H k=>wL6 g cl true ifs lc hs H k) (fun lc hs H k=>sev g cl elt lc hs H k) x (qD0 lc fv) 64 0 [] hs H fun hs vs H=>k hs (nw g H) (H++[mkO vs]))=true:=h
    refine qK0 G hv ?_ h'
    intro c1 h
    refine qK0 G hv ?_ h
    intro c2 h
    refine ⟨of_decide_eq_true c1,of_decide_eq_true c2,?_⟩
    rw[qG4]
    refine wW5 (zH3 G m) n2 n3 x (qD0 lc fv) (fun hs' vs H' hv' h=>?_) 64 0 [] hs H hv h
    have:=qK2 G q hv' h
    rw[<-wB5]at this
    exact this
   |false=>
    have h':(match oz g H v with
     |.sd es=>lpC (nxD es) (fun lc hs H k=>wL6 g cl true ifs lc hs H k) (fun lc hs H k=>sev g cl elt lc hs H k) x (qD0 lc fv) 64 0 [] hs (pt g H v (.fd es)) fun hs vs H=>(match oz g H v with
      |.fd J=>k hs (nw g (pt g H v (.sd es))) (pt g H v (.sd es)++[mkO vs])
      |_=>false)
     |.il xs=>(match zI0 x ifs elt,qB9 xs 60 with
      |true,true=>k hs (nw g H) (H++[.il (.u .abs xs)])
      |J,J2=>false)
     |.tp J=>lpC (nxT g v) (fun lc hs H k=>wL6 g cl true ifs lc hs H k) (fun lc hs H k=>sev g cl elt lc hs H k) x (qD0 lc fv) 64 0 [] hs H fun hs vs H=>k hs (nw g H) (H++[mkO vs])
     |_=>false)=true:=h
    have goal:(∃ j,dV ρ v=.obj j/\(match qQ0 (dH ρ H) j with
     |.sd es=>qZ7 (wZ6 es) (fun lc H K=>cdb sp true ifs lc H K) (fun lc H K=>ev sp elt lc H K) x (qD6 (dF ρ lc) fv) 64 0 [] (qX7 (dH ρ H) j (.fd es)) fun vs H=>(match qQ0 H j with
      |.fd J=>K (.obj H.length) (qX7 H j (.sd es)++[mkL vs])
      |_=>False)
     |.il J=>qZ7 (qR4 j) (fun lc H K=>cdb sp true ifs lc H K) (fun lc H K=>ev sp elt lc H K) x (qD6 (dF ρ lc) fv) 64 0 [] (dH ρ H) fun vs H=>K (.obj H.length) (H++[mkL vs])
     |.tp J=>qZ7 (wK3 j) (fun lc H K=>cdb sp true ifs lc H K) (fun lc H K=>ev sp elt lc H K) x (qD6 (dF ρ lc) fv) 64 0 [] (dH ρ H) fun vs H=>K (.obj H.length) (H++[mkL vs])
     |_=>False)):=by
     cases e:oz g H v<;>rw[e]at h'<;>first|exact nf h'|skip
     all_goals obtain ⟨j,e1,e2⟩:=qX5 G e (qQ3 rfl)
     all_goals refine ⟨j,e1,?_⟩
     all_goals rw[e2]
     ·rename_i xs
      dsimp only at h'
      cases e3:zI0 x ifs elt<;>rw[e3]at h'<;>first|exact nf h'|skip
      cases e4:qB9 xs 60<;>rw[e4]at h'<;>first|exact nf h'|skip
      obtain ⟨y,rfl,rfl,hy⟩:=zJ9 e3
      refine zY2 (dL ρ xs) x j (dH ρ H) sp e2 hy _ ?_ (qC2 G e4)
      have:=qK2 G q hv h'
      rw[xG3]
      exact this
     ·show qZ7 _ _ _ _ (qD6 (dF ρ lc) fv) _ _ _ _ _
      rw[qG4]
      refine wW5 (zG4 G e1) n2 n3 x (qD0 lc fv) (fun hs' vs H' hv' h=>?_) 64 0 [] hs H hv h'
      have:=qK2 G q hv' h
      rw[<-wB5]at this
      exact this
     ·rename_i es
      have hi:isO v=true:=by cases v<;>first|rfl|(unfold oz at e;dsimp only at e;split at e<;>injection e)|injection e
      obtain ⟨j',e3,e4,e5⟩:=qF3 (ρ:=ρ) G hi e (qQ3 rfl)
      rw[e1]at e3
      (injection e3 with e3;subst e3)
      show qZ7 _ _ _ _ (qD6 (dF ρ lc) fv) _ _ _ (qX7 (dH ρ H) j (dO ρ (.fd es))) _
      rw[qG4,<-e5]
      refine wW5 (zE8 es) n2 n3 x (qD0 lc fv) (fun hs' vs H' hv' h=>?_) 64 0 [] hs _ hv h'
      cases e6:oz g H' v<;>rw[e6]at h<;>first|exact nf h|skip
      obtain ⟨j',e7,e8,e9⟩:=qF3 (ρ:=ρ) G hi e6 (qQ3 rfl)
      rw[e1]at e7
      (injection e7 with e7;subst e7)
      have:=qK2 G q hv' h
      rw[<-wB5,e9,qP3]at this
      rw[e8]
      exact this
    obtain ⟨j,e1,e2⟩:=goal
    show (match false,dV ρ v with|true,.int m=>_|false,.obj k=>_|J,J2=>False)
    rw[e1]
    exact e2) h
 )
theorem qJ9 (G:Gd ρ g) (C:SpO ρ cl sp):∀(xs:Xs) {lc:qX0} {hs:Fx} {H:SH} {k:KVs} {K:List AV->AH->Prop},HV ρ hs->KSO ρ k K->qG1 g cl xs lc hs H k=true->evs sp xs (dF ρ lc) (dH ρ H) K:=@fun ξ=>no_implicit_lambda%(match @ξ with
 |.nil=>@fun J J2 J3 J4 J5 hv q h=>q _ _ _ hv h
 |.cons x xs=>@fun J J2 J3 J4 J5 hv q h=>qW2 G C x hv (fun J v J hv h=>qJ9 G C xs hv (fun J vs J hv h=>q _ (v::vs) _ hv h) h) h
 )
theorem qT5 (G:Gd ρ g) (C:SpO ρ cl sp) (w:Bool):∀(xs:Xs) {lc:qX0} {hs:Fx} {H:SH} {k:KV} {K:AV->AH->Prop},HV ρ hs->KO ρ k K->zG7 g cl w xs lc hs H k=true->evb sp w xs (dF ρ lc) (dH ρ H) K:=@fun ξ=>no_implicit_lambda%(match @ξ with
 |.nil=>@fun J J2 J3 J4 J5 J6 J7 h=>by exact nf h
 |.cons x .nil=>@fun J J2 J3 J4 J5 hv q h=>qW2 G C x hv q h
 |.cons x (.cons y ys)=>@fun J J2 J3 J4 J5 hv q h=>qW2 G C x hv (fun J v J hv h=>qC3 G hv (fun hs' t hv' e h=>by
   rw[e]
   cases w<;>cases t
   ·exact qT5 G C false (.cons y ys) hv' q h
   ·exact q _ _ _ hv' h
   ·exact q _ _ _ hv' h
   ·exact qT5 G C true (.cons y ys) hv' q h) h) h
 )
theorem wQ6 (G:Gd ρ g) (C:SpO ρ cl sp):∀(x:X) {lc:qX0} {hs:Fx} {H:SH} {k:KBH} {K:Bool->AH->Prop},HV ρ hs->KBO ρ k K->scd g cl x lc hs H k=true->cd sp x (dF ρ lc) (dH ρ H) K:=@fun ξ ξ2 ξ3 ξ4 ξ5 ξ6 ξ7 ξ8 ξ9=>match @ξ,@ξ2,@ξ3,@ξ4,@ξ5,@ξ6,@ξ7,@ξ8,@ξ9 with
 |.not a,lc,hs,H,k,K,hv,q,h=>wQ6 G C a hv (fun J b J hv h=>q _ _ _ hv h) h
 |.and xs,J,J2,J3,J4,J5,hv,q,h=>qH9 G C true xs hv q h
 |.or xs,J,J2,J3,J4,J5,hv,q,h=>qH9 G C false xs hv q h
 |.cmp op a b,lc,hs,H,k,K,hv,q,h=>qW2 G C a hv (fun J va J hv h=>qW2 G C b hv (fun J vb J hv h=>wT2 G hv (K:=K) (fun J t hv h=>q _ _ _ hv h) h) h) h
 |.bool b,J,J2,J3,J4,J5,hv,q,h=>q _ _ _ hv h
 |.loc x,lc,hs,H,k,K,hv,q,h=>by
  obtain ⟨v,e,h⟩:=yB8 (o:=lkF lc x) (f:=fun v=>tru g hs v fun hs b=>k hs b H) h
  show (match lk (dF ρ lc) x with|some v=>qA8 v fun b=>K b (dH ρ H)|.none=>False)
  rw[qY0,e]
  exact qC3 G hv (fun hs' b hv' e h=>by show qA8 (dV ρ v) _;rw[e];exact q _ _ _ hv' h) h
 |.attr o a,lc,hs,H,k,K,hv,q,h=>qW2 G C o hv (fun hs' v H' hv' h=>xW7 G (f:=fun u=>tru g hs' u fun hs b=>k hs b H') (F:=fun u=>qA8 u fun b=>K b (dH ρ H')) (fun u h=>qC3 G hv' (fun hs' b hv' e h=>by rw[e];exact q _ _ _ hv' h) h) h) h
 |.call n args,lc,hs,H,k,K,hv,q,h=>by
  obtain ⟨f,e,h⟩:=yI0 (o:=qW8 gfT n) (f:=fun f=>qG1 g cl args lc hs H fun hs vs H=>cl f vs hs H (fun hs v H=>tru g hs v fun hs b=>k hs b H) fun J J=>false) h
  show (match qW8 gfT n with|some f=>evs sp args (dF ρ lc) (dH ρ H) fun vs H=>sp f vs H (fun v H=>qA8 v fun b=>K b H) fun J=>False|.none=>False)
  rw[e]
  exact qJ9 G C args hv (fun J vs J hv h=>C.go hv (fun J v J hv h=>qC3 G hv (fun J b hv e h=>by rw[e];exact q _ _ _ hv h) h) (fun J J J h=>by exact nf h) h) h
 |.meth o a args,lc,hs,H,k,K,hv,q,h=>qW2 G C o hv (fun hs v H hv h=>by
   have AS:ASO ρ g cl sp args lc hs H:=fun q h=>qJ9 G C args hv q h
   have h':(match isO v,oz g H v with
    |true,.inst c fs=>(match mt c a,lkF fs a with|some f,none=>qG1 g cl args lc hs H fun hs vs H=>cl f (v::vs) hs H (fun hs v H=>tru g hs v fun hs b=>k hs b H) fun J J=>false|J,J2=>false)
    |J,J2=>false)=true:=h
   cases e0:isO v<;>rw[e0]at h'<;>first|exact nf h'|skip
   cases e:oz g H v<;>rw[e]at h'<;>first|exact nf h'|skip
   obtain ⟨j,e1,e2⟩:=qX5 G e (qQ3 rfl)
   show (match dV ρ v with
    |.obj k=>match qQ0 (dH ρ H) k with
     |.inst c fs=>_
     |_=>False
    |_=>False)
   rw[e1]
   show (match qQ0 (dH ρ H) j with|.inst c fs=>_|_=>False)
   rw[e2]
   rename_i c fs
   exact wA0 (g:=g) (cl:=cl) (args:=args) (lc:=lc) (hs:=hs) (H:=H) (a:=a) (c:=c) (fs:=fs) (K:=fun v H=>qA8 v fun b=>K b H) C AS (fun J v J hv h=>qC3 G hv (fun J b hv e h=>by rw[e];exact q _ _ _ hv h) h) e1 h') h
 |.sub o i,lc,hs,H,k,K,hv,q,h=>qW2 G C o hv (fun J v J hv h=>qW2 G C i hv (fun hs u H hv h=>wM1 G hv (K:=fun r=>qA8 r fun b=>K b (dH ρ H)) (fun J r hv h=>qC3 G hv (fun J b hv e h=>by rw[e];exact q _ _ _ hv h) h) h) h) h
 |.bad,J,J2,J3,J4,J5,J6,J7,h|.none,J,J2,J3,J4,J5,J6,J7,h|.int J,J2,J3,J4,J5,J6,J7,J8,h|.str J,J2,J3,J4,J5,J6,J7,J8,h|.glob J,J2,J3,J4,J5,J6,J7,J8,h|.bin J J2 J3,J4,J5,J6,J7,J8,J9,J10,h|.neg J,J2,J3,J4,J5,J6,J7,J8,h|.ite J J2 J3,J4,J5,J6,J7,J8,J9,J10,h|.mk J J2,J3,J4,J5,J6,J7,J8,J9,h|.bi J J2,J3,J4,J5,J6,J7,J8,J9,h|.slice J J2 J3,J4,J5,J6,J7,J8,J9,J10,h|.list J,J2,J3,J4,J5,J6,J7,J8,h|.tup J,J2,J3,J4,J5,J6,J7,J8,h|.dict J J2,J3,J4,J5,J6,J7,J8,J9,h|.comp J J2 J3 J4 J5 J6,J7,J8,J9,J10,J11,J12,J13,h=>by exact nf h
theorem qH9 (G:Gd ρ g) (C:SpO ρ cl sp) (w:Bool):∀(xs:Xs) {lc:qX0} {hs:Fx} {H:SH} {k:KBH} {K:Bool->AH->Prop},HV ρ hs->KBO ρ k K->wL6 g cl w xs lc hs H k=true->cdb sp w xs (dF ρ lc) (dH ρ H) K:=@fun ξ=>no_implicit_lambda%(match @ξ with
 |.nil=>@fun J J2 J3 J4 J5 hv q h=>q _ _ _ hv h
 |.cons x xs=>@fun J J2 J3 J4 J5 hv q h=>wQ6 G C x hv (fun J t J hv h=>by
   cases w<;>cases t
   ·exact qH9 G C false xs hv q h
   ·exact q _ _ _ hv h
   ·exact q _ _ _ hv h
   ·exact qH9 G C true xs hv q h) h
 )
end
end
end Mine
end
section
namespace Mine
theorem zR7:∀(l:Loc) (x:Nat) (v w:AV),st (st l x v) x w=st l x w:=@fun ξ=>no_implicit_lambda%(match @ξ with
 |[]=>@fun x v w=>by show (match Nat.beq x x with|true=>_|false=>_)=_;rw[Nat.beq_refl];rfl
 |(y,u)::r=>@fun x v w=>by
  show st (match Nat.beq y x with|true=>(y,v)::r|false=>(y,u)::st r x v) x w=(match Nat.beq y x with|true=>(y,w)::r|false=>(y,u)::st r x w)
  cases e:Nat.beq y x with
  |true=>show (match Nat.beq y x with|true=>_|false=>_)=_;rw[e]
  |false=>show (match Nat.beq y x with|true=>_|false=>_)=_;rw[e];exact congrArg ((y,u)::·) (zR7 r x v w)
 )
theorem wK6:∀(l:Loc) (x:Nat) (v:AV),lk l x=some v->st l x v=l:=@fun ξ=>no_implicit_lambda%(match @ξ with
 |[]=>@fun J J2 h=>by injection h
 |(y,u)::r=>@fun x v h=>by
  have h':(match Nat.beq y x with|true=>some u|false=>lk r x)=some v:=h
  show (match Nat.beq y x with|true=>(y,v)::r|false=>(y,u)::st r x v)=_
  cases e:Nat.beq y x with
  |true=>rw[e]at h';obtain rfl:=Option.some.inj h';rfl
  |false=>rw[e]at h';exact congrArg ((y,u)::·) (wK6 r x v h')
 )
theorem zZ1 {a b:Cop} (h:yZ9 a b=true):a=b:=by cases a<;>cases b<;>first|rfl|exact nf h
theorem zK6 {a b:Bop} (h:yZ2 a b=true):a=b:=by cases a<;>cases b<;>first|rfl|exact nf h
set_option tactic.hygienic true in
mutual
theorem qB0:∀{a b:X},eqX a b=true->a=b:=@fun ξ ξ2 ξ3=>match @ξ,@ξ2,@ξ3 with
 |.int i,b,h=>by
  cases b<;>first|exact nf h|skip
  rw[of_decide_eq_true (show decide (i=_)=true from h)]
 |.loc x,b,h=>by
  cases b<;>first|exact nf h|skip
  rw[qP7 (show Nat.beq x _=true from h)]
 |.and a,b,h=>by
  cases b<;>first|exact nf h|skip
  rw[wJ7 (show zJ3 a _=true from h)]
 |.bi n a,b,h=>by
  cases b<;>first|exact nf h|skip
  rename_i m b
  obtain ⟨e,h⟩:=trb (b:=Nat.beq n m) (f:=zJ3 a b) h
  rw[qP7 e,wJ7 h]
 |.sub a b,c,h=>by
  cases c<;>first|exact nf h|skip
  rename_i c d
  obtain ⟨e,h⟩:=trb (b:=eqX a c) (f:=eqX b d) h
  rw[qB0 e,qB0 h]
 |.cmp o a b,c,h=>by
  cases c<;>first|exact nf h|skip
  rename_i p c d
  have h':(match yZ9 o p,eqX a c with|true,true=>eqX b d|J,J2=>false)=true:=h
  cases e1:yZ9 o p<;>rw[e1]at h'<;>first|exact nf h'|skip
  cases e2:eqX a c<;>rw[e2]at h'<;>first|exact nf h'|skip
  rw[zZ1 e1,qB0 e2,qB0 h']
 |.bin o a b,c,h=>by
  cases c<;>first|exact nf h|skip
  rename_i p c d
  have h':(match yZ2 o p,eqX a c with|true,true=>eqX b d|J,J2=>false)=true:=h
  cases e1:yZ2 o p<;>rw[e1]at h'<;>first|exact nf h'|skip
  cases e2:eqX a c<;>rw[e2]at h'<;>first|exact nf h'|skip
  rw[zK6 e1,qB0 e2,qB0 h']
 |.bad,J,h|.none,J,h|.bool J,J2,h|.str J,J2,h|.glob J,J2,h|.attr J J2,J3,h|.neg J,J2,h|.not J,J2,h|.or J,J2,h|.ite J J2 J3,J4,h|.call J J2,J3,h|.mk J J2,J3,h|.meth J J2 J3,J4,h|.slice J J2 J3,J4,h|.list J,J2,h|.tup J,J2,h|.dict J J2,J3,h|.comp J J2 J3 J4 J5 J6,J7,h=>by exact nf h
theorem wJ7:∀{a b:Xs},zJ3 a b=true->a=b:=@fun ξ=>no_implicit_lambda%(match @ξ with
 |.nil=>@fun b h=>by cases b<;>first|rfl|exact nf h
 |.cons a b=>@fun c h=>by
  cases c<;>first|exact nf h|skip
  rename_i c d
  obtain ⟨e,h⟩:=trb (b:=eqX a c) (f:=zJ3 b d) h
  rw[qB0 e,wJ7 h]
 )
end
noncomputable abbrev KLO (ρ:Rho) (k:KLH) (K:Loc->AH->Prop):Prop:=∀ hs lc H,HV ρ hs->k hs lc H=true->K (dF ρ lc) (dH ρ H)
theorem bIn {P:Prop} {b:Bool} {o:SAO} {A:Nat->qX0->Bool} (h:(match b,o with|true,.inst c fs=>A c fs|J,J2=>false)=true) (q:∀ c fs,b=true->o=.inst c fs->A c fs=true->P):P:=by
 cases b
 ·exact nf h
 ·cases o<;>first|exact nf h|exact q _ _ rfl rfl h
theorem yP0 {P:Prop} {a b A:Bool} (h:(match a,b with|true,true=>A|J,J2=>false)=true) (q:a=true->b=true->A=true->P):P:=by
 cases a
 ·exact nf h
 ·cases b
  ·exact nf h
  ·exact q rfl rfl h
theorem jX5 {P:Prop} {b:Bool} {o:SAO} {j:SAV} {A:List (List Nat×SAV)->List Nat->Bool} (h:(match b,o,j with|true,.sd es,.str s=>A es s|J,J2,J3=>false)=true) (q:∀ es s,b=true->o=.sd es->j=.str s->A es s=true->P):P:=by
 cases b
 ·exact nf h
 ·cases o<;>first|exact nf h|skip
  cases j<;>first|exact nf h|exact q _ _ rfl rfl rfl h
theorem zM4 {v:AV} {H:AH} {a j c:Nat} {fs:Loc} {A:Nat->Nat->Loc->Prop} (e:v=.obj j) (e1:qQ0 H j=.inst c fs) (e2:qJ3 (okA c) a=true) (e3:Nat.ble fs.length 40=true) (q:A j c fs):match (generalizing:=false) v with|.obj k=>(match qQ0 H k with|.inst c fs=>(match qJ3 (okA c) a,Nat.ble fs.length 40 with|true,true=>A k c fs|J,J2=>False)|J=>False)|J=>False:=by
 subst e
 show (match qQ0 H j with|.inst c fs=>(match qJ3 (okA c) a,Nat.ble fs.length 40 with|true,true=>A j c fs|J,J2=>False)|J=>False)
 rw[e1]
 show (match qJ3 (okA c) a,Nat.ble fs.length 40 with|true,true=>A j c fs|J,J2=>False)
 rw[e2,e3]
 exact q
theorem zM7 {v w:AV} {H:AH} {j:Nat} {s:List Nat} {es:List (List Nat×AV)} {A:Nat->List Nat->List (List Nat×AV)->Prop} (e:v=.obj j) (e0:w=.str s) (e1:qQ0 H j=.sd es) (q:A j s es):match (generalizing:=false) v,w with|.obj k,.str s=>(match qQ0 H k with|.sd es=>A k s es|J=>False)|J,J2=>False:=by
 subst e e0
 show (match qQ0 H j with|.sd es=>A j s es|J=>False)
 rw[e1]
 exact q
noncomputable abbrev BO (ρ:Rho) (b:qX0->Fx->SH->KLH->Bool) (B:Loc->AH->(Loc->AH->Prop)->Prop):Prop:=∀{lc hs H k K},HV ρ hs->KLO ρ k K->b lc hs H k=true->B (dF ρ lc) (dH ρ H) K
section
variable {ρ:Rho} {g:Gx} {cl:Cl} {sp:Sp}
theorem xM3 (G:Gd ρ g) (C:SpO ρ cl sp) {t:T1} {v:SAV} {lc:qX0} {hs:Fx} {H:SH} {k:KLH} {K:Loc->AH->Prop} (hv:HV ρ hs) (q:KLO ρ k K) (h:as1 g cl t v lc hs H k=true):zF4 sp t (dV ρ v) (dF ρ lc) (dH ρ H) K:=by
 cases t with
 |loc x=>
  have:=q _ _ _ hv h
  rw[qB2]at this
  exact this
 |attr o a=>
  refine qW2 G C o hv (fun hs u H hv h=>?_) h
  have h':(match isO u,oz g H u with
   |true,.inst c fs=>(match qJ3 (okA c) a,Nat.ble fs.length 40 with|true,true=>k hs lc (pt g H u (.inst c (stF fs a v)))|J,J2=>false)
   |J,J2=>false)=true:=h
  refine bIn h' fun c fs e0 e h'=>yP0 h' fun e1 e2 h'=>?_
  obtain ⟨j,e3,e4,e5⟩:=qF3 G e0 e (qQ3 rfl)
  have:=q _ _ _ hv h'
  rw[e5,show dO ρ (.inst c (stF fs a v))=.inst c (dF ρ (stF fs a v)) from rfl,qB2]at this
  exact zM4 (A:=fun j c fs=>K (dF ρ lc) (qX7 (dH ρ H) j (.inst c (st fs a (dV ρ v))))) e3 e4 e1 (by rw[xL6];exact e2) this
 |sub o i=>
  refine qW2 G C o hv (fun hs u H hv h=>?_) h
  refine qW2 G C i hv (fun hs j H hv h=>?_) h
  have h':(match (generalizing:=false) isO u,oz g H u,j with
   |true,.sd es,.str s=>(match Nat.blt es.length 50 with|true=>k hs lc (pt g H u (.sd (stD es s v)))|false=>false)
   |J,J2,J3=>false)=true:=h
  refine jX5 h' fun es s e0 e ej h2=>?_
  subst ej
  obtain ⟨e1,h'⟩:=trb (b:=Nat.blt es.length 50) (f:=k hs lc (pt g H u (.sd (stD es s v)))) h2
  obtain ⟨j,e3,e4,e5⟩:=qF3 G e0 e (qQ3 rfl)
  have:=q _ _ _ hv h'
  rw[e5,show dO ρ (.sd (stD es s v))=.sd (dD ρ (stD es s v)) from rfl,xO5]at this
  exact zM7 (A:=fun j s es=>es.length<50/\K (dF ρ lc) (qX7 (dH ρ H) j (.sd (stS es s (dV ρ v))))) e3 rfl e4 ⟨by rw[xO1];exact Nat.le_of_ble_eq_true e1,this⟩
theorem xP1 (G:Gd ρ g) (C:SpO ρ cl sp):∀{ts:List T1} {vs:List SAV} {lc:qX0} {hs:Fx} {H:SH} {k:KLH} {K:Loc->AH->Prop},HV ρ hs->KLO ρ k K->as2 g cl ts vs lc hs H k=true->xQ8 sp ts (dVs ρ vs) (dF ρ lc) (dH ρ H) K:=@fun ξ ξ2=>no_implicit_lambda%(match @ξ,@ξ2 with
 |[],[]=>@fun J J2 J3 J4 J5 hv q h=>q _ _ _ hv h
 |[],J::J2=>@fun J3 J4 J5 J6 J7 J8 J9 h=>by exact nf h
 |J::J2,[]=>@fun J3 J4 J5 J6 J7 J8 J9 h=>by exact nf h
 |t::ts,v::vs=>@fun lc hs H k K hv q h=>xM3 G C hv (k:=fun hs lc H=>as2 g cl ts vs lc hs H k) (K:=fun lc H=>xQ8 sp ts (dVs ρ vs) lc H K) (fun J J J hv h=>xP1 G C hv q h) h
 )
set_option tactic.hygienic true in
theorem zO6 (G:Gd ρ g) (C:SpO ρ cl sp) {t:T} {v:SAV} {lc:qX0} {hs:Fx} {H:SH} {k:KLH} {K:Loc->AH->Prop} (hv:HV ρ hs) (q:KLO ρ k K) (h:as3 g cl t v lc hs H k=true):asg sp t (dV ρ v) (dF ρ lc) (dH ρ H) K:=by
 cases t with
 |one t=>exact xM3 G C hv q h
 |slice J J2 J3=>exact nf h
 |tup ts=>
  have h':(match oz g H v with|.tp vs=>(match Nat.beq ts.length vs.length with|true=>as2 g cl ts vs lc hs H k|false=>false)|_=>false)=true:=h
  cases e:oz g H v<;>rw[e]at h'<;>first|exact nf h'|skip
  rename_i vs
  obtain ⟨e1,h'⟩:=trb (b:=Nat.beq ts.length vs.length) (f:=as2 g cl ts vs lc hs H k) h'
  obtain ⟨j,e3,e4⟩:=qX5 G e (qQ3 rfl)
  rw[e3]
  show (match qQ0 (dH ρ H) j with|.tp vs=>(match Nat.beq ts.length vs.length with|true=>xQ8 sp ts vs (dF ρ lc) (dH ρ H) K|false=>False)|_=>False)
  rw[e4]
  show (match Nat.beq ts.length (dVs ρ vs).length with|true=>xQ8 sp ts (dVs ρ vs) (dF ρ lc) (dH ρ H) K|false=>False)
  rw[qE6,e1]
  exact xP1 G C hv q h'
set_option tactic.hygienic true in
theorem xI0 (G:Gd ρ g) {b:qX0->Fx->SH->KLH->Bool} {B:Loc->AH->(Loc->AH->Prop)->Prop} (bo:BO ρ b B) (x:Nat) {v:SAV} {j:Nat} (hj:dV ρ v=.obj j) {k:KLH} {K:Loc->AH->Prop} (q:KLO ρ k K):∀(n i:Nat) (lc:qX0) (hs:Fx) (H:SH),HV ρ hs->lpL g b x v n i lc hs H k=true->qE1 B x j n i (dF ρ lc) (dH ρ H) K:=@fun ξ=>no_implicit_lambda%(match @ξ with
 |0=>@fun J J2 J3 J4 J5 h=>by exact nf h
 |n+1=>@fun i lc hs H hv h=>by
  have h':(match oz g H v with
   |.il l=>(match isK l with|some J=>k hs lc H|none=>false)
   |.vl xs=>(match zQ4 xs i with
    |some u=>b (stF lc x u) hs H fun hs lc H=>lpL g b x v n (i+1) lc hs H k
    |none=>k hs lc H)
   |_=>false)=true:=h
  cases e:oz g H v<;>rw[e]at h'<;>first|exact nf h'|skip
  all_goals
   obtain ⟨j',e3,e4⟩:=qX5 G e (qQ3 rfl)
   rw[hj]at e3
   (injection e3 with e3;subst e3)
   unfold qE1
   rw[e4]
  ·rename_i l
   dsimp only at h'
   cases e5:isK l<;>rw[e5]at h'<;>first|exact nf h'|skip
   rw[qJ2 e5]
   exact q _ _ _ hv h'
  ·rename_i xs
   show (match qU0 (dVs ρ xs) i with|some v=>B (st (dF ρ lc) x v) (dH ρ H) fun lc H=>qE1 B x j n (i+1) lc H K|none=>K (dF ρ lc) (dH ρ H))
   rw[wZ8]
   dsimp only at h'
   cases e5:zQ4 xs i<;>rw[e5]at h'
   ·exact q _ _ _ hv h'
   ·show B (st (dF ρ lc) x (dV ρ _)) _ _
    rw[<-qB2]
    exact bo hv (fun hs' lc' H' hv' h=>xI0 G bo x hj q n (i+1) lc' hs' H' hv' h) h'
 )
theorem xN5 {b:qX0->Fx->SH->KLH->Bool} {B:Loc->AH->(Loc->AH->Prop)->Prop} (bo:BO ρ b B) (x:Nat) {k:KLH} {K:Loc->AH->Prop} (q:KLO ρ k K):∀(es:List (List Nat×SAV)) (lc:qX0) (hs:Fx) (H:SH),HV ρ hs->lpD b x es lc hs H k=true->wV8 B x (dD ρ es) (dF ρ lc) (dH ρ H) K:=@fun ξ=>no_implicit_lambda%(match @ξ with
 |[]=>@fun J J2 J3 hv h=>q _ _ _ hv h
 |e::r=>@fun lc hs H hv h=>by
  show B (st (dF ρ lc) x (.str e.1)) _ _
  have:st (dF ρ lc) x (.str e.1)=dF ρ (stF lc x (.str e.1)):=(qB2 lc x (.str e.1)).symm
  rw[this]
  exact bo hv (fun hs' lc' H' hv' h=>xN5 bo x q r lc' hs' H' hv' h) h
 )
theorem xP9 (G:Gd ρ g) {b:qX0->Fx->SH->KLH->Bool} {B:Loc->AH->(Loc->AH->Prop)->Prop} (bo:BO ρ b B) (x:Nat) (m:E) {k:KLH} {K:Loc->AH->Prop} (q:KLO ρ k K):∀(n i:Nat) (lc:qX0) (hs:Fx) (H:SH),HV ρ hs->lpR g b x m n i lc hs H k=true->qM5 B x (dI ρ m) n (i:Int) (dF ρ lc) (dH ρ H) K:=@fun ξ=>no_implicit_lambda%(match @ξ with
 |0=>@fun J J2 J3 J4 J5 h=>by exact nf h
 |n+1=>@fun i lc hs H hv h=>by
  have h2:dec g hs (sc 0 (.c i) m) (fun hs t=>match t with|true=>b (stF lc x (.int (.c i))) hs H fun hs lc H=>lpR g b x m n (i+1) lc hs H k|false=>k hs lc H)=true:=h
  refine qD1 G hv ?_ h2
  intro hs' hv' h
  have e:dC ρ (sc 0 (.c i) m)=decide ((i:Int)<dI ρ m):=rfl
  rw[e]at h
  show (match decide ((i:Int)<dI ρ m) with|true=>B (st (dF ρ lc) x (.int (i:Int))) (dH ρ H) fun lc H=>qM5 B x (dI ρ m) n ((i:Int)+1) lc H K|false=>K (dF ρ lc) (dH ρ H))
  cases e2:decide ((i:Int)<dI ρ m)<;>rw[e2]at h
  ·exact q _ _ _ hv' h
  ·have:st (dF ρ lc) x (.int (i:Int))=dF ρ (stF lc x (.int (.c i))):=(qB2 lc x (.int (.c i))).symm
   show B (st (dF ρ lc) x (.int (i:Int))) _ _
   rw[this]
   exact bo hv' (fun hs2 lc' H' hv2 h=>xP9 G bo x m q n (i+1) lc' hs2 H' hv2 h) h
 )
theorem xR4 {t:qX0->Fx->SH->KBH->Bool} {T:Loc->AH->(Bool->AH->Prop)->Prop} {b:qX0->Fx->SH->KLH->Bool} {B:Loc->AH->(Loc->AH->Prop)->Prop} (to:TO ρ t T) (bo:BO ρ b B) {k:KLH} {K:Loc->AH->Prop} (q:KLO ρ k K):∀(n:Nat) (lc:qX0) (hs:Fx) (H:SH),HV ρ hs->lpW t b n lc hs H k=true->xV9 T B n (dF ρ lc) (dH ρ H) K:=@fun ξ=>no_implicit_lambda%(match @ξ with
 |0=>@fun J J2 J3 J4 h=>by exact nf h
 |n+1=>@fun lc hs H hv h=>to hv (fun hs' x H' hv' h=>by
   cases x with
   |true=>exact bo hv' (fun hs2 lc' H2 hv2 h=>xR4 to bo q n lc' hs2 H2 hv2 h) h
   |false=>exact q _ _ _ hv' h) h
 )
set_option tactic.hygienic true in
theorem zK4 {P:Prop} {x:Nat} {b:Ys} (h:upB x b=true) (q:∀ y e,b=.cons (.asgn (.one (.loc y)) e) .nil->(match Nat.beq y x with|true=>eqX e (.bin .add (.loc x) (.int 1))|false=>false)=true->P):P:=by
 delta upB at h
 cases b<;>first|exact nf h|skip
 rename_i y ys
 cases y<;>first|exact nf h|skip
 rename_i t e
 cases t<;>first|exact nf h|skip
 rename_i l
 cases l<;>first|exact nf h|skip
 cases ys<;>first|exact nf h|exact q _ _ rfl h
theorem wN8 {sp:Sp} {KE:AH->Prop} {KR:AV->AH->Prop} {x i:Nat} {body:Ys} {lc:Loc} {H:AH} {K:Loc->AH->Prop} (hb:upB x body=true) (q:K (st lc x (.int ((i+1:Nat):Int))) H):exs sp KE KR body (st lc x (.int (i:Int))) H K:=by
 ·refine zK4 hb fun y e eb hb=>?_
  subst eb
  obtain ⟨h1,h2⟩:=trb (b:=Nat.beq y x) (f:=eqX e (.bin .add (.loc x) (.int 1))) hb
  obtain rfl:=qP7 h1
  rw[qB0 h2]
  show (match lk (st lc y (.int (i:Int))) y with|some v=>_|.none=>False)
  rw[qA5,if_pos rfl]
  show K (st (st lc y (.int (i:Int))) y (.int ((i:Int)+1))) H
  rw[zR7]
  exact q
set_option tactic.hygienic true in
theorem wS4 {lc:qX0} {x:Nat} (h:xH1 lc x=true):lk (dF ρ lc) x=some (.int ((0:Nat):Int)):=by
 unfold xH1 at h
 rw[qY0]
 cases e:lkF lc x with
 |none=>rw[e]at h;exact nf h
 |some v=>
  rw[e]at h
  cases v<;>first|exact nf h|skip
  rename_i i
  cases i<;>first|exact nf h|skip
  rename_i i
  have:i=0:=of_decide_eq_true h
  subst this
  rfl
theorem xK5 (G:Gd ρ g) {lc:qX0} {H:SH} {x:Nat} {l:E} (h:xO3 g lc H x=some l):∃ j,lk (dF ρ lc) x=some (.obj j)/\qQ0 (dH ρ H) j=.il (dL ρ l):=by
 unfold xO3 at h
 rw[qY0]
 cases e:lkF lc x with
 |none=>rw[e]at h;injection h
 |some v=>
  rw[e]at h
  dsimp only at h
  cases e2:oz g H v<;>rw[e2]at h<;>first|exact nn h|skip
  obtain rfl:=Option.some.inj h
  obtain ⟨j,e3,e4⟩:=qX5 G e2 (qQ3 rfl)
  exact ⟨j,congrArg some e3,e4⟩
theorem qC6 {l:Loc} {x y:Nat} {v:AV} {r:Option AV} (n:Nat.beq y x=false) (h:lk l y=r):lk (st l x v) y=r:=by
 rw[qA5,if_neg fun e=>by subst e;rw[Nat.beq_refl]at n;cases n]
 exact h
set_option tactic.hygienic true in
theorem zI2 (G:Gd ρ g) {c:X} {body:Ys} {lc:qX0} {hs:Fx} {H:SH} {k:KLH} {K:Loc->AH->Prop} {ke:KH} {kr:KV} {KE:AH->Prop} {KR:AV->AH->Prop} (hv:HV ρ hs) (q:KLO ρ k K) (h:sex g cl ke kr (.whs c body) lc hs H k=true):ex sp KE KR (.whs c body) (dF ρ lc) (dH ρ H) K:=by
 have h':(match xO3 g lc H 167,xO3 g lc H 58 with
  |some x,some y=>(match eqX c wc1,upB 94 body,xH1 lc 94 with
   |true,true,true=>k hs (stF lc 94 (.int (.b .lcp x y))) H
   |J,J2,J3=>(match eqX c wc2,upB 218 body,xH1 lc 218 with
    |true,true,true=>(match lkF lc 150 with
     |some (.int m)=>(match ask g hs (sc 1 (qQ8 x) (qQ8 y)) with
      |some t=>(match eqE m (wZ2 (match t with|true=>qQ8 x|false=>qQ8 y) (.b .lcp x y)) with
       |true=>k hs (stF lc 218 (.int (.b .lcs x y))) H
       |false=>false)
      |none=>false)
     |_=>false)
    |J,J2,J3=>false))
  |J,J2=>false)=true:=h
 cases e1:xO3 g lc H 167<;>rw[e1]at h'<;>first|exact nf h'|skip
 cases e2:xO3 g lc H 58<;>rw[e2]at h'<;>first|exact nf h'|skip
 rename_i x y
 obtain ⟨ja,a1,a2⟩:=xK5 G e1
 obtain ⟨jb,b1,b2⟩:=xK5 G e2
 have second:(match eqX c wc2,upB 218 body,xH1 lc 218 with
    |true,true,true=>(match lkF lc 150 with
     |some (.int m)=>(match ask g hs (sc 1 (qQ8 x) (qQ8 y)) with
      |some t=>(match eqE m (wZ2 (match t with|true=>qQ8 x|false=>qQ8 y) (.b .lcp x y)) with
       |true=>k hs (stF lc 218 (.int (.b .lcs x y))) H
       |false=>false)
      |none=>false)
     |_=>false)
    |J,J2,J3=>false)=true->ex sp KE KR (.whs c body) (dF ρ lc) (dH ρ H) K:=fun h=>by
  cases c1:eqX c wc2<;>rw[c1]at h<;>first|exact nf h|skip
  cases c2:upB 218 body<;>rw[c2]at h<;>first|exact nf h|skip
  cases c3:xH1 lc 218<;>rw[c3]at h<;>first|exact nf h|skip
  cases c4:lkF lc 150<;>rw[c4]at h<;>first|exact nf h|skip
  rename_i w
  cases w<;>first|exact nf h|skip
  rename_i m
  cases c5:ask g hs (sc 1 (qQ8 x) (qQ8 y))<;>rw[c5]at h<;>first|exact nf h|skip
  rename_i t
  obtain ⟨c6,h⟩:=trb (b:=eqE m (wZ2 (match (generalizing:=false) t with|true=>qQ8 x|false=>qQ8 y) (.b .lcp x y))) (f:=k hs (stF lc 218 (.int (.b .lcs x y))) H) h
  have hm:dI ρ m=min ((dL ρ x).length:Int) (dL ρ y).length-(hdN (dL ρ x) (dL ρ y):Nat):=by
   rw[qZ2 c6,wD2]
   have c7:=qB1 G hv c5
   have c8:decide (dI ρ (qQ8 x)<=dI ρ (qQ8 y))=t:=c7
   rw[qW3,qW3]at c8
   cases t with
   |true=>
    show dI ρ (qQ8 x)-(hdN (dL ρ x) (dL ρ y):Nat)=_
    rw[qW3,Int.min_eq_left (of_decide_eq_true c8)]
   |false=>
    show dI ρ (qQ8 y)-(hdN (dL ρ x) (dL ρ y):Nat)=_
    rw[qW3,Int.min_eq_right (by have:=of_decide_eq_false c8;omega)]
  have c9:lk (dF ρ lc) 150=some (.int (dI ρ m)):=by rw[qY0,c4];rfl
  rw[qB0 c1]
  refine qT2 218 (tlN (dL ρ x) (dL ρ y)) (wK6 _ _ _ (wS4 c3)) fun i hi=>?_
  refine yA6 (x:=dL ρ x) (y:=dL ρ y) (qC6 rfl a1) (qC6 rfl b1) (by rw[qA5,if_pos rfl]) (qC6 rfl c9) a2 b2 hm hi (fun hlt=>?_) fun he=>?_
  ·exact wN8 c2 ⟨_,by omega,i+1,by exact Nat.not_lt.mp fun gz=>lin [_,_] [] [(1,.nl (.a (.v 0) (.c 1)) (.v 1)),(1,.nl (.a (.v 1) (.c 1)) (.a (.v 0) (.c 1)))] rfl hlt gz,rfl,rfl,rfl⟩
  ·subst he
   have:=q _ _ _ hv h
   rw[qB2]at this
   exact this
 cases c1:eqX c wc1<;>rw[c1]at h'<;>first|exact second h'|skip
 cases c2:upB 94 body<;>rw[c2]at h'<;>first|exact second h'|skip
 cases c3:xH1 lc 94<;>rw[c3]at h'<;>first|exact second h'|skip
 rw[qB0 c1]
 refine qT2 94 (hdN (dL ρ x) (dL ρ y)) (wK6 _ _ _ (wS4 c3)) fun i hi=>?_
 refine yA0 (x:=dL ρ x) (y:=dL ρ y) (qC6 rfl a1) (qC6 rfl b1) (by rw[qA5,if_pos rfl]) a2 b2 hi (fun hlt=>?_) fun he=>?_
 ·exact wN8 c2 ⟨_,by omega,i+1,by exact Nat.not_lt.mp fun gz=>lin [_,_] [] [(1,.nl (.a (.v 0) (.c 1)) (.v 1)),(1,.nl (.a (.v 1) (.c 1)) (.a (.v 0) (.c 1)))] rfl hlt gz,rfl,rfl,rfl⟩
 ·subst he
  have:=q _ _ _ hv h'
  rw[qB2]at this
  exact this
set_option tactic.hygienic true in
mutual
theorem zR4 (G:Gd ρ g) (C:SpO ρ cl sp):∀(y:Y) {lc:qX0} {hs:Fx} {H:SH} {ke:KH} {kr:KV} {k:KLH} {KE:AH->Prop} {KR:AV->AH->Prop} {K:Loc->AH->Prop},HV ρ hs->(∀ hs H,HV ρ hs->ke hs H=true->KE (dH ρ H))->KO ρ kr KR->KLO ρ k K->sex g cl ke kr y lc hs H k=true->ex sp KE KR y (dF ρ lc) (dH ρ H) K:=@fun ξ=>no_implicit_lambda%(match @ξ with
 |.expr e=>@fun lc hs H ke kr k KE KR K hv qe qr q h=>qW2 G C e hv (fun J J J hv h=>q _ _ _ hv h) h
 |.asgn t e=>@fun lc hs H ke kr k KE KR K hv qe qr q h=>qW2 G C e hv (fun J J J hv h=>zO6 G C hv q h) h
 |.asgc x e=>@fun lc hs H ke kr k KE KR K hv qe qr q h=>qW2 G C e hv (fun J v J hv h=>by
   have:=q _ _ _ hv h
   rw[qB2]at this
   exact this) h
 |.ret e=>@fun lc hs H ke kr k KE KR K hv qe qr q h=>qW2 G C e hv qr h
 |.ret0=>@fun lc hs H ke kr k KE KR K hv qe qr q h=>qr _ .none _ hv h
 |.ife c a b=>@fun lc hs H ke kr k KE KR K hv qe qr q h=>wQ6 G C c hv (fun J t J hv h=>by
   cases t with
   |true=>exact qK4 G C a hv qe qr q h
   |false=>exact qK4 G C b hv qe qr q h) h
 |.forl n x e body=>@fun lc hs H ke kr k KE KR K hv qe qr q h=>qW2 G C e hv (fun hs v H hv h=>by
   have b1:BO ρ (fun lc hs H k=>qO3 g cl (fun J J=>false) (fun J J J=>false) body lc hs H k) (fun lc H K=>exs sp (fun J=>False) (fun J J=>False) body lc H K):=fun hv q h=>qK4 G C body hv (fun J J J h=>by exact nf h) (fun J J J J h=>by exact nf h) q h
   have b2:BO ρ (fun lc hs H k=>qO3 g cl (fun J J=>false) kr body lc hs H k) (fun lc H K=>exs sp (fun J=>False) KR body lc H K):=fun hv q h=>qK4 G C body hv (fun J J J h=>by exact nf h) qr q h
   have h':(match isO v,oz g H v with
    |true,.sd es=>lpD (fun lc hs H k=>qO3 g cl (fun J J=>false) (fun J J J=>false) body lc hs H k) x es lc hs (pt g H v (.fd es)) fun hs lc H=>(match oz g H v with|.fd J=>k hs lc (pt g H v (.sd es))|_=>false)
    |true,J=>lpL g (fun lc hs H k=>qO3 g cl (fun J J=>false) kr body lc hs H k) x v n 0 lc hs H k
    |false,J=>false)=true:=h
   cases e0:isO v<;>rw[e0]at h'<;>first|exact nf h'|skip
   obtain ⟨j,hj⟩:∃ j,dV ρ v=.obj j:=by cases v<;>first|(exact nf e0;done)|exact ⟨_,rfl⟩
   have goal:(match qQ0 (dH ρ H) j with
    |.sd es=>wV8 (fun lc H K=>exs sp (fun J=>False) (fun J J=>False) body lc H K) x es (dF ρ lc) (qX7 (dH ρ H) j (.fd es)) fun lc H=>(match qQ0 H j with|.fd J=>K lc (qX7 H j (.sd es))|_=>False)
    |_=>qE1 (fun lc H K=>exs sp (fun J=>False) KR body lc H K) x j n 0 (dF ρ lc) (dH ρ H) K):=by
    have rest:lpL g (fun lc hs H k=>qO3 g cl (fun J J=>false) kr body lc hs H k) x v n 0 lc hs H k=true->qE1 (fun lc H K=>exs sp (fun J=>False) KR body lc H K) x j n 0 (dF ρ lc) (dH ρ H) K:=fun h=>xI0 G b2 x hj q n 0 lc hs H hv h
    have two:lpL g (fun lc hs H k=>qO3 g cl (fun J J=>false) kr body lc hs H k) x v n 0 lc hs H k=true->oz g H v≠.dead:=fun h z=>by
     cases n with
     |zero=>exact nf h
     |succ n=>
      unfold lpL at h
      rw[z]at h
      exact nf h
    cases e:oz g H v<;>rw[e]at h'<;>first
     |exact absurd e (two h')
     |(obtain ⟨j',e3,e4⟩:=qX5 (ρ:=ρ) G e (qQ3 rfl)
       rw[hj]at e3
       (injection e3 with e3;subst e3)
       rw[e4]
       first|exact rest h'|skip)
    rename_i es
    obtain ⟨j',e5,e6,e7⟩:=qF3 (ρ:=ρ) G e0 e (qQ3 rfl)
    rw[hj]at e5
    (injection e5 with e5;subst e5)
    show wV8 _ x (dD ρ es) (dF ρ lc) (qX7 (dH ρ H) j (dO ρ (.fd es))) _
    rw[<-e7]
    refine xN5 b1 x (fun hs' lc' H' hv' h=>?_) es lc hs _ hv h'
    cases e8:oz g H' v<;>rw[e8]at h<;>first|exact nf h|skip
    obtain ⟨j',e9,e10,e11⟩:=qF3 (ρ:=ρ) G e0 e8 (qQ3 rfl)
    rw[hj]at e9
    (injection e9 with e9;subst e9)
    rw[e10]
    have:=q _ _ _ hv' h
    rw[e11]at this
    exact this
   rw[hj]
   exact goal) h
 |.forr n x e body=>@fun lc hs H ke kr k KE KR K hv qe qr q h=>qW2 G C e hv (fun hs v H hv h=>by
   have b2:BO ρ (fun lc hs H k=>qO3 g cl (fun J J=>false) kr body lc hs H k) (fun lc H K=>exs sp (fun J=>False) KR body lc H K):=fun hv q h=>qK4 G C body hv (fun J J J h=>by exact nf h) qr q h
   cases v<;>first|exact nf h|skip
   rename_i m
   have h':nd g hs (sc 1 (.c 0) m) (fun hs=>nd g hs (sc 1 m (.c 1000)) fun hs=>lpR g (fun lc hs H k=>qO3 g cl (fun J J=>false) kr body lc hs H k) x m n 0 lc hs H k)=true:=h
   refine qK0 G hv ?_ h'
   intro c1 h
   refine qK0 G hv ?_ h
   intro c2 h
   exact ⟨of_decide_eq_true c1,of_decide_eq_true c2,xP9 G b2 x m q n 0 lc hs H hv h⟩) h
 |.whl n c body=>@fun lc hs H ke kr k KE KR K hv qe qr q h=>xR4 (fun hv q h=>wQ6 G C c hv q h) (fun hv q h=>qK4 G C body hv (fun J J J h=>by exact nf h) qr q h) q n lc hs H hv h
 |.whs c body=>@fun lc hs H ke kr k KE KR K hv qe qr q h=>zI2 G hv q h
 |.raise J args=>@fun lc hs H ke kr k KE KR K hv qe qr q h=>qJ9 G C args hv (fun J J J hv h=>qe _ _ hv h) h
 |.no=>@fun J J2 J3 J4 J5 J6 J7 J8 J9 J10 J11 J12 J13 h=>by exact nf h
 )
theorem qK4 (G:Gd ρ g) (C:SpO ρ cl sp):∀(ys:Ys) {lc:qX0} {hs:Fx} {H:SH} {ke:KH} {kr:KV} {k:KLH} {KE:AH->Prop} {KR:AV->AH->Prop} {K:Loc->AH->Prop},HV ρ hs->(∀ hs H,HV ρ hs->ke hs H=true->KE (dH ρ H))->KO ρ kr KR->KLO ρ k K->qO3 g cl ke kr ys lc hs H k=true->exs sp KE KR ys (dF ρ lc) (dH ρ H) K:=@fun ξ=>no_implicit_lambda%(match @ξ with
 |.nil=>@fun J J2 J3 J4 J5 J6 J7 J8 J9 hv J10 J11 q h=>q _ _ _ hv h
 |.cons s ss=>@fun J J2 J3 J4 J5 J6 J7 J8 J9 hv qe qr q h=>zR4 G C s hv qe qr (fun J J J hv h=>qK4 G C ss hv qe qr q h) h
 )
end
end
end Mine
end
section
namespace Mine
section
variable {ρ:Rho} {g:Gx} {cl:Cl} {sp:Sp}
theorem wG6 (G:Gd ρ g) (C:SpO ρ cl sp) {ps:List Nat} {b:Ys} {args:List SAV} {hs:Fx} {H:SH} {k:KV} {ke:KH} {K:AV->AH->Prop} {KE:AH->Prop} (hv:HV ρ hs) (q:KO ρ k K) (qe:∀ hs H,HV ρ hs->ke hs H=true->KE (dH ρ H)) (h:sF g cl ps b args hs H k ke=true):evF sp ps b (dVs ρ args) (dH ρ H) K KE:=by
 obtain ⟨e,h⟩:=trb (b:=Nat.beq ps.length args.length) (f:=qO3 g cl ke k b (yZ7 ps args) hs H fun hs J H=>k hs .none H) h
 unfold evF
 rw[qE6,e,<-xQ0]
 exact qK4 G C b hv qe q (fun J J J hv h=>q _ .none _ hv h) h
set_option tactic.hygienic true in
theorem zJ8 (G:Gd ρ g) {f j:Nat} {o:SAV} {xs:E} {args:List SAV} {hs:Fx} {H:SH} {k:KV} {K:AV->AH->Prop} (hv:HV ρ hs) (q:KO ρ k K) (hi:isO o=true) (e:oz g H o=.gp xs) (hj:dV ρ o=.obj j) (h:yW6 g f o xs args hs H k=true):yX2 f j (dL ρ xs) (dVs ρ args) (dH ρ H) K:=by
 obtain ⟨j',e1,e2,e3⟩:=qF3 (ρ:=ρ) G hi e (qQ3 rfl)
 rw[hj]at e1
 (injection e1 with e1;subst e1)
 unfold yW6 at h
 unfold yX2
 cases f1:Nat.beq f 411<;>rw[f1]at h<;>dsimp only at h ⊢
 ·cases f2:Nat.beq f 425<;>rw[f2]at h<;>dsimp only at h ⊢
  ·cases f3:Nat.beq f 446<;>rw[f3]at h<;>dsimp only at h ⊢
   ·cases f4:Nat.beq f 453<;>rw[f4]at h<;>first|exact nf h|skip
    match args,h with
    |[],h=>exact nf h
    |[J],h=>exact nf h
    |[J,a],h=>cases a<;>exact nf h
    |J::a::b::J2::J3,h=>cases a<;>first|exact nf h|(cases b<;>exact nf h)
    |[v,a,b],h=>
     cases a<;>first|exact nf h|skip
     cases b<;>first|exact nf h|skip
     rename_i a b
     have h':nd g hs (sc 1 (.c 0) a) (fun hs=>nd g hs (sc 1 a b) fun hs=>nd g hs (sc 1 b (qQ8 xs)) fun hs=>k hs (nw g H) (pt g H o (.gp (qM7 (xV4 a xs) (xV6 b xs)))++[.il (xV6 a (xV4 b xs))]))=true:=h
     refine qK0 G hv ?_ h'
     intro c1 h
     refine qK0 G hv ?_ h
     intro c2 h
     refine qK0 G hv ?_ h
     intro c3 h
     have c3':dI ρ b<=(dL ρ xs).length:=by
      have:=of_decide_eq_true c3
      rw[show (sc 1 b (qQ8 xs)).y=qQ8 xs from rfl,qW3]at this
      exact this
     have:=q _ _ _ hv h
     rw[xZ2 G,qN2,e3]at this
     simp only[dO,qT7,wV0,wJ9]at this
     exact ⟨of_decide_eq_true c1,of_decide_eq_true c2,c3',this⟩
   ·match args,h with
    |[],h=>exact nf h
    |[J],h=>exact nf h
    |[J,a],h=>cases a<;>exact nf h
    |J::a::b::J2::J3,h=>cases a<;>first|exact nf h|(cases b<;>cases h)
    |[v,a,l],h=>
     cases a<;>first|exact nf h|skip
     rename_i a
     have h':(match oz g H l with
      |.il ys=>(match qB9 (.b .app xs ys) 1000,qB9 ys 900 with
       |true,true=>nd g hs (sc 1 (.c 0) a) fun hs=>nd g hs (sc 1 a (qQ8 xs)) fun hs=>k hs .none (pt g H o (.gp (qM7 (qM7 (xV4 a xs) ys) (xV6 a xs))))
       |J,J2=>false)
      |_=>false)=true:=h
     cases e4:oz g H l<;>rw[e4]at h'<;>first|exact nf h'|skip
     rename_i ys
     dsimp only at h'
     cases e5:qB9 (.b .app xs ys) 1000<;>rw[e5]at h'<;>first|exact nf h'|skip
     cases e6:qB9 ys 900<;>rw[e6]at h'<;>first|exact nf h'|skip
     obtain ⟨jl,e7,e8⟩:=qX5 (ρ:=ρ) G e4 (qQ3 rfl)
     refine qK0 G hv ?_ h'
     intro c1 h
     refine qK0 G hv ?_ h
     intro c2 h
     have c2':dI ρ a<=(dL ρ xs).length:=by
      have:=of_decide_eq_true c2
      rw[show (sc 1 a (qQ8 xs)).y=qQ8 xs from rfl,qW3]at this
      exact this
     have l1:=qC2 G e5
     have l2:=qC2 G e6
     have:=q _ _ _ hv h
     rw[e3]at this
     simp only[dO,qT7,wV0,wJ9]at this
     show (match [dV ρ v,.int (dI ρ a),dV ρ l] with
      |[J,.int a,.obj l]=>(match qQ0 (dH ρ H) l with
       |.il ys=>0<=a/\a<=(dL ρ xs).length/\(dL ρ xs).length+ys.length<=1000/\ys.length<=900/\K .none (qX7 (dH ρ H) j (.gp ((dL ρ xs).take a.toNat++ys++(dL ρ xs).drop a.toNat)))
       |_=>False)
      |_=>False)
     rw[e7]
     dsimp only
     rw[e8]
     refine ⟨of_decide_eq_true c1,c2',?_,l2,this⟩
     rw[<-List.length_append]
     exact l1
  ·match args,h with
   |[],h=>exact nf h
   |[J],h=>exact nf h
   |[J,a],h=>cases a<;>exact nf h
   |J::a::b::J2::J3,h=>cases a<;>first|exact nf h|(cases b<;>exact nf h)
   |[v,a,b],h=>
    cases a<;>first|exact nf h|skip
    cases b<;>first|exact nf h|skip
    rename_i a b
    have h':nd g hs (sc 1 (.c 0) a) (fun hs=>nd g hs (sc 1 a b) fun hs=>nd g hs (sc 1 b (qQ8 xs)) fun hs=>k hs (nw g H) (H++[.il (xV6 a (xV4 b xs))]))=true:=h
    refine qK0 G hv ?_ h'
    intro c1 h
    refine qK0 G hv ?_ h
    intro c2 h
    refine qK0 G hv ?_ h
    intro c3 h
    have c3':dI ρ b<=(dL ρ xs).length:=by
     have:=of_decide_eq_true c3
     rw[show (sc 1 b (qQ8 xs)).y=qQ8 xs from rfl,qW3]at this
     exact this
    have:=qK2 G q hv h
    simp only[dO,wV0,wJ9]at this
    exact ⟨of_decide_eq_true c1,of_decide_eq_true c2,c3',this⟩
 ·match args,h with
  |[],h=>exact nf h
  |J::J2::J3,h=>exact nf h
  |[v],h=>
   have:=q _ _ _ hv h
   show K (.int ((dL ρ xs).length:Int)) _
   rw[<-qW3]
   exact this
set_option tactic.hygienic true in
theorem a3X {P:Prop} {args:List SAV} {f:SAV->SAV->Int->Bool} (h:(match args with|[o,l,.int (.c i)]=>f o l i|_=>false)=true) (q:∀ o l i,args=[o,l,.int (.c i)]->f o l i=true->P):P:=by
 cases args<;>first|exact nf h|skip
 rename_i o r
 cases r<;>first|exact nf h|skip
 rename_i l r
 cases r<;>first|exact nf h|skip
 rename_i v r
 cases v<;>first|exact nf h|skip
 rename_i e
 cases e<;>first|exact nf h|skip
 cases r<;>first|exact nf h|exact q _ _ _ rfl h
set_option tactic.hygienic true in
theorem a2X {P:Prop} {args:List SAV} {f:SAV->E->Bool} (h:(match args with|[o,.int m]=>f o m|_=>false)=true) (q:∀ o m,args=[o,.int m]->f o m=true->P):P:=by
 cases args<;>first|exact nf h|skip
 rename_i o r
 cases r<;>first|exact nf h|skip
 rename_i v r
 cases v<;>first|exact nf h|skip
 cases r<;>first|exact nf h|exact q _ _ rfl h
set_option tactic.hygienic true in
theorem r3X {P:Prop} {args:List SAV} {f:SAV->SAV->E->Bool} (h:(match args with|[a,b,.int p]=>f a b p|_=>false)=true) (q:∀ a b p,args=[a,b,.int p]->f a b p=true->P):P:=by
 cases args<;>first|exact nf h|skip
 rename_i o r
 cases r<;>first|exact nf h|skip
 rename_i l r
 cases r<;>first|exact nf h|skip
 rename_i v r
 cases v<;>first|exact nf h|skip
 cases r<;>first|exact nf h|exact q _ _ _ rfl h
set_option tactic.hygienic true in
theorem xB0 (G:Gd ρ g) {args:List SAV} {hs:Fx} {H:SH} {k:KV} {K:AV->AH->Prop} (hv:HV ρ hs) (q:KO ρ k K) (h:zD4 g args hs H k=true):wI7 (dVs ρ args) (dH ρ H) K:=by
 ·refine a3X h ?_
  clear h
  intro o l i ea h
  subst ea
  cases e0:isO o<;>rw[e0]at h<;>first|exact nf h|skip
  cases e1:oz g H o<;>rw[e1]at h<;>first|exact nf h|skip
  rename_i c fs
  cases fs with
  |cons J J2=>exact nf h
  |nil=>
   cases e2:oz g H l<;>rw[e2]at h<;>first|exact nf h|skip
   rename_i xs
   dsimp only at h
   cases e3:Nat.beq c 3<;>rw[e3]at h<;>first|exact nf h|skip
   cases e4:decide (i=8)<;>rw[e4]at h<;>first|exact nf h|skip
   cases e5:isK xs<;>rw[e5]at h<;>first|exact nf h|skip
   obtain ⟨j,a1,a2,a3⟩:=qF3 (ρ:=ρ) G e0 e1 (qQ3 rfl)
   obtain ⟨j2,b1,b2⟩:=qX5 (ρ:=ρ) G e2 (qQ3 rfl)
   rw[qJ2 e5]at b2
   have:=q _ _ _ hv h
   rw[a3]at this
   show wI7 [dV ρ o,dV ρ l,.int i] _ _
   rw[a1,b1]
   show (match qQ0 (dH ρ H) j,qQ0 (dH ρ H) j2 with|.inst c fs,.il xs=>(match Nat.beq c 3,fs,xs with|true,[],[]=>i=8/\K .none (qX7 (dH ρ H) j (.gp []))|J,J2,J3=>False)|J,J2=>False)
   rw[a2,b2]
   show (match Nat.beq c 3,([]:Loc),([]:List Int) with|true,[],[]=>i=8/\K .none (qX7 (dH ρ H) j (.gp []))|J,J2,J3=>False)
   rw[e3]
   exact ⟨of_decide_eq_true e4,this⟩
set_option tactic.hygienic true in
theorem xB7 (G:Gd ρ g) {args:List SAV} {hs:Fx} {H:SH} {k:KV} {K:AV->AH->Prop} {KE:AH->Prop} {n:Nat} (hv:HV ρ hs) (q:KO ρ k K) (h:zP7 g args hs H k=true):spN (n+1) 946 (dVs ρ args) (dH ρ H) K KE:=by
 ·refine a2X h ?_
  clear h
  intro o m ea h
  subst ea
  cases e0:isO o<;>rw[e0]at h<;>first|exact nf h|skip
  cases e1:oz g H o<;>rw[e1]at h<;>first|exact nf h|skip
  rename_i l
  refine qK0 G hv ?_ h
  intro c1 h
  obtain ⟨j,a1,a2⟩:=qX5 (ρ:=ρ) G e1 (qQ3 rfl)
  have e2:oz g (H++[.il (.c 0)]) o=.il l:=by
   obtain ⟨k',rfl⟩:∃ k',o=.obj k':=by cases o<;>first|(exact nf e0;done)|exact ⟨_,rfl⟩
   have e3:(match Nat.ble g.n0 k' with|true=>xZ6 H (k'-g.n0)|false=>.dead)=SAO.il l:=e1
   show (match Nat.ble g.n0 k' with|true=>xZ6 (H++[.il (.c 0)]) (k'-g.n0)|false=>.dead)=SAO.il l
   cases e4:Nat.ble g.n0 k'<;>rw[e4]at e3
   ·injection e3
   ·have key:∀(A B:SH) (i:Nat),xZ6 A i≠.dead->xZ6 (A++B) i=xZ6 A i:=by
     intro A
     induction A with
     |nil=>intro B i h;exact absurd rfl h
     |cons a A ih=>intro B i h;cases i with
      |zero=>rfl
      |succ i=>exact ih B i h
    exact (key H _ _ (by rw[show xZ6 H (k'-g.n0)=_ from e3];simp)).trans e3
  obtain ⟨j',b1,b2,b3⟩:=qF3 (ρ:=ρ) G e0 e2 (qQ3 rfl)
  rw[a1]at b1
  (injection b1 with b1;subst b1)
  have:=q _ _ _ hv h
  rw[b3,qN2]at this
  show spN (n+1) 946 [dV ρ o,.int (dI ρ m)] _ _ _
  rw[a1]
  exact yU1 (S:=spN) (fun J=>rfl) a2 (of_decide_eq_true c1) this
theorem xS3 (G:Gd ρ g) {args:List SAV} {hs:Fx} {H:SH} {k:KV} {K:AV->AH->Prop} {KE:AH->Prop} {n:Nat} (hv:HV ρ hs) (q:KO ρ k K) (h:yI1 g args hs H k=true):spN (n+1) 972 (dVs ρ args) (dH ρ H) K KE:=by
 ·refine r3X h ?_
  clear h
  intro a b p ea h
  subst ea
  cases e0:oz g H a<;>rw[e0]at h<;>first|exact nf h|skip
  cases e1:oz g H b<;>rw[e1]at h<;>first|exact nf h|skip
  obtain ⟨j,a1,a2⟩:=qX5 (ρ:=ρ) G e0 (qQ3 rfl)
  obtain ⟨j2,b1,b2⟩:=qX5 (ρ:=ρ) G e1 (qQ3 rfl)
  have:=q _ _ _ hv h
  rw[qN2]at this
  show spN (n+1) 972 [dV ρ a,dV ρ b,.int (dI ρ p)] _ _ _
  rw[a1,b1]
  exact yN3 (S:=spN) (fun J=>rfl) a2 b2 this
set_option tactic.hygienic true in
theorem yV2 (G:Gd ρ g) {n:Nat} (C:SpO ρ cl (spN n)):SpO ρ (sS g cl) (spN (n+1)):=by
 refine ⟨fun {f args hs H k ke K KE} hv q qe h=>?_⟩
 unfold sS at h
 cases f1:Nat.beq f 946<;>rw[f1]at h
 ·cases f2:Nat.beq f 972<;>rw[f2]at h<;>dsimp only at h
  ·show spS (spN n) f (dVs ρ args) (dH ρ H) K KE
   unfold spS
   cases e1:qW8 fnT f with
   |some p=>
    rw[e1]at h
    exact wG6 G C hv q qe h
   |none=>
    rw[e1]at h
    dsimp only at h ⊢
    cases e2:qW8 fnC f with
    |some p=>
     rw[e2]at h
     exact wG6 G C hv q (fun J J J h=>by exact nf h) h
    |none=>
     rw[e2]at h
     dsimp only at h ⊢
     cases e3:Nat.beq f 112<;>rw[e3]at h<;>dsimp only at h ⊢
     ·cases e4:Nat.beq f 601<;>rw[e4]at h<;>dsimp only at h ⊢
      ·cases e5:Nat.beq f 404<;>rw[e5]at h<;>dsimp only at h ⊢
       ·cases e6:Nat.beq f 958<;>rw[e6]at h<;>dsimp only at h ⊢
        ·cases e7:Nat.beq f 965<;>rw[e7]at h<;>dsimp only at h ⊢
         ·match args,h with
          |[],h=>exact nf h
          |o::r,h=>
           have h':(match isO o,oz g H o with|true,.gp xs=>yW6 g f o xs (o::r) hs H k|J,J2=>false)=true:=h
           cases e8:isO o<;>rw[e8]at h'<;>first|exact nf h'|skip
           cases e9:oz g H o<;>rw[e9]at h'<;>first|exact nf h'|skip
           rename_i xs
           obtain ⟨j,a1,a2⟩:=qX5 (ρ:=ρ) G e9 (qQ3 rfl)
           have gz:=zJ8 G hv q e8 e9 a1 h'
           have e10:yE9 (dVs ρ (o::r)) (dH ρ H)=some (j,dL ρ xs):=by
            show (match dV ρ o::dVs ρ r with|.obj j::J=>(match qQ0 (dH ρ H) j with|.gp xs=>some (j,xs)|_=>none)|_=>none)=_
            rw[a1]
            show (match qQ0 (dH ρ H) j with|.gp xs=>some (j,xs)|_=>none)=_
            rw[a2]
            rfl
           rw[e10]
           exact gz
         ·exact wG6 G C hv (fun J J J hv h=>q _ (.bool true) _ hv h) (fun J J hv h=>q _ (.bool false) _ hv h) h
        ·exact wG6 G C hv q (fun J J hv h=>q _ .none _ hv h) h
       ·exact xB0 G hv q h
      ·match args,h with
       |[],h=>exact nf h
       |[J],h=>exact nf h
       |[J,J2],h=>exact nf h
       |J::J2::J3::J4::J5,h=>exact nf h
       |[a,b,c],h=>exact wG6 G C (args:=[a,b,c,.int (.c 8)]) hv q (fun J J J h=>by exact nf h) h
     ·match args,h with
      |[],h=>exact nf h
      |[J],h=>exact nf h
      |[J,J2],h=>exact nf h
      |J::J2::J3::J4::J5,h=>exact nf h
      |[a,b,c],h=>exact wG6 G C (args:=[a,b,c,.bool false]) hv q (fun J J J h=>by exact nf h) h
  ·rw[qP7 f2]
   exact xS3 G hv q h
 ·rw[qP7 f1]
  exact xB7 G hv q h
theorem xC9 (G:Gd ρ g):∀ n:Nat,SpO ρ (sN g n) (spN n):=@fun ξ=>match @ξ with
 |0=>⟨fun J J J h=>by exact nf h⟩
 |n+1=>yV2 G (xC9 G n)
end
end Mine
end
section
namespace Mine
noncomputable def xM0:List Nat:=[116,101,120,116]
noncomputable def xR1:List Nat:=[102,105,108,101]
noncomputable def wV9:List Nat:=[98,97,99,107,117,112]
noncomputable def wQ4:List Nat:=[117,110,115,97,118,101,100]
noncomputable def qU4:List Nat:=[99,104,97,110,103,101,100]
noncomputable def wY0:List Nat:=[111,116,104,101,114,115]
noncomputable def zK5:List Nat:=[112,111,105,110,116]
noncomputable def wF0:List Nat:=[98,97,99,107,101,100]
noncomputable def xX8:List Nat:=[97,115,105,100,101]
noncomputable def xQ6:List Nat:=[110,101,119,101,114]
noncomputable def s_f:List Nat:=[47,100,47,102]
noncomputable def s_b:List Nat:=[47,100,47,102,126]
noncomputable def s_u:List Nat:=[47,100,47,35,102,35]
noncomputable def sI (n:Nat):SAV:=.int (.v n)
noncomputable def zI1 (sort:Int) (v:SAV) (st:SAV):SAO:=.inst 6 [(206,.int (.c sort)),(60,v),(211,st),(119,.bool true)]
noncomputable def esS (a b:Bool):List (List Nat×SAV):=([47],.obj 8)::([47,100],.obj 9)::(match a,b with
 |false,false=>[(s_f,.obj 10)]
 |true,false=>[(s_b,.obj 12),(s_f,.obj 10)]
 |false,true=>[(s_f,.obj 10),(s_u,.obj 14)]
 |true,true=>[(s_b,.obj 12),(s_f,.obj 10),(s_u,.obj 14)])
noncomputable def opS (b:Bool) (v:SAV):SAV:=match b with|true=>v|false=>.none
noncomputable def opO (b:Bool) (o:SAO):SAO:=match b with|true=>o|false=>.dead
noncomputable def H0 (a b:Bool):SH:=[.il (.v 1),.inst 7 [(55,sI 0),(129,.int (.c (-1))),(74,.obj 7)],.sd (esS a b),zI1 0 .none (.int (.c 0)),zI1 0 .none (sI 1),zI1 1 (.obj 11) (sI 2),.il (.v 3),opO a (zI1 1 (.obj 13) (sI 3)),opO a (.il (.v 4)),opO b (zI1 1 (.obj 15) (sI 4)),opO b (.il (.v 5)),.inst 5 [(163,.int (.c 1)),(153,.str [102]),(222,.obj 17),(146,.obj 18),(176,sI 10),(51,.int (.c 1)),(254,.int (.b .add (.u .len (.v 2)) (.c 1))),(144,.none),(108,.bool true),(114,.bool false),(231,sI 7),(59,sI 8),(197,sI 9),(135,.obj 20),(238,.none),(179,.none),(171,.none),(136,.none),(217,.none),(81,.obj 21)],.gp (.v 2),.inst 4 [(194,.obj 19)],.sd [],.il (.c 0),.inst 2 [(153,.str s_f),(235,.str s_f),(211,sI 5),(102,.sb 2),(42,sI 6)],.sd [(xM0,.pl 0),(xR1,.pl 1),(wV9,opS a (.pl 2)),(wQ4,opS b (.pl 3)),(qU4,.sb 0),(wY0,.sb 1),(zK5,sI 10),(wF0,.sb 2),(xX8,.sb 3),(xQ6,.sb 4)]]
noncomputable def lc0:qX0:=[(63,.obj 5),(234,.obj 6),(52,.obj 16),(186,.obj 22)]
noncomputable def wG7 (a b:Bool):List Nat:=match a,b with
 |false,false=>[0,1]
 |true,false=>[0,1,2]
 |false,true=>[0,1,3]
 |true,true=>[0,1,2,3]
structure Th where
 (i l:List E) (b h:List SAV) (s:List (Option Nat)) (p:List Nat)
noncomputable def qZ6:List E->Nat->E
 |[],J=>.c 0
 |x::J,0=>x
 |J::r,n+1=>qZ6 r n
noncomputable def qW9:List SAV->Nat->SAV
 |[],J=>.none
 |x::J,0=>x
 |J::r,n+1=>qW9 r n
noncomputable def zA9:List (Option Nat)->Nat->Option Nat
 |[],J=>none
 |x::J,0=>x
 |J::r,n+1=>zA9 r n
noncomputable def isT:Option Bool->Bool
 |some b=>b
 |none=>false
noncomputable def wH3 (g:Gx) (hs:Fx) (v:SAV):Option Bool:=match v with
 |.bool b=>some b
 |.sb n=>ask g hs (sc 4 (.v n) (.c 0))
 |J=>none
noncomputable def yJ4 (x:E):Option Nat:=match x with
 |.u o l=>match o,l with|.len,.v n=>some n|J,J2=>none
 |J=>none
noncomputable def sbI (θ:Th) (p:E):Option E:=match p with
 |.v n=>some (qZ6 θ.i n)
 |.c i=>some (.c i)
 |.b o x y=>match Nat.beq (bN o) 0,yJ4 x,isK y with|true,some n,some i=>some (qF5 (qQ8 (qZ6 θ.l n)) (.c i))|J,J2,J3=>none
 |J=>none
noncomputable def okI (g:Gx) (hs:Fx) (θ:Th) (p e:E):Bool:=match sbI θ p with
 |some q=>(match eqE q e with|true=>true|false=>isT (ask g hs (sc 2 q e)))
 |none=>false
noncomputable def okL (g:Gx) (hs:Fx) (θ:Th) (p e:E):Bool:=match p with
 |.v n=>isT (ask g hs (sc 3 (qZ6 θ.l n) e))
 |.c J=>match e with|.c J=>true|J=>false
 |J=>false
noncomputable def zG1 (x y:SAV):Bool:=match x,y with
 |.sb n,.sb m=>Nat.beq n m
 |J,J2=>false
noncomputable def okB (g:Gx) (hs:Fx) (x y:SAV):Bool:=match wH3 g hs x,wH3 g hs y with
 |some a,some b=>xP0 a b
 |J,J2=>zG1 x y
noncomputable def zZ0 (a b:SAV):Bool:=match a,b with
 |.obj i,.obj j=>Nat.beq i j
 |.pl i,.pl j=>Nat.beq i j
 |J,J2=>false
noncomputable def okV (g:Gx) (hs:Fx) (θ:Th) (p v:SAV):Bool:=match p with
 |.none=>(match v with|.none=>true|J=>false)
 |.bool a=>(match v with|.bool b=>xP0 a b|J=>false)
 |.str s=>(match v with|.str t=>eqL s t|J=>false)
 |.int p=>(match v with|.int e=>okI g hs θ p e|J=>false)
 |.obj k=>(match v with|.obj j=>(match Nat.ble 5 k,zA9 θ.s (k-5) with|true,some i=>Nat.beq i j|J,J2=>false)|J=>false)
 |.sb n=>okB g hs (qW9 θ.b n) v
 |.pl n=>(match qJ3 θ.p n with|true=>zZ0 (qW9 θ.h n) v|false=>false)
noncomputable def okF (g:Gx) (hs:Fx) (θ:Th):qX0->qX0->Bool
 |[],q=>(match q with|[]=>true|J=>false)
 |(a,p)::r,q=>match q with
  |(b,v)::q=>(match Nat.beq a b,okV g hs θ p v with|true,true=>okF g hs θ r q|J,J2=>false)
  |J=>false
noncomputable def okD (g:Gx) (hs:Fx) (θ:Th):List (List Nat×SAV)->List (List Nat×SAV)->Bool
 |[],q=>(match q with|[]=>true|J=>false)
 |(a,p)::r,q=>match q with
  |(b,v)::q=>(match eqL a b,okV g hs θ p v with|true,true=>okD g hs θ r q|J,J2=>false)
  |J=>false
noncomputable def okO (g:Gx) (hs:Fx) (θ:Th) (p o:SAO):Bool:=match p with
 |.inst c fs=>(match o with|.inst d gs=>(match Nat.beq c d with|true=>okF g hs θ fs gs|false=>false)|J=>false)
 |.il p=>(match o with|.il e=>okL g hs θ p e|J=>false)
 |.gp p=>(match o with|.gp e=>okL g hs θ p e|J=>false)
 |.sd es=>(match o with|.sd ds=>okD g hs θ es ds|J=>false)
 |J=>false
noncomputable def okH (g:Gx) (hs:Fx) (θ:Th) (H:SH):List (Option Nat)->SH->Bool
 |[],ps=>(match ps with|[]=>true|J=>false)
 |s::ss,ps=>match ps with
  |[]=>false
  |p::r=>match s with
   |none=>(match p with|.dead=>okH g hs θ H ss r|J=>false)
   |some k=>(match Nat.ble g.n0 k,okO g hs θ p (oz g H (.obj k)) with|true,true=>okH g hs θ H ss r|J,J2=>false)
noncomputable def qY7:List (Option Nat)->List Nat
 |[]=>[]
 |none::r=>qY7 r
 |some k::r=>k::qY7 r
noncomputable def yI5 (ks:List Nat) (v:SAV):Bool:=match v with
 |.obj k=>(match qJ3 ks k with|true=>false|false=>true)
 |.pl J=>true
 |J=>false
noncomputable def okP (g:Gx) (hs:Fx) (θ:Th) (H:SH) (n:Nat):Bool:=match oz g H (qW9 θ.h n) with
 |.il e=>(match yI5 (qY7 θ.s) (qW9 θ.h n) with|true=>isT (ask g hs (sc 3 (qZ6 θ.l (2+n)) e))|false=>false)
 |J=>false
noncomputable def zN1 (g:Gx) (hs:Fx) (θ:Th) (H:SH):List Nat->Bool
 |[]=>true
 |n::r=>match okP g hs θ H n with|true=>zN1 g hs θ H r|false=>false
noncomputable def yZ3:List Nat->Bool
 |[]=>true
 |x::r=>match qJ3 r x with|true=>false|false=>yZ3 r
noncomputable def wJ5 (a b:Option Bool):Bool:=match a,b with|some x,some y=>xP0 x y|J,J2=>false
noncomputable def xA5 (g:Gx) (hs:Fx):List SC->Bool
 |[]=>true
 |c::r=>match ask g hs c with|some b=>(match b with|true=>xA5 g hs r|false=>false)|none=>false
noncomputable def csN (θ:Th):List SC:=
 let i:=qZ6 θ.i
 let l:=qZ6 θ.l
 [sc 1 (.c 1) (i 10),sc 1 (i 10) (qF5 (qQ8 (l 2)) (.c 1)),sc 1 (qQ8 (l 2)) (i 11),sc 1 (qQ8 (l 3)) (i 11),sc 1 (qQ8 (l 4)) (i 11),sc 1 (qQ8 (l 5)) (i 11),sc 1 (i 9) (i 7),sc 1 (i 6) (i 7),sc 1 (.c 0) (i 6),sc 1 (.c 1) (i 7),sc 1 (i 2) (i 0),sc 1 (i 5) (i 0),sc 1 (i 4) (i 0),sc 1 (.c 4) (i 11)]
noncomputable def okN (g:Gx) (hs:Fx) (θ:Th) (b:Bool):Bool:=
 match xA5 g hs (csN θ),wJ5 (wH3 g hs (qW9 θ.b 0)) (ask g hs (sc 0 (qZ6 θ.i 9) (qZ6 θ.i 7))),wJ5 ((wH3 g hs (qW9 θ.b 1)).map (!·)) (ask g hs (sc 2 (qZ6 θ.i 2) (qZ6 θ.i 5))) with
 |true,true,true=>(match qB9 (qZ6 θ.l 1) 100,(match wH3 g hs (qW9 θ.b 0) with|some t=>(match t with|true=>wJ5 (wH3 g hs (qW9 θ.b 3)) (ask g hs (sc 2 (qZ6 θ.i 6) (qZ6 θ.i 7)))|false=>true)|none=>false),(match b with|true=>wJ5 (wH3 g hs (qW9 θ.b 4)) (ask g hs (sc 0 (qZ6 θ.i 2) (qZ6 θ.i 4)))|false=>true) with
  |true,true,true=>true
  |J,J2,J3=>false)
 |J,J2,J3=>false
noncomputable def gF (o:SAO) (a:Nat):SAV:=match o with|.inst J fs=>(lkF fs a).getD .none|J=>.none
noncomputable def gI (v:SAV):E:=match v with|.int e=>e|J=>.c 0
noncomputable def gL (o:SAO):E:=match o with|.il l=>l|.gp l=>l|J=>.c 0
noncomputable def gK (v:SAV):Nat:=match v with|.obj k=>k|J=>0
noncomputable def gD (o:SAO) (s:List Nat):SAV:=match o with|.sd es=>(lkD es s).getD .none|J=>.none
noncomputable def yM2 (o:SAO) (s:List Nat):Bool:=match o with|.sd es=>(lkD es s).isSome|J=>false
noncomputable def opN (b:Bool) (k:Nat):Option Nat:=match b with|true=>some k|false=>none
noncomputable def gV (lc:qX0) (x:Nat):Nat:=match lkF lc x with|some v=>gK v|none=>0
noncomputable def find (g:Gx) (H:SH) (lc:qX0) (d:E):Th×Bool×Bool:=
 let o:=fun k=>oz g H (.obj k)
 let k5:=gV lc 63
 let k6:=gV lc 234
 let k16:=gV lc 52
 let k22:=gV lc 186
 let tree:=o k6
 let kes:=gK (gF tree 74)
 let es:=o kes
 let a:=yM2 es s_b
 let b:=yM2 es s_u
 let k8:=gK (gD es [47])
 let k9:=gK (gD es [47,100])
 let hf:=gK (gD es s_f)
 let hb:=gK (gD es s_b)
 let hu:=gK (gD es s_u)
 let cf:=gK (gF (o hf) 60)
 let cb:=gK (gF (o hb) 60)
 let cu:=gK (gF (o hu) 60)
 let bu:=o k16
 let kt:=gK (gF bu 222)
 let km:=gK (gF bu 146)
 let kr:=gK (gF (o km) 194)
 let kl:=gK (gF bu 135)
 let kv:=gK (gF bu 81)
 let rc:=o k22
 let clk:=gI (gF tree 55)
 (⟨[clk,gI (gF (o k9) 211),gI (gF (o hf) 211),gI (gF (o hb) 211),(match b with|true=>gI (gF (o hu) 211)|false=>clk),gI (gF (o kv) 211),gI (gF (o kv) 42),gI (gF bu 231),gI (gF bu 59),gI (gF bu 197),gI (gF bu 176),qF5 (.v 11) d],[.c 0,gL (o k5),gL (o kt),gL (o cf),gL (o cb),gL (o cu)],[gD rc qU4,gD rc wY0,gD rc wF0,gD rc xX8,gD rc xQ6,.bool b],[gD rc xM0,gD rc xR1,gD rc wV9,gD rc wQ4],[some k5,some k6,some kes,some k8,some k9,some hf,some cf,opN a hb,opN a cb,opN b hu,opN b cu,some k16,some kt,some km,some kr,some kl,some kv,some k22],wG7 a b⟩,a,b)
noncomputable def rsv (g:Gx):List SAV->Fx->(Fx->Bool)->Bool
 |[],hs,k=>k hs
 |v::r,hs,k=>match v with
  |.sb n=>dec g hs (sc 4 (.v n) (.c 0)) fun hs J=>rsv g r hs k
  |J=>rsv g r hs k
noncomputable def yZ5 (g:Gx) (hs:Fx) (θ:Th) (lc:qX0):qX0->Bool
 |[]=>true
 |(x,p)::r=>match lkF lc x with|some v=>(match okV g hs θ p v with|true=>yZ5 g hs θ lc r|false=>false)|none=>false
noncomputable def yK5 (g:Gx) (lp:qX0) (θ:Th) (a b:Bool) (hs:Fx) (lc:qX0) (H:SH):Bool:=
 match yZ3 (qY7 θ.s),yZ5 g hs θ lc lp,okH g hs θ H θ.s (H0 a b) with
 |true,true,true=>(match zN1 g hs θ H θ.p with|true=>okN g hs θ b|false=>false)
 |J,J2,J3=>false
noncomputable def lfK (g:Gx) (lp:qX0) (d:E) (hs:Fx) (lc:qX0) (H:SH):Bool:=match find g H lc d with
 |(θ,a,b)=>rsv g [qW9 θ.b 0,qW9 θ.b 1,qW9 θ.b 3,qW9 θ.b 4] hs fun hs=>yK5 g lp θ a b hs lc H
noncomputable def qY6 (g:Gx) (a b:Bool) (n:Nat) (hs:Fx):Bool:=qO3 g (sN g n) (fun J J=>false) (fun J J J=>false) wN0 lc0 hs (H0 a b) fun hs lc H=>lfK g lc0 (.c 3) hs lc H
noncomputable def jJ6 (g:Gx) (n:Nat):Bool:=qO3 g (sN g n) (fun J J=>false) (fun J J J=>false) xG4 [(198,.obj 0)] [] [.fl (.v 0)] fun hs lc H=>
 sev g (sN g n) xD7 lc hs H fun hs v H=>match v with
  |.int m=>(match isT (ask g hs (sc 1 (.c 0) m)),isT (ask g hs (sc 1 m (.c 12))),lfK g lc0 (.c 3) hs lc H with|true,true,true=>true|J,J2,J3=>false)
  |J=>false
end Mine
end
namespace Mine
open PySem PySem.W PySem.Calls PyProof.Rows
noncomputable def bOf:AV->Bool
 |.bool b=>b
 |J=>false
structure Sb (ρ ρ':Rho) (θ:Th):Prop where
 i:∀ n,ρ'.i n=dI ρ (qZ6 θ.i n)
 l:∀ n,ρ'.l n=dL ρ (qZ6 θ.l n)
 b:∀ n,ρ'.b n=bOf (dV ρ (qW9 θ.b n))
structure Hd (ρ ρ':Rho) (θ:Th) (φ φu:FP):Prop where
 s:∀ k i f,zA9 θ.s k=some i->φ[i]?=some f->φu[5+k]?=some f
 h:∀ n i f,qJ3 θ.p n=true->dV ρ (qW9 θ.h n)=.obj i->φ[i]?=some f->φu[ρ'.h n]?=some f
section
variable {ρ ρ':Rho} {g:Gx} {hs:Fx} {θ:Th} {φ φu:FP}
theorem zI5 {o:Option Bool} (h:isT o=true):o=some true:=by
 cases o with
 |none=>exact nf h
 |some b=>subst h;rfl
theorem asT (G:Gd ρ g) (hv:HV ρ hs) {c:SC} (h:isT (ask g hs c)=true):dC ρ c=true:=qB1 G hv (zI5 h)
set_option tactic.hygienic true in
theorem zY5 {x:E} {n:Nat} (h:yJ4 x=some n):x=.u .len (.v n):=by
 cases x<;>first|(injection h;done)|skip
 rename_i o l
 cases o<;>first|(injection h;done)|skip
 cases l<;>(first|obtain rfl:=Option.some.inj h|(injection h;done))
 rfl
set_option tactic.hygienic true in
theorem zB4 (S:Sb ρ ρ' θ) {p q:E} (h:sbI θ p=some q):dI ρ' p=dI ρ q:=by
 cases p with
 |v n=>obtain rfl:=Option.some.inj h;exact S.i n
 |c i=>obtain rfl:=Option.some.inj h;rfl
 |b o x y=>
  have h':(match Nat.beq (bN o) 0,yJ4 x,isK y with|true,some n,some i=>some (qF5 (qQ8 (qZ6 θ.l n)) (.c i))|J,J2,J3=>none)=some q:=h
  cases e1:Nat.beq (bN o) 0<;>rw[e1]at h'<;>first|(injection h';done)|skip
  cases e2:yJ4 x<;>rw[e2]at h'<;>first|(injection h';done)|skip
  cases e3:isK y<;>rw[e3]at h'<;>(first|obtain rfl:=Option.some.inj h'|(injection h';done))
  rename_i n i
  rw[qA3,qW3,<-S.l,zY5 e2,qJ2 e3,show o=.add from xN1 e1]
  rfl
 |_=>injection h
set_option tactic.hygienic true in
theorem zL3 (S:Sb ρ ρ' θ) (G:Gd ρ g) (hv:HV ρ hs) {p e:E} (h:okI g hs θ p e=true):dI ρ' p=dI ρ e:=by
 unfold okI at h
 cases e1:sbI θ p<;>rw[e1]at h<;>first|exact nf h|(injection h;done)|skip
 rename_i q
 dsimp only at h
 rw[zB4 S e1]
 cases e2:eqE q e<;>rw[e2]at h
 ·exact of_decide_eq_true (asT G hv h)
 ·rw[qZ2 e2]
theorem xH6 (S:Sb ρ ρ' θ) (G:Gd ρ g) (hv:HV ρ hs) {p e:E} (h:okL g hs θ p e=true):dL ρ' p=dL ρ e:=by
 cases p with
 |v n=>exact (S.l n).trans (of_decide_eq_true (asT G hv h))
 |c i=>cases e<;>first|exact nf h|rfl
 |_=>exact nf h
theorem qE8 (G:Gd ρ g) (hv:HV ρ hs) {v:SAV} {b:Bool} (h:wH3 g hs v=some b):dV ρ v=.bool b:=by
 cases v with
 |bool b'=>obtain rfl:=Option.some.inj h;rfl
 |sb n=>exact congrArg AV.bool (qB1 (c:=sc 4 (.v n) (.c 0)) G hv h)
 |_=>injection h
theorem zI9 (G:Gd ρ g) (hv:HV ρ hs) {x y:SAV} (h:okB g hs x y=true):dV ρ y=.bool (bOf (dV ρ x)):=by
 have two:zG1 x y=true->dV ρ y=.bool (bOf (dV ρ x)):=fun h=>by
  cases x<;>first|exact nf h|(injection h;done)|skip
  cases y<;>first|exact nf h|(injection h;done)|skip
  rw[qP7 (show Nat.beq _ _=true from h)]
  rfl
 unfold okB at h
 cases e1:wH3 g hs x<;>rw[e1]at h
 ·exact two h
 ·cases e2:wH3 g hs y<;>rw[e2]at h
  ·exact two h
  ·rw[qE8 G hv e1,qE8 G hv e2,qM4 h]
   rfl
theorem xA6 {a b:SAV} (h:zZ0 a b=true):∃ i,dV ρ a=.obj i/\dV ρ b=.obj i:=by
 cases a<;>first|exact nf h|(injection h;done)|skip
 all_goals cases b<;>first|exact nf h|(injection h;done)|skip
 ·exact ⟨_,congrArg _ (qP7 h),rfl⟩
 ·exact ⟨_,congrArg (fun n=>AV.obj (ρ.h n)) (qP7 h),rfl⟩
set_option tactic.hygienic true in
theorem wR2 (S:Sb ρ ρ' θ) (D:Hd ρ ρ' θ φ φu) (G:Gd ρ g) (hv:HV ρ hs) {p v:SAV} (h:okV g hs θ p v=true) {w:Value} (r:qQ1 φ (dV ρ v) w):qQ1 φu (dV ρ' p) w:=by
 cases p with
 |none=>cases v<;>first|exact nf h|(injection h;done)|exact r
 |bool a=>
  cases v<;>first|exact nf h|(injection h;done)|skip
  rename_i b
  rw[qM4 (a:=a) (b:=b) h]
  exact r
 |str s=>
  cases v<;>first|exact nf h|(injection h;done)|skip
  rename_i t
  rw[qJ7.mp (show eqL s t=true from h)]
  exact r
 |int p=>
  cases v<;>first|exact nf h|(injection h;done)|skip
  rename_i e
  show ∃ t,w=.int (dI ρ' p) t
  rw[zL3 S G hv (show okI g hs θ p e=true from h)]
  exact r
 |obj k=>
  cases v<;>first|exact nf h|(injection h;done)|skip
  rename_i j
  have h':(match Nat.ble 5 k,zA9 θ.s (k-5) with|true,some i=>Nat.beq i j|J,J2=>false)=true:=h
  cases e1:Nat.ble 5 k<;>rw[e1]at h'<;>first|exact nf h'|(injection h';done)|skip
  cases e2:zA9 θ.s (k-5)<;>rw[e2]at h'<;>first|exact nf h'|(injection h';done)|skip
  rename_i i
  obtain ⟨a,l,e3,rfl⟩:=r
  have:=D.s _ _ _ e2 (by rw[qP7 h'];exact e3)
  rw[Nat.add_sub_cancel' (Nat.le_of_ble_eq_true e1)]at this
  exact ⟨a,l,this,rfl⟩
 |sb n=>
  have e:=zI9 G hv (show okB g hs (qW9 θ.b n) v=true from h)
  rw[e]at r
  show w=.bool (ρ'.b n)
  rw[S.b]
  exact r
 |pl n=>
  have h':(match qJ3 θ.p n with|true=>zZ0 (qW9 θ.h n) v|false=>false)=true:=h
  cases e1:qJ3 θ.p n<;>rw[e1]at h'<;>first|exact nf h'|(injection h';done)|skip
  obtain ⟨i,e2,e3⟩:=xA6 (ρ:=ρ) h'
  rw[e3]at r
  obtain ⟨a,l,e4,rfl⟩:=r
  exact ⟨a,l,D.h _ _ _ e1 e2 e4,rfl⟩
theorem wU3 (S:Sb ρ ρ' θ) (D:Hd ρ ρ' θ φ φu) (G:Gd ρ g) (hv:HV ρ hs):∀{fs gs:qX0},okF g hs θ fs gs=true->∀ x,((lk (dF ρ gs) x).isSome=true->(lk (dF ρ' fs) x).isSome=true)/\∀ au,lk (dF ρ' fs) x=some au->∃ av,lk (dF ρ gs) x=some av/\∀ w,qQ1 φ av w->qQ1 φu au w:=@fun ξ ξ2=>no_implicit_lambda%(match @ξ,@ξ2 with
 |[],gs=>@fun h x=>by
  cases gs with
  |nil=>exact ⟨fun h=>h,fun J h=>by injection h⟩
  |cons J J2=>exact nf h
 |(a,p)::r,[]=>@fun h x=>by exact nf h
 |(a,p)::r,(b,v)::q=>@fun h x=>by
  have h':(match Nat.beq a b,okV g hs θ p v with|true,true=>okF g hs θ r q|J,J2=>false)=true:=h
  cases e1:Nat.beq a b<;>rw[e1]at h'<;>first|exact nf h'|(injection h';done)|skip
  cases e2:okV g hs θ p v<;>rw[e2]at h'<;>first|exact nf h'|(injection h';done)|skip
  have ih:=wU3 S D G hv h' x
  rw[<-qP7 e1]
  show ((match Nat.beq a x with|true=>some (dV ρ v)|false=>lk (dF ρ q) x).isSome=true->(match Nat.beq a x with|true=>some (dV ρ' p)|false=>lk (dF ρ' r) x).isSome=true)/\
   ∀ au,(match Nat.beq a x with|true=>some (dV ρ' p)|false=>lk (dF ρ' r) x)=some au->∃ av,(match Nat.beq a x with|true=>some (dV ρ v)|false=>lk (dF ρ q) x)=some av/\∀ w,qQ1 φ av w->qQ1 φu au w
  cases e3:Nat.beq a x with
  |true=>exact ⟨fun J=>rfl,fun au e=>by obtain rfl:=Option.some.inj e;exact ⟨_,rfl,fun w r=>wR2 S D G hv e2 r⟩⟩
  |false=>exact ih
 )
theorem xI4 (S:Sb ρ ρ' θ) (D:Hd ρ ρ' θ φ φu) (G:Gd ρ g) (hv:HV ρ hs) {P:Params}:∀{es ds:List (List Nat×SAV)} {ents:List DictEntry},okD g hs θ es ds=true->wK5 P φ (dD ρ ds) ents->wK5 P φu (dD ρ' es) ents/\(dD ρ' es).map (·.1)=(dD ρ ds).map (·.1):=@fun ξ ξ2=>no_implicit_lambda%(match @ξ,@ξ2 with
 |[],ds=>@fun ents h r=>by
  cases ds with
  |nil=>exact ⟨r,rfl⟩
  |cons J J2=>exact nf h
 |(a,p)::es,[]=>@fun ents h r=>by exact nf h
 |(a,p)::es,(b,v)::ds=>@fun ents h r=>by
  have h':(match eqL a b,okV g hs θ p v with|true,true=>okD g hs θ es ds|J,J2=>false)=true:=h
  cases e1:eqL a b<;>rw[e1]at h'<;>first|exact nf h'|(injection h';done)|skip
  cases e2:okV g hs θ p v<;>rw[e2]at h'<;>first|exact nf h'|(injection h';done)|skip
  obtain ⟨t,w,es',rfl,r1,r2⟩:=r
  have ih:=xI4 S D G hv h' r2
  rw[qJ7.mp e1]
  exact ⟨⟨t,w,es',rfl,wR2 S D G hv e2 r1,ih.1⟩,congrArg (b::·) ih.2⟩
 )
set_option tactic.hygienic true in
theorem zR3 (S:Sb ρ ρ' θ) (D:Hd ρ ρ' θ φ φu) (G:Gd ρ g) (hv:HV ρ hs) {P:Params} {h:Heap} {p o:SAO} {f:List Addr} (ok:okO g hs θ p o=true) (c:Cov P h φ (dO ρ o) f):Cov P h φu (dO ρ' p) f:=by
 cases p with
 |inst c1 fs=>
  cases o<;>first|exact nf ok|(injection ok;done)|skip
  rename_i c2 gs
  have h':(match Nat.beq c1 c2 with|true=>okF g hs θ fs gs|false=>false)=true:=ok
  cases e1:Nat.beq c1 c2<;>rw[e1]at h'<;>first|exact nf h'|(injection h';done)|skip
  obtain ⟨x,d,m,e2,h1,h2,h3⟩:=c
  rw[qP7 e1]
  refine ⟨x,d,m,e2,h1,h2,fun a av e=>?_,fun y e=>?_⟩
  ·obtain ⟨av',z1,z2⟩:=(wU3 S D G hv h' a).2 av e
   obtain ⟨v,z3,z4⟩:=h3.val a av' z1
   exact ⟨v,z3,z2 v z4⟩
  ·obtain ⟨a,z1,z2⟩:=h3.only y e
   exact ⟨a,(wU3 S D G hv h' a).1 z1,z2⟩
 |il p=>
  cases o<;>first|exact nf ok|(injection ok;done)|skip
  rename_i e
  rw[show dO ρ' (.il p)=dO ρ (.il e) from congrArg AO.il (xH6 S G hv (show okL g hs θ p e=true from ok))]
  exact c
 |gp p=>
  cases o<;>first|exact nf ok|(injection ok;done)|skip
  rename_i e
  rw[show dO ρ' (.gp p)=dO ρ (.gp e) from congrArg AO.gp (xH6 S G hv (show okL g hs θ p e=true from ok))]
  exact c
 |sd es=>
  cases o<;>first|exact nf ok|(injection ok;done)|skip
  rename_i ds
  obtain ⟨x,ents,n,e2,h1,h2,h3,h4⟩:=c
  have z:=xI4 S D G hv (show okD g hs θ es ds=true from ok) h2
  refine ⟨x,ents,n,e2,h1,z.1,by rw[z.2];exact h3,?_⟩
  have:=congrArg List.length z.2
  rw[List.length_map,List.length_map]at this
  omega
 |_=>exact nf ok
end
noncomputable def kOf:AV->Nat
 |.obj k=>k
 |J=>0
noncomputable def dd:List Nat->List Nat
 |[]=>[]
 |x::r=>match qJ3 (dd r) x with|true=>dd r|false=>x::dd r
noncomputable def xR8:List Nat->Nat->Nat
 |[],J=>0
 |x::r,j=>match Nat.beq x j with|true=>0|false=>xR8 r j+1
theorem xK4:∀{l:List Nat} {x:Nat},x∈l->qJ3 l x=true:=@fun ξ ξ2 ξ3=>match @ξ,@ξ2,@ξ3 with
 |y::r,x,h=>by
  show (match Nat.beq y x with|true=>true|false=>qJ3 r x)=true
  cases e:Nat.beq y x with
  |true=>rfl
  |false=>
   rcases List.mem_cons.mp h with rfl|h
   ·rw[Nat.beq_refl]at e;exact nt e
   ·exact xK4 h
theorem wZ4 {l:List Nat} {x:Nat} (h:qJ3 l x=false):x∉l:=fun q=>by rw[xK4 q]at h;exact nt h
theorem wW1:∀{l:List Nat} {x:Nat},x∈dd l↔x∈l:=@fun ξ ξ2=>match @ξ,@ξ2 with
 |[],J=>.rfl
 |y::r,x=>by
  show x∈(match qJ3 (dd r) y with|true=>dd r|false=>y::dd r)↔_
  rw[List.mem_cons]
  cases e:qJ3 (dd r) y with
  |true=>
   show x∈dd r↔_
   exact ⟨fun h=>.inr (wW1.mp h),fun h=>h.elim (fun z=>by rw[z];exact qC4 e) wW1.mpr⟩
  |false=>exact List.mem_cons.trans (or_congr .rfl wW1)
theorem zY7:∀(l:List Nat),(dd l).Nodup:=@fun ξ=>match @ξ with
 |[]=>.nil
 |y::r=>by
  show (match qJ3 (dd r) y with|true=>dd r|false=>y::dd r).Nodup
  cases e:qJ3 (dd r) y with
  |true=>exact zY7 r
  |false=>exact List.nodup_cons.mpr ⟨wZ4 e,zY7 r⟩
theorem xS0:∀(l:List Nat),(dd l).length<=l.length:=@fun ξ=>match @ξ with
 |[]=>Nat.le_refl _
 |y::r=>by
  show (match qJ3 (dd r) y with|true=>dd r|false=>y::dd r).length<=_
  have:=xS0 r
  cases e:qJ3 (dd r) y<;>simp only[List.length_cons]<;>omega
theorem wM9:∀{l:List Nat} {j:Nat},j∈l->l[xR8 l j]?=some j:=@fun ξ ξ2 ξ3=>match @ξ,@ξ2,@ξ3 with
 |y::r,j,h=>by
  show (y::r)[(match Nat.beq y j with|true=>0|false=>xR8 r j+1)]?=_
  cases e:Nat.beq y j with
  |true=>rw[qP7 e];rfl
  |false=>
   rcases List.mem_cons.mp h with rfl|h
   ·rw[Nat.beq_refl]at e;exact nt e
   ·exact wM9 h
theorem xW6:∀{l:List Nat},yZ3 l=true->l.Nodup:=@fun ξ ξ2=>match @ξ,@ξ2 with
 |[],J=>.nil
 |x::r,h=>by
  have h':(match qJ3 r x with|true=>false|false=>yZ3 r)=true:=h
  cases e:qJ3 r x<;>rw[e]at h'
  ·exact List.nodup_cons.mpr ⟨wZ4 e,xW6 h'⟩
  ·exact nf h'
noncomputable def qU2 (l:List Nat):List (Option Nat):=l.map some++List.replicate (4-l.length) none
noncomputable def pkF (φ:FP):Option Nat->List Addr
 |none=>[]
 |some j=>φ[j]?.getD []
noncomputable def pkO (H:AH):Option Nat->AO
 |none=>.dead
 |some j=>qQ0 H j
theorem wE4:∀{S:List (Option Nat)} {k i:Nat},zA9 S k=some i->S[k]?=some (some i):=@fun ξ ξ2=>no_implicit_lambda%(match @ξ,@ξ2 with
 |[],J=>@fun J2 h=>by injection h
 |x::J,0=>@fun J2 h=>by cases x<;>(first|obtain rfl:=Option.some.inj h|(injection h;done));rfl
 |J::r,k+1=>@fun J2 h=>wE4 (S:=r) h
 )
theorem qD4:∀{S:List (Option Nat)} {j:Nat},j∈qY7 S↔some j∈S:=@fun ξ ξ2=>match @ξ,@ξ2 with
 |[],J=>⟨fun h=>(nomatch h),fun h=>(nomatch h)⟩
 |none::r,j=>by
  rw[List.mem_cons]
  exact (qD4 (S:=r)).trans ⟨.inr,fun h=>h.elim (fun z=>by injection z) id⟩
 |some k::r,j=>by
  show j∈k::qY7 r↔_
  rw[List.mem_cons,List.mem_cons,qD4 (S:=r)]
  exact or_congr ⟨congrArg some,Option.some.inj⟩ .rfl
theorem qH4:∀(l:List Nat) (n:Nat) (S:List (Option Nat)),qY7 (l.map some++List.replicate n none++S)=l++qY7 S:=@fun ξ ξ2 ξ3=>match @ξ,@ξ2,@ξ3 with
 |[],0,S=>rfl
 |[],n+1,S=>by rw[List.replicate_succ];exact qH4 [] n S
 |x::l,n,S=>congrArg (x::·) (qH4 l n S)
theorem wK7 {φ:FP} {S:List (Option Nat)} {a:Addr} (h:a∈(S.map (pkF φ)).flatten):∃ j f,some j∈S/\φ[j]?=some f/\a∈f:=by
 obtain ⟨f,hf,ha⟩:=List.mem_flatten.mp h
 obtain ⟨o,ho,rfl⟩:=List.mem_map.mp hf
 cases o with
 |none=>cases ha
 |some j=>
  cases e:φ[j]? with
  |none=>rw[show pkF φ (some j)=φ[j]?.getD [] from rfl,e]at ha;cases ha
  |some f=>rw[show pkF φ (some j)=φ[j]?.getD [] from rfl,e]at ha;exact ⟨j,f,ho,e,ha⟩
theorem yV0 {φ:FP} (nd:φ.flatten.Nodup) {f:List Addr} (h:f∈φ):f.Nodup:=(List.sublist_flatten_of_mem h).nodup nd
theorem wK1 {φ:FP} (nd:φ.flatten.Nodup):∀{S:List (Option Nat)},(qY7 S).Nodup->(S.map (pkF φ)).flatten.Nodup:=@fun ξ ξ2=>match @ξ,@ξ2 with
 |[],J=>.nil
 |none::r,h=>wK1 nd (S:=r) h
 |some j::r,h=>by
  have h':(j::qY7 r).Nodup:=h
  rw[List.map_cons,List.flatten_cons]
  refine List.nodup_append.mpr ⟨?_,wK1 nd (List.nodup_cons.mp h').2,fun a ha b hb e=>?_⟩
  ·show (φ[j]?.getD []).Nodup
   cases e:φ[j]? with
   |none=>exact .nil
   |some f=>exact yV0 nd (List.mem_of_getElem? e)
  ·subst e
   obtain ⟨j',f',h1,h2,h3⟩:=wK7 hb
   have ha':a∈φ[j]?.getD []:=ha
   cases e:φ[j]? with
   |none=>rw[e]at ha';cases ha'
   |some f=>
    rw[e]at ha'
    have:=qW1 nd e h2 ha' h3
    subst this
    exact (List.nodup_cons.mp h').1 (qD4.mpr h1)
structure IV (a b:Bool) (ρ:Rho):Prop where
 p1:1<=ρ.i 10
 p2:ρ.i 10<=(ρ.l 2).length+1
 lT:(ρ.l 2).length<=ρ.i 11
 lF:(ρ.l 3).length<=ρ.i 11
 lB:(ρ.l 4).length<=ρ.i 11
 lU:(ρ.l 5).length<=ρ.i 11
 sv:ρ.i 9<=ρ.i 7
 at1:ρ.i 6<=ρ.i 7
 at0:0<=ρ.i 6
 tk:1<=ρ.i 7
 sf:ρ.i 2<=ρ.i 0
 vs:ρ.i 5<=ρ.i 0
 su:ρ.i 4<=ρ.i 0
 ch:ρ.b 0=decide (ρ.i 9<ρ.i 7)
 ot:ρ.b 1=!decide (ρ.i 2=ρ.i 5)
 as:ρ.b 0=true->ρ.b 3=decide (ρ.i 6=ρ.i 7)
 L4:4<=ρ.i 11
 nw:b=true->ρ.b 4=decide (ρ.i 2<ρ.i 4)
 hu:ρ.b 5=b
 bd:∀ n,(ρ.l n).length<=100
 n0:ρ.pre.length=5
 pl:∀ n,qJ3 (wG7 a b) n=true->qQ0 ρ.pre (ρ.h n)=.il (ρ.l (2+n))
set_option tactic.hygienic true in
theorem wD4 {ρ:Rho} {g:Gx} {hs:Fx} (G:Gd ρ g) (hv:HV ρ hs):∀{l:List SC},xA5 g hs l=true->∀ c∈l,dC ρ c=true:=@fun ξ=>no_implicit_lambda%(match @ξ with
 |[]=>@fun J J2 h=>by cases h
 |x::r=>@fun h c hc=>by
  have h':(match ask g hs x with|some b=>(match b with|true=>xA5 g hs r|false=>false)|none=>false)=true:=h
  cases e:ask g hs x<;>rw[e]at h'<;>first|exact nf h'|(injection h';done)|skip
  rename_i b
  cases b<;>first|exact nf h'|(injection h';done)|skip
  rcases List.mem_cons.mp hc with rfl|hc
  ·exact qB1 G hv e
  ·exact wD4 G hv h' c hc
 )
theorem qG5 {x y:Option Bool} (h:wJ5 x y=true):∃ t,x=some t/\y=some t:=by
 cases x<;>first|exact nf h|(injection h;done)|skip
 cases y<;>first|exact nf h|(injection h;done)|skip
 exact ⟨_,rfl,congrArg some (qM4 h).symm⟩
theorem tr3 {a b c d:Bool} (h:(match a,b,c with|true,true,true=>d|J,J2,J3=>false)=true):a=true/\b=true/\c=true/\d=true:=by
 cases a<;>cases b<;>cases c<;>first|exact nf h|exact ⟨rfl,rfl,rfl,h⟩
section
variable {ρ:Rho} {g:Gx} {hs:Fx} {θ:Th}
theorem wP3 {H:SH}:∀{l:List Nat},zN1 g hs θ H l=true->∀ n∈l,okP g hs θ H n=true:=@fun ξ=>no_implicit_lambda%(match @ξ with
 |[]=>@fun J J2 h=>by cases h
 |x::r=>@fun h n hn=>by
  have h':(match okP g hs θ H x with|true=>zN1 g hs θ H r|false=>false)=true:=h
  cases e:okP g hs θ H x<;>rw[e]at h'<;>first|exact nf h'|(injection h';done)|skip
  rcases List.mem_cons.mp hn with rfl|hn
  ·exact e
  ·exact wP3 h' n hn
 )
set_option tactic.hygienic true in
theorem wU0 {lc:qX0}:∀{lp:qX0},yZ5 g hs θ lc lp=true->∀{x:Nat} {p:SAV},lkF lp x=some p->∃ v,lkF lc x=some v/\okV g hs θ p v=true:=@fun ξ=>no_implicit_lambda%(match @ξ with
 |[]=>@fun J J2 J3 h=>by injection h
 |(y,q)::r=>@fun h x p e=>by
  have h':(match lkF lc y with|some v=>(match okV g hs θ q v with|true=>yZ5 g hs θ lc r|false=>false)|none=>false)=true:=h
  cases e1:lkF lc y<;>rw[e1]at h'<;>first|exact nf h'|(injection h';done)|skip
  rename_i v
  dsimp only at h'
  cases e2:okV g hs θ q v<;>rw[e2]at h'<;>first|exact nf h'|(injection h';done)|skip
  have e':(match Nat.beq y x with|true=>some q|false=>lkF r x)=some p:=e
  cases e3:Nat.beq y x<;>rw[e3]at e'
  ·exact wU0 h' e'
  ·obtain rfl:=Option.some.inj e'
   exact ⟨v,by rw[<-qP7 e3];exact e1,e2⟩
 )
theorem wM4 {H:SH}:∀{S:List (Option Nat)} {ps:SH},okH g hs θ H S ps=true->S.length=ps.length/\(∀ k,some k∈S->g.n0<=k)/\
  ∀(i:Nat) (p:SAO),ps[i]?=some p->(p=.dead/\S[i]?=some none)∨∃ k,S[i]?=some (some k)/\okO g hs θ p (oz g H (.obj k))=true:=@fun ξ ξ2 ξ3=>match @ξ,@ξ2,@ξ3 with
 |[],ps,h=>by
  cases ps with
  |nil=>exact ⟨rfl,(fun J h=>nomatch h),fun i p e=>by simp at e⟩
  |cons J J2=>exact nf h
 |s::ss,[],h=>by exact nf h
 |none::ss,p::r,h=>by
  cases p<;>first|exact nf h|(injection h;done)|skip
  obtain ⟨h1,h2,h3⟩:=wM4 (S:=ss) (ps:=r) h
  refine ⟨congrArg (·+1) h1,fun k hk=>h2 k ((List.mem_cons.mp hk).elim (fun z=>by injection z) id),fun i p e=>?_⟩
  cases i with
  |zero=>obtain rfl:=Option.some.inj e;exact .inl ⟨rfl,rfl⟩
  |succ i=>exact h3 i p e
 |some k::ss,p::r,h=>by
  have h':(match Nat.ble g.n0 k,okO g hs θ p (oz g H (.obj k)) with|true,true=>okH g hs θ H ss r|J,J2=>false)=true:=h
  cases e1:Nat.ble g.n0 k<;>rw[e1]at h'<;>first|exact nf h'|(injection h';done)|skip
  cases e2:okO g hs θ p (oz g H (.obj k))<;>rw[e2]at h'<;>first|exact nf h'|(injection h';done)|skip
  obtain ⟨h1,h2,h3⟩:=wM4 (S:=ss) (ps:=r) h'
  refine ⟨congrArg (·+1) h1,fun j hj=>(List.mem_cons.mp hj).elim (fun z=>by obtain rfl:=Option.some.inj z;exact Nat.le_of_ble_eq_true e1) (h2 j),fun i p e=>?_⟩
  cases i with
  |zero=>obtain rfl:=Option.some.inj e;exact .inr ⟨k,rfl,e2⟩
  |succ i=>exact h3 i p e
theorem wC6 {p:SAO}:okO g hs θ p .dead=false:=by cases p<;>rfl
theorem zJ2 {p o:SAO} (h:okO g hs θ p o=true):frz (dO ρ o)=false:=by cases p<;>cases o<;>first|rfl|exact nf h
set_option tactic.hygienic true in
theorem zE5 (G:Gd ρ g) (hv:HV ρ hs) {H:SH} (hk:∀ k,some k∈θ.s->g.n0<=k) {n:Nat} (h:okP g hs θ H n=true) :
  ∃ k,dV ρ (qW9 θ.h n)=.obj k/\qQ0 (dH ρ H) k=.il (dL ρ (qZ6 θ.l (2+n)))/\k∉qY7 θ.s:=by
 unfold okP at h
 cases e:oz g H (qW9 θ.h n)<;>rw[e]at h<;>first|exact nf h|(injection h;done)|skip
 rename_i x
 cases e1:yI5 (qY7 θ.s) (qW9 θ.h n)<;>rw[e1]at h<;>first|exact nf h|(injection h;done)|skip
 obtain ⟨k,e2,e3⟩:=qX5 G e (qQ3 rfl)
 refine ⟨k,e2,by rw[e3,show dL ρ (qZ6 θ.l (2+n))=dL ρ x from of_decide_eq_true (asT G hv h)];rfl,?_⟩
 cases e4:qW9 θ.h n with
 |obj j=>
  rw[e4]at e1 e2
  cases e2
  have e1':(match qJ3 (qY7 θ.s) k with|true=>false|false=>true)=true:=e1
  cases e5:qJ3 (qY7 θ.s) k<;>rw[e5]at e1'
  ·exact wZ4 e5
  ·exact nf e1'
 |pl m=>
  rw[e4]at e e2
  cases e2
  have e':(match qJ3 g.pool m with|true=>SAO.il (.v (2+m))|false=>.dead)=.il x:=e
  cases e5:qJ3 g.pool m<;>rw[e5]at e'<;>first|(cases e';done)|skip
  have:=(List.getElem?_eq_some_iff.mp (qW7 (G.pl m e5) (qQ6 rfl))).1
  rw[G.n0]at this
  exact fun z=>absurd (hk _ (qD4.mp z)) (Nat.not_le.mpr this)
 |_=>rw[e4]at e1;exact nf e1
end
structure yH4 (θ:Th) (a b:Bool):Prop where
 l0:qZ6 θ.l 0=.c 0
 l6:∀ n,qZ6 θ.l (n+6)=.c 0
 b5:qW9 θ.b 5=.bool b
 p:θ.p=wG7 a b
theorem zV6 (g:Gx) (H:SH) (lc:qX0) (d:E):yH4 (find g H lc d).1 (find g H lc d).2.1 (find g H lc d).2.2:=⟨rfl,fun J=>rfl,rfl,rfl⟩
theorem Now.reform0 {c:Cx} {φ:FP} {H:AH} {lc:Loc} {s:Shared} (N:Now c φ H lc s) {φu:FP} {Hu:AH} {lcu:Loc} (hx:∀ a∈c.φ₀.flatten,a∉φu.flatten/\∀ o,c.h₀.get? a=some o->s.heap.get? a=some o) (len:φu.length=Hu.length)
  (cov:∀(k:Nat) (o:AO) (f:List Addr),Hu[k]?=some o->φu[k]?=some f->Cov c.w.params s.heap φu o f) (nd:φu.flatten.Nodup)
  (sub:∀ a∈φu.flatten,a∈φ.flatten) (hlc:∀ x avu,lk lcu x=some avu->∃ av,lk lc x=some av/\∀ v,qQ1 φ av v->qQ1 φu avu v):Now {c with φ₀:=[],fz:=[]} φu Hu lcu s:=by
 have N2:=N.reform len cov nd sub hlc
 refine ⟨N2.rel,fun a o e J h2 h3=>?_,fun a h=>?_,fun k f e=>by simp at e,N2.frs,N2.loc,N2.lout,N2.cout,N2.gens,N2.os,fun p hp=>(nomatch hp),fun p hp=>(nomatch hp)⟩
 ·by_cases q:a∈c.φ₀.flatten
  ·exact ⟨o.slots,(hx a q).2 o e,fun J=>rfl⟩
  ·exact N.out a o e q h2 h3
 ·exact (N.own a (sub a h)).elim (fun q=>absurd h (hx a q).1) .inr
section
variable {ρ:Rho} {g:Gx} {hs:Fx} {θ:Th} {a b:Bool}
noncomputable def reP (ρ:Rho) (θ:Th):List Nat:=dd (θ.p.map fun n=>kOf (dV ρ (qW9 θ.h n)))
noncomputable def reS (ρ:Rho) (θ:Th):List (Option Nat):=none::(qU2 (reP ρ θ)++θ.s)
noncomputable def reR (ρ:Rho) (θ:Th) (H:SH):Rho:=
 ⟨fun n=>dI ρ (qZ6 θ.i n),fun n=>dL ρ (qZ6 θ.l n),fun n=>bOf (dV ρ (qW9 θ.b n)),fun n=>1+xR8 (reP ρ θ) (kOf (dV ρ (qW9 θ.h n))),(none::qU2 (reP ρ θ)).map (pkO (dH ρ H))⟩
theorem wO2:∀(a b:Bool),(wG7 a b).length<=4:=@fun ξ ξ2=>match @ξ,@ξ2 with
 |false,false|false,true|true,false|true,true=>by decide
theorem xE3 {l:List Nat} (h:l.length<=4):(qU2 l).length=4:=by
 unfold qU2
 rw[List.length_append,List.length_map,List.length_replicate]
 omega
inductive yM6 (c:Cx) (φ:FP) (a b:Bool) (d:Int) (lp:qX0) (s:Shared):Prop
 |mk (ρ':Rho) (φu:FP) (I:IV a b ρ') (e:ρ'.i 11=d) (sub:∀ x∈φu.flatten,x∈φ.flatten) (N:Now {c with φ₀:=[],fz:=[]} φu (dH ρ' (H0 a b)) (dF ρ' lp) s)
theorem zQ9 (G:Gd ρ g) (hv:HV ρ hs) {c:Cx} {φ:FP} {H:SH} {lc lp:qX0} {s:Shared} (N:Now c φ (dH ρ H) (dF ρ lc) s) (T:yH4 θ a b) (h:yK5 g lp θ a b hs lc H=true) (hL:dI ρ (qZ6 θ.i 11)<=100) (hz:∀ x∈c.φ₀.flatten,∃ o,(x,o)∈c.fz/\c.h₀.get? x=some o) :
  yM6 c φ a b (dI ρ (qZ6 θ.i 11)) lp s:=by
 obtain ⟨h1,h2,h3,h⟩:=tr3 h
 obtain ⟨h4,h5⟩:=trb (b:=zN1 g hs θ H θ.p) (f:=okN g hs θ b) h
 obtain ⟨e1,e2,e3⟩:=wM4 h3
 have nd:=xW6 h1
 have pool:∀ n,n∈θ.p->∃ k,dV ρ (qW9 θ.h n)=.obj k/\qQ0 (dH ρ H) k=.il (dL ρ (qZ6 θ.l (2+n)))/\k∉qY7 θ.s:=fun n hn=>zE5 G hv e2 (wP3 h4 n hn)
 have plen:(reP ρ θ).length<=4:=by
  refine Nat.le_trans (xS0 _) ?_
  rw[List.length_map,T.p]
  exact wO2 a b
 have slen:(none::qU2 (reP ρ θ)).length=5:=by rw[List.length_cons,xE3 plen]
 have pin:∀ n k,n∈θ.p->dV ρ (qW9 θ.h n)=.obj k->k∈reP ρ θ:=fun n k hn e=>wW1.mpr (List.mem_map.mpr ⟨n,hn,by rw[e];rfl⟩)
 have pout:∀ k,k∈reP ρ θ->∃ n,n∈θ.p/\dV ρ (qW9 θ.h n)=.obj k:=fun k hk=>by
  obtain ⟨n,hn,e⟩:=List.mem_map.mp (wW1.mp hk)
  obtain ⟨k',z,J⟩:=pool n hn
  rw[z]at e
  exact ⟨n,hn,by rw[z];exact congrArg _ e⟩
 have snd:(qY7 (reS ρ θ)).Nodup:=by
  show (qY7 ((reP ρ θ).map some++List.replicate (4-(reP ρ θ).length) none++θ.s)).Nodup
  rw[qH4]
  refine List.nodup_append.mpr ⟨zY7 _,nd,fun x hx y hy e=>?_⟩
  subst e
  obtain ⟨n,hn,z⟩:=pout x hx
  obtain ⟨k,z1,J,z3⟩:=pool n hn
  rw[z]at z1
  cases z1
  exact z3 hy
 have at5:∀ k,(reS ρ θ)[5+k]?=θ.s[k]?:=fun k=>by
  show (none::(qU2 (reP ρ θ)++θ.s))[5+k]?=_
  rw[<-List.cons_append,List.getElem?_append_right (by rw[slen];exact Nat.not_lt.mp fun gz=>lin [_] [] [(1,.nl (.a (.a (.c 5) (.v 0)) (.c 1)) (.c 5))] rfl gz),slen,Nat.add_sub_cancel_left]
 have atp:∀ j,j∈reP ρ θ->(none::qU2 (reP ρ θ))[1+xR8 (reP ρ θ) j]?=some (some j):=fun j hj=>by
  have z:=wM9 hj
  rw[Nat.add_comm,List.getElem?_cons_succ]
  unfold qU2
  rw[List.getElem?_append_left (by rw[List.length_map];exact (List.getElem?_eq_some_iff.mp z).1),List.getElem?_map,z]
  rfl
 have atq:∀ j,j∈reP ρ θ->(reS ρ θ)[1+xR8 (reP ρ θ) j]?=some (some j):=fun j hj=>by
  have z:=atp j hj
  show (none::(qU2 (reP ρ θ)++θ.s))[_]?=_
  rw[<-List.cons_append,List.getElem?_append_left (List.getElem?_eq_some_iff.mp z).1]
  exact z
 have S:Sb ρ (reR ρ θ H) θ:=⟨fun J=>rfl,fun J=>rfl,fun J=>rfl⟩
 have fr:∀{i:Nat} {k:Nat} {f:List Addr},(reS ρ θ)[i]?=some (some k)->φ[k]?=some f->((reS ρ θ).map (pkF φ))[i]?=some f:=fun {i k f} z z2=>by
  rw[List.getElem?_map,z]
  show some (φ[k]?.getD [])=_
  rw[z2]
  rfl
 have D:Hd ρ (reR ρ θ H) θ φ ((reS ρ θ).map (pkF φ)):=⟨fun k i f z z2=>fr (by rw[at5];exact wE4 z) z2,fun n i f hn z z2=>by
  show ((reS ρ θ).map (pkF φ))[1+xR8 (reP ρ θ) (kOf (dV ρ (qW9 θ.h n)))]?=_
  rw[z]
  exact fr (atq i (pin n i (qC4 hn) z)) z2⟩
 have cov:∀(k:Nat) (o:AO) (f:List Addr),(dH (reR ρ θ H) (H0 a b))[k]?=some o->((reS ρ θ).map (pkF φ))[k]?=some f->Cov c.w.params s.heap ((reS ρ θ).map (pkF φ)) o f:=by
  intro k o f z1 z2
  rw[List.getElem?_map]at z2
  cases e:(reS ρ θ)[k]? with
  |none=>rw[e]at z2;injection z2
  |some src=>
   rw[e]at z2
   have z2':pkF φ src=f:=by simpa using z2
   by_cases hk:k<5
   ·have z1':((none::qU2 (reP ρ θ)).map (pkO (dH ρ H)))[k]?=some o:=by
     rw[<-z1]
     exact (List.getElem?_append_left (by show k<((none::qU2 (reP ρ θ)).map (pkO (dH ρ H))).length;rw[List.length_map,slen];exact hk)).symm
    have e':(none::qU2 (reP ρ θ))[k]?=some src:=by
     rw[<-e]
     show _=(none::(qU2 (reP ρ θ)++θ.s))[k]?
     rw[<-List.cons_append,List.getElem?_append_left (by rw[slen];exact hk)]
    rw[List.getElem?_map,e']at z1'
    have z1'':pkO (dH ρ H) src=o:=by simpa using z1'
    cases src with
    |none=>rw[<-z1''];trivial
    |some j=>
     have hj:j∈reP ρ θ:=by
      have:=List.mem_of_getElem? e'
      rcases List.mem_cons.mp this with q|q
      ·injection q
      ·rcases List.mem_append.mp q with q|q
       ·obtain ⟨j',q1,q2⟩:=List.mem_map.mp q
        cases q2
        exact q1
       ·have:=(List.mem_replicate.mp q).2
        injection this
     obtain ⟨n,hn,y1⟩:=pout j hj
     obtain ⟨k',y2,y3,J⟩:=pool n hn
     rw[y1]at y2
     cases y2
     obtain ⟨f',y4,y5⟩:=N.at y3 (qQ6 rfl)
     have:f=f':=by
      rw[<-z2']
      show φ[j]?.getD []=_
      rw[y4]
      rfl
     subst this
     rw[<-z1'',show pkO (dH ρ H) (some j)=qQ0 (dH ρ H) j from rfl,y3]
     exact y5
   ·obtain ⟨i,rfl⟩:∃ i,k=5+i:=⟨k-5,by omega⟩
    rw[at5]at e
    have z1':(dOs (reR ρ θ H) (H0 a b))[i]?=some o:=by
     rw[<-z1]
     show _=((none::qU2 (reP ρ θ)).map (pkO (dH ρ H))++dOs (reR ρ θ H) (H0 a b))[5+i]?
     rw[List.getElem?_append_right (by rw[List.length_map,slen];exact Nat.not_lt.mp fun gz=>lin [_] [] [(1,.nl (.a (.a (.c 5) (.v 0)) (.c 1)) (.c 5))] rfl gz),List.length_map,slen,Nat.add_sub_cancel_left]
    have dOs_at:∀(X:SH) (i:Nat) (o:AO),(dOs (reR ρ θ H) X)[i]?=some o->∃ p,X[i]?=some p/\dO (reR ρ θ H) p=o:=by
     intro X
     induction X with
     |nil=>intro i o q;injection q
     |cons x X ih=>
      intro i o q
      cases i with
      |zero=>cases q;exact ⟨x,rfl,rfl⟩
      |succ i=>exact ih i o q
    obtain ⟨p,y1,y2⟩:=dOs_at _ _ _ z1'
    rcases e3 i p y1 with ⟨y3,J⟩|⟨j,y3,y4⟩
    ·rw[<-y2,y3];trivial
    ·rw[e]at y3
     have:src=some j:=by simpa using y3
     subst this
     have ne:oz g H (.obj j)≠.dead:=fun q=>by rw[q,wC6]at y4;exact nf y4
     obtain ⟨k,w1,w2⟩:=qX5 (ρ:=ρ) G rfl ne
     cases w1
     have nd':dO ρ (oz g H (.obj j))≠.dead:=by
      cases q:oz g H (.obj j)<;>first|(exact absurd q ne)|(intro z;injection z)
     obtain ⟨f',y5,y6⟩:=N.at w2 nd'
     have:f=f':=by
      rw[<-z2']
      show φ[j]?.getD []=_
      rw[y5]
      rfl
     subst this
     rw[<-y2]
     exact zR3 S D G hv y4 y6
 have fsub:∀ x∈((reS ρ θ).map (pkF φ)).flatten,x∈φ.flatten:=fun x hx=>by
  obtain ⟨j,f,J,z2,z3⟩:=wK7 hx
  exact qQ5 z2 z3
 have nof:∀ j,some j∈reS ρ θ->frz (qQ0 (dH ρ H) j)=false:=fun j hj=>by
  rcases List.mem_cons.mp hj with q|q
  ·injection q
  ·rcases List.mem_append.mp q with q|q
   ·rcases List.mem_append.mp q with q|q
    ·obtain ⟨j',q1,q2⟩:=List.mem_map.mp q
     cases q2
     obtain ⟨n,hn,y1⟩:=pout j q1
     obtain ⟨k',y2,y3,J⟩:=pool n hn
     rw[y1]at y2
     cases y2
     rw[y3];rfl
    ·cases (List.mem_replicate.mp q).2
   ·obtain ⟨i,hi⟩:=List.getElem?_of_mem q
    have hl:=(List.getElem?_eq_some_iff.mp hi).1
    rw[e1]at hl
    obtain ⟨p,hp⟩:∃ p,(H0 a b)[i]?=some p:=⟨_,List.getElem?_eq_getElem hl⟩
    rcases e3 i p hp with ⟨J,w⟩|⟨k,w,y4⟩
    ·rw[hi]at w;cases w
    ·rw[hi]at w
     cases w
     have ne:oz g H (.obj j)≠.dead:=fun q=>by rw[q,wC6]at y4;exact nf y4
     obtain ⟨k,w1,w2⟩:=qX5 (ρ:=ρ) G rfl ne
     cases w1
     rw[w2]
     exact zJ2 y4
 have N2:Now {c with φ₀:=[],fz:=[]} ((reS ρ θ).map (pkF φ)) (dH (reR ρ θ H) (H0 a b)) (dF (reR ρ θ H) lp) s:=by
  refine N.reform0 (fun x hx=>⟨fun hu=>?_,fun o ho=>?_⟩) ?_ cov (wK1 N.rel.nd snd) fsub fun x au e=>?_
  ·obtain ⟨o,hp,J⟩:=hz x hx
   obtain ⟨k,q,y1,y2⟩:=N.fzh _ hp
   obtain ⟨j,f,z1,z2,z3⟩:=wK7 hu
   have:=qW1 N.rel.nd z2 y2 z3 (.head _)
   subst this
   exact qY1 (qE4 y1) (nof j z1)
  ·obtain ⟨o',hp,ho'⟩:=hz x hx
   rw[ho]at ho'
   cases ho'
   exact N.fz _ hp
  ·rw[List.length_map]
   show (none::(qU2 (reP ρ θ)++θ.s)).length=((none::qU2 (reP ρ θ)).map (pkO (dH ρ H))++dOs (reR ρ θ H) (H0 a b)).length
   rw[<-List.cons_append,List.length_append,List.length_append,List.length_map,wK0,e1]
  ·rw[qY0]at e
   cases e4:lkF lp x with
   |none=>rw[e4]at e;injection e
   |some p=>
    rw[e4]at e
    cases e
    obtain ⟨v,z1,z2⟩:=wU0 h2 e4
    exact ⟨dV ρ v,by rw[qY0,z1];rfl,fun w r=>wR2 S D G hv z2 r⟩
 refine ⟨_,_,?_,rfl,fsub,N2⟩
 obtain ⟨c1,c2,c3,h5⟩:=tr3 h5
 obtain ⟨c4,c5,c6,J⟩:=tr3 h5
 have A:=wD4 G hv c1
 obtain ⟨t0,u1,u2⟩:=qG5 c2
 obtain ⟨t1,u3,u4⟩:=qG5 c3
 have u1':=qE8 G hv u1
 have u2':=qB1 G hv u2
 have u4':=qB1 G hv u4
 have le:∀(n:Nat) {x y:E},(csN θ)[n]?=some (sc 1 x y)->dI ρ x<=dI ρ y:=fun n x y m=>of_decide_eq_true (A _ (List.mem_of_getElem? m))
 have len:∀(n:Nat),(csN θ)[n]?=some (sc 1 (qQ8 (qZ6 θ.l n)) (qZ6 θ.i 11))->((dL ρ (qZ6 θ.l n)).length:Int)<=dI ρ (qZ6 θ.i 11):=fun n m=>by
  have:=le n m
  rwa [qW3]at this
 have l2:=len 2 rfl
 have l3:=len 3 rfl
 have l4:=len 4 rfl
 have l5:=len 5 rfl
 have p2:=le 1 (x:=qZ6 θ.i 10) (y:=qF5 (qQ8 (qZ6 θ.l 2)) (.c 1)) rfl
 rw[qA3,qW3]at p2
 refine ⟨le 0 (x:=.c 1) (y:=qZ6 θ.i 10) rfl,p2,l2,l3,l4,l5,le 6 (x:=qZ6 θ.i 9) (y:=qZ6 θ.i 7) rfl,le 7 (x:=qZ6 θ.i 6) (y:=qZ6 θ.i 7) rfl,le 8 (x:=.c 0) (y:=qZ6 θ.i 6) rfl,le 9 (x:=.c 1) (y:=qZ6 θ.i 7) rfl,le 10 (x:=qZ6 θ.i 2) (y:=qZ6 θ.i 0) rfl,le 11 (x:=qZ6 θ.i 5) (y:=qZ6 θ.i 0) rfl,le 12 (x:=qZ6 θ.i 4) (y:=qZ6 θ.i 0) rfl,?_,?_,?_,le 13 (x:=.c 4) (y:=qZ6 θ.i 11) rfl,?_,?_,?_,?_,?_⟩
 ·show bOf (dV ρ (qW9 θ.b 0))=_
  rw[u1',show bOf (.bool t0)=t0 from rfl,<-u2']
  rfl
 ·show bOf (dV ρ (qW9 θ.b 1))=_
  cases e:wH3 g hs (qW9 θ.b 1) with
  |none=>rw[e]at u3;injection u3
  |some t=>
   rw[e]at u3
   have u3':(!t)=t1:=by simpa using u3
   rw[qE8 G hv e]
   show t=!(decide (dI ρ (qZ6 θ.i 2)=dI ρ (qZ6 θ.i 5)))
   have:decide (dI ρ (qZ6 θ.i 2)=dI ρ (qZ6 θ.i 5))=t1:=u4'
   rw[this,<-u3',Bool.not_not]
 ·intro hb
  have hb':t0=true:=by
   have:bOf (dV ρ (qW9 θ.b 0))=true:=hb
   rw[u1']at this
   exact this
  subst hb'
  rw[u1]at c5
  obtain ⟨t3,u5,u6⟩:=qG5 (show wJ5 (wH3 g hs (qW9 θ.b 3)) (ask g hs (sc 2 (qZ6 θ.i 6) (qZ6 θ.i 7)))=true from c5)
  show bOf (dV ρ (qW9 θ.b 3))=_
  rw[qE8 G hv u5,show bOf (.bool t3)=t3 from rfl,<-qB1 G hv u6]
  rfl
 ·intro hb
  subst hb
  obtain ⟨t4,u7,u8⟩:=qG5 (show wJ5 (wH3 g hs (qW9 θ.b 4)) (ask g hs (sc 0 (qZ6 θ.i 2) (qZ6 θ.i 4)))=true from c6)
  show bOf (dV ρ (qW9 θ.b 4))=_
  rw[qE8 G hv u7,show bOf (.bool t4)=t4 from rfl,<-qB1 G hv u8]
  rfl
 ·show bOf (dV ρ (qW9 θ.b 5))=b
  rw[T.b5]
  rfl
 ·intro n
  show (dL ρ (qZ6 θ.l n)).length<=100
  match n with
  |0=>rw[T.l0];exact Nat.zero_le _
  |1=>exact qC2 G c4
  |2=>omega
  |3=>omega
  |4=>omega
  |5=>omega
  |n+6=>rw[T.l6];exact Nat.zero_le _
 ·show ((none::qU2 (reP ρ θ)).map (pkO (dH ρ H))).length=5
  rw[List.length_map,slen]
 ·intro n hn
  rw[<-T.p]at hn
  obtain ⟨k,y1,y2,J⟩:=pool n (qC4 hn)
  show qQ0 ((none::qU2 (reP ρ θ)).map (pkO (dH ρ H))) (1+xR8 (reP ρ θ) (kOf (dV ρ (qW9 θ.h n))))=.il (dL ρ (qZ6 θ.l (2+n)))
  rw[y1]
  refine (qE4 (o:=qQ0 (dH ρ H) k) ?_).trans y2
  rw[List.getElem?_map,show kOf (.obj k)=k from rfl,atp k (pin n k (qC4 hn) y1)]
  rfl
end
end Mine
section
namespace Mine
abbrev LFm:=Int×List (E×Int)
noncomputable def xV8:List (E×Int)->E->Int->List (E×Int)
 |[],e,k=>[(e,k)]
 |(x,j)::r,e,k=>match eqE x e with|true=>(x,j+k)::r|false=>(x,j)::xV8 r e k
noncomputable def lf:E->Int->LFm->LFm
 |.c i,k,a=>(a.1+k*i,a.2)
 |.b o x y,k,a=>match o with
  |.add=>lf x k (lf y k a)
  |.sub=>lf x k (lf y (-k) a)
  |J=>(a.1,xV8 a.2 (.b o x y) k)
 |.u o x,k,a=>match o with
  |.neg=>lf x (-k) a
  |J=>(a.1,xV8 a.2 (.u o x) k)
 |e,k,a=>(a.1,xV8 a.2 e k)
noncomputable def zr:List (E×Int)->Bool
 |[]=>true
 |(J,k)::r=>match decide (k=0) with|true=>zr r|false=>false
abbrev Ft:=List (E×E)
noncomputable def zZ3:Ft->Nat->E×E
 |[],J=>(.c 0,.c 0)
 |x::J,0=>x
 |J::r,n+1=>zZ3 r n
noncomputable def less (F:Ft):List Nat->LFm->LFm
 |[],a=>a
 |n::r,a=>less F r (lf (zZ3 F n).2 (-1) (lf (zZ3 F n).1 1 a))
noncomputable def leB (F:Ft) (l:List Nat) (x y:E):Bool:=match less F l (lf y 1 (lf x (-1) (0,[]))) with
 |(k,r)=>match decide (0<=k) with|true=>zr r|false=>false
noncomputable def qF7:Fx->Ft->Ft
 |[],F=>F
 |(c,b)::r,F=>match c.o with
  |0=>(match b with|true=>(.b .add c.x (.c 1),c.y)::qF7 r F|false=>(c.y,c.x)::qF7 r F)
  |1=>(match b with|true=>(c.x,c.y)::qF7 r F|false=>(.b .add c.y (.c 1),c.x)::qF7 r F)
  |2=>(match b with|true=>(c.x,c.y)::(c.y,c.x)::qF7 r F|false=>qF7 r F)
  |J=>qF7 r F
noncomputable def rlB (F:Ft) (r:Rl):Bool:=match r.c.o with
 |0=>(match r.r with|true=>leB (qF7 r.pre F) r.p (.b .add r.c.x (.c 1)) r.c.y|false=>leB (qF7 r.pre F) r.p r.c.y r.c.x)
 |1=>(match r.r with|true=>leB (qF7 r.pre F) r.p r.c.x r.c.y|false=>leB (qF7 r.pre F) r.p (.b .add r.c.y (.c 1)) r.c.x)
 |2=>(match r.r with
  |true=>(match leB (qF7 r.pre F) r.p r.c.x r.c.y with|true=>leB (qF7 r.pre F) r.q r.c.y r.c.x|false=>false)
  |false=>(match leB (qF7 r.pre F) r.p (.b .add r.c.x (.c 1)) r.c.y with|true=>true|false=>leB (qF7 r.pre F) r.p (.b .add r.c.y (.c 1)) r.c.x))
 |J=>false
noncomputable def yW7:List Rl->Nat->Option Rl
 |[],J=>none
 |x::J,0=>some x
 |J::r,n+1=>yW7 r n
noncomputable def yF8 (a b:Rl):Bool:=match wG5 a.pre b.pre,eqC b.c a.c,xP0 a.r b.r with|true,true,true=>true|J,J2,J3=>false
noncomputable def zI8 (F:Ft) (hd:List Rl) (r:Rl):Bool:=match r.h with
 |0=>rlB F r
 |n+1=>match yW7 hd n with|some b=>yF8 r b|none=>false
noncomputable def zB1 (F:Ft) (hd:List Rl):List Rl->Bool
 |[]=>true
 |r::R=>match zI8 F hd r with|true=>zB1 F hd R|false=>false
noncomputable def xW5 (F:Ft) (hd:List Rl):List (List Rl)->Bool
 |[]=>true
 |B::R=>match zB1 F hd B with|true=>xW5 F hd R|false=>false
section
variable {ρ:Rho}
noncomputable def dl (ρ:Rho):List (E×Int)->Int
 |[]=>0
 |(e,k)::r=>k*dI ρ e+dl ρ r
noncomputable def den (ρ:Rho) (a:LFm):Int:=a.1+dl ρ a.2
theorem wU2:∀(l:List (E×Int)) (e:E) (k:Int),dl ρ (xV8 l e k)=k*dI ρ e+dl ρ l:=@fun ξ=>no_implicit_lambda%(match @ξ with
 |[]=>@fun e k=>rfl
 |(x,j)::r=>@fun e k=>by
  show dl ρ (match eqE x e with|true=>(x,j+k)::r|false=>(x,j)::xV8 r e k)=_
  cases h:eqE x e with
  |true=>
   rw[qZ2 h]
   show (j+k)*dI ρ e+dl ρ r=k*dI ρ e+(j*dI ρ e+dl ρ r)
   rw[Int.add_mul];exact leq [] [_,_,_] (.il (.a (.a (.v 0) (.v 1)) (.v 2)) (.a (.v 1) (.a (.v 0) (.v 2)))) [] rfl
  |false=>
   show j*dI ρ x+dl ρ (xV8 r e k)=k*dI ρ e+(j*dI ρ x+dl ρ r)
   rw[wU2 r e k];exact leq [] [_,_,_] (.il (.a (.v 0) (.a (.v 1) (.v 2))) (.a (.v 1) (.a (.v 0) (.v 2)))) [] rfl
 )
theorem qP2 (e:E) (k:Int) (a:LFm):den ρ (a.1,xV8 a.2 e k)=k*dI ρ e+den ρ a:=by
 show a.1+dl ρ (xV8 a.2 e k)=_+(a.1+dl ρ a.2)
 rw[wU2];exact leq [] [_,_,_] (.il (.a (.v 0) (.a (.v 1) (.v 2))) (.a (.v 1) (.a (.v 0) (.v 2)))) [] rfl
theorem qR8:∀(e:E) (k:Int) (a:LFm),den ρ (lf e k a)=k*dI ρ e+den ρ a:=@fun ξ=>no_implicit_lambda%(match @ξ with
 |.c i=>@fun k a=>by show a.1+k*i+dl ρ a.2=k*i+(a.1+dl ρ a.2);exact leq [] [_,_,_] (.il (.a (.a (.v 0) (.v 1)) (.v 2)) (.a (.v 1) (.a (.v 0) (.v 2)))) [] rfl
 |.v n=>@fun k a=>qP2 _ k a
 |.t J J2 J3 J4=>@fun k a=>qP2 _ k a
 |.u o x=>@fun k a=>by
  cases o<;>first|exact qP2 _ k a|skip
  show den ρ (lf x (-k) a)=k*(-dI ρ x)+den ρ a
  rw[qR8 x,Int.neg_mul_comm]
 |.b o x y=>@fun k a=>by
  cases o<;>first|exact qP2 _ k a|skip
  ·show den ρ (lf x k (lf y k a))=k*(dI ρ x+dI ρ y)+den ρ a
   rw[qR8 x,qR8 y,Int.mul_add,Int.add_assoc]
  ·show den ρ (lf x k (lf y (-k) a))=k*(dI ρ x-dI ρ y)+den ρ a
   rw[qR8 x,qR8 y,Int.mul_sub,Int.neg_mul];exact leq [] [_,_,_] (.il (.a (.v 0) (.a (.g (.v 1)) (.v 2))) (.a (.s (.v 0) (.v 1)) (.v 2))) [] rfl
 )
theorem zH0:∀{l:List (E×Int)},zr l=true->dl ρ l=0:=@fun ξ ξ2=>match @ξ,@ξ2 with
 |[],J=>rfl
 |(e,k)::r,h=>by
  have h':(match decide (k=0) with|true=>zr r|false=>false)=true:=h
  cases e1:decide (k=0)<;>rw[e1]at h'
  ·exact nf h'
  ·show k*dI ρ e+dl ρ r=0
   rw[of_decide_eq_true e1,zH0 h',Int.zero_mul];rfl
def FOk (ρ:Rho) (F:Ft):Prop:=∀ p∈F,dI ρ p.1<=dI ρ p.2
theorem wR9:∀{F:Ft} (n:Nat),FOk ρ F->dI ρ (zZ3 F n).1<=dI ρ (zZ3 F n).2:=@fun ξ ξ2 ξ3=>match @ξ,@ξ2,@ξ3 with
 |[],J,J2=>Int.le_refl _
 |J::J2,0,h=>h _ (.head _)
 |J::J2,n+1,h=>wR9 n fun p hp=>h p (.tail _ hp)
theorem wS3 {F:Ft} (hF:FOk ρ F):∀(l:List Nat) (a:LFm),den ρ (less F l a)<=den ρ a:=@fun ξ ξ2=>match @ξ,@ξ2 with
 |[],a=>Int.le_refl _
 |n::r,a=>by
  have h1:=wS3 hF r (lf (zZ3 F n).2 (-1) (lf (zZ3 F n).1 1 a))
  rw[qR8,qR8]at h1
  have h2:=wR9 n hF
  show den ρ (less F r _)<=_
  omega
theorem qF2 {F:Ft} (hF:FOk ρ F) {l:List Nat} {x y:E} (h:leB F l x y=true):dI ρ x<=dI ρ y:=by
 have h1:=wS3 hF l (lf y 1 (lf x (-1) (0,[])))
 rw[qR8,qR8]at h1
 unfold leB at h
 cases e:less F l (lf y 1 (lf x (-1) (0,[]))) with
 |mk k r=>
  rw[e]at h h1
  dsimp only at h
  cases e1:decide (0<=k)<;>rw[e1]at h
  ·exact nf h
  ·have h2:=of_decide_eq_true e1
   have h3:k+dl ρ r<=1*dI ρ y+(-1*dI ρ x+(0+0)):=h1
   rw[zH0 (ρ:=ρ) h]at h3
   omega
theorem wS2 {F:Ft} (hF:FOk ρ F):∀{pre:Fx},HV ρ pre->FOk ρ (qF7 pre F):=@fun ξ ξ2=>match @ξ,@ξ2 with
 |[],J=>hF
 |(⟨o,x,y,hh⟩,b)::r,hv=>by
  have ih:=wS2 hF (pre:=r) fun p hp=>hv p (.tail _ hp)
  have h0:dC ρ ⟨o,x,y,hh⟩=b:=hv _ (.head _)
  have cons:∀{p:E×E},dI ρ p.1<=dI ρ p.2->FOk ρ (qF7 r F)->FOk ρ (p::qF7 r F):=fun h k q hq=>(List.mem_cons.mp hq).elim (fun z=>z▸h) (k q)
  match o,b,h0 with
  |0,true,h0=>exact cons (by show dI ρ x+1<=dI ρ y;have:=of_decide_eq_true (p:=dI ρ x<dI ρ y) h0;omega) ih
  |0,false,h0=>exact cons (by show dI ρ y<=dI ρ x;have:=of_decide_eq_false (p:=dI ρ x<dI ρ y) h0;omega) ih
  |1,true,h0=>exact cons (of_decide_eq_true (p:=dI ρ x<=dI ρ y) h0) ih
  |1,false,h0=>exact cons (by show dI ρ y+1<=dI ρ x;have:=of_decide_eq_false (p:=dI ρ x<=dI ρ y) h0;omega) ih
  |2,true,h0=>
   have e:dI ρ x=dI ρ y:=of_decide_eq_true h0
   exact fun q hq=>(List.mem_cons.mp hq).elim (fun z=>by rw[z];exact Int.le_of_eq e) fun hq=>(List.mem_cons.mp hq).elim (fun z=>by rw[z];exact Int.le_of_eq e.symm) (ih q)
  |2,false,J=>exact ih
  |J+3,true,J2=>exact ih
  |J+3,false,J2=>exact ih
def Vd (ρ:Rho) (r:Rl):Prop:=HV ρ r.pre->dC ρ r.c=r.r
theorem zO9 {F:Ft} (hF:FOk ρ F) {r:Rl} (h:rlB F r=true):Vd ρ r:=by
 obtain ⟨pre,⟨o,x,y,hh⟩,b,k,p,q⟩:=r
 intro hv
 have hF':=wS2 hF hv
 match o,b,h with
 |0,true,h=>exact decide_eq_true (p:=dI ρ x<dI ρ y) (by have:=qF2 hF' h;have:dI ρ x+1<=dI ρ y:=this;omega)
 |0,false,h=>exact decide_eq_false (p:=dI ρ x<dI ρ y) (by have:=qF2 hF' h;have:dI ρ y<=dI ρ x:=this;omega)
 |1,true,h=>exact decide_eq_true (p:=dI ρ x<=dI ρ y) (qF2 hF' h)
 |1,false,h=>exact decide_eq_false (p:=dI ρ x<=dI ρ y) (by have:=qF2 hF' h;have:dI ρ y+1<=dI ρ x:=this;omega)
 |2,true,h=>
  have h':(match leB (qF7 pre F) p x y with|true=>leB (qF7 pre F) q y x|false=>false)=true:=h
  cases e:leB (qF7 pre F) p x y<;>rw[e]at h'
  ·exact nf h'
  ·exact decide_eq_true (p:=dI ρ x=dI ρ y) (Int.le_antisymm (qF2 hF' e) (qF2 hF' h'))
 |2,false,h=>
  have h':(match leB (qF7 pre F) p (.b .add x (.c 1)) y with|true=>true|false=>leB (qF7 pre F) p (.b .add y (.c 1)) x)=true:=h
  cases e:leB (qF7 pre F) p (.b .add x (.c 1)) y<;>rw[e]at h'
  ·exact decide_eq_false (p:=dI ρ x=dI ρ y) (by have:=qF2 hF' h';have:dI ρ y+1<=dI ρ x:=this;omega)
  ·exact decide_eq_false (p:=dI ρ x=dI ρ y) (by have:=qF2 hF' e;have:dI ρ x+1<=dI ρ y:=this;omega)
 |J+3,J2,h=>exact nf h
theorem wB2:∀{l:List Rl} {n:Nat} {r:Rl},yW7 l n=some r->r∈l:=@fun ξ ξ2=>no_implicit_lambda%(match @ξ,@ξ2 with
 |[],J=>@fun J2 h=>by injection h
 |J::J2,0=>@fun J3 h=>by obtain rfl:=Option.some.inj h;exact .head _
 |J::l,n+1=>@fun J2 h=>.tail _ (wB2 (l:=l) h)
 )
set_option tactic.hygienic true in
theorem zA1 {F:Ft} {hd:List Rl} (hF:FOk ρ F) (hh:∀ r∈hd,Vd ρ r) {r:Rl} (h:zI8 F hd r=true):Vd ρ r:=by
 unfold zI8 at h
 cases e:r.h with
 |zero=>rw[e]at h;exact zO9 hF h
 |succ n=>
  rw[e]at h
  dsimp only at h
  cases e1:yW7 hd n<;>rw[e1]at h<;>first|exact nf h|skip
  rename_i b
  have h':(match wG5 r.pre b.pre,eqC b.c r.c,xP0 r.r b.r with|true,true,true=>true|J,J2,J3=>false)=true:=h
  cases e2:wG5 r.pre b.pre<;>rw[e2]at h'<;>first|exact nf h'|skip
  cases e3:eqC b.c r.c<;>rw[e3]at h'<;>first|exact nf h'|skip
  cases e4:xP0 r.r b.r<;>rw[e4]at h'<;>first|(exact nf h';done)|skip
  exact fun hv=>by rw[<-wU9 e3,qM4 e4];exact hh b (wB2 e1) (qP0 hv e2)
theorem wN7 {F:Ft} {hd:List Rl} (hF:FOk ρ F) (hh:∀ r∈hd,Vd ρ r):∀{B:List Rl},zB1 F hd B=true->∀ r∈B,Vd ρ r:=@fun ξ=>no_implicit_lambda%(match @ξ with
 |[]=>@fun J J2 h=>by cases h
 |x::B=>@fun h r hr=>by
  have h':(match zI8 F hd x with|true=>zB1 F hd B|false=>false)=true:=h
  cases e:zI8 F hd x<;>rw[e]at h'<;>first|exact nf h'|skip
  exact (List.mem_cons.mp hr).elim (fun z=>z▸zA1 hF hh e) (wN7 hF hh h' r)
 )
theorem qS0 {F:Ft} {hd:List Rl} (hF:FOk ρ F) (hh:∀ r∈hd,Vd ρ r):∀{R:List (List Rl)},xW5 F hd R=true->∀ B∈R,∀ r∈B,Vd ρ r:=@fun ξ=>no_implicit_lambda%(match @ξ with
 |[]=>@fun J J2 h=>by cases h
 |x::R=>@fun h B hB=>by
  have h':(match zB1 F hd x with|true=>xW5 F hd R|false=>false)=true:=h
  cases e:zB1 F hd x<;>rw[e]at h'<;>first|exact nf h'|skip
  exact (List.mem_cons.mp hB).elim (fun z=>z▸wN7 hF hh e) (qS0 hF hh h' B)
 )
end
end Mine
end
section
namespace Mine
theorem vd0 {ρ:Rho} {c:SC} {r:Bool} {h:Nat} {p q:List Nat} (k:dC ρ c=r):Vd ρ ⟨[],c,r,h,p,q⟩:=fun J=>k
theorem vd1 {ρ:Rho} {c c1:SC} {r b1:Bool} {h:Nat} {p q:List Nat} (k:dC ρ c1=b1->dC ρ c=r):Vd ρ ⟨[(c1,b1)],c,r,h,p,q⟩:=fun hv=>k (hv _ (.head _))
theorem vd2 {ρ:Rho} {c c1 c2:SC} {r b1 b2:Bool} {h:Nat} {p q:List Nat} (k:dC ρ c1=b1->dC ρ c2=b2->dC ρ c=r):Vd ρ ⟨[(c1,b1),(c2,b2)],c,r,h,p,q⟩:=fun hv=>k (hv _ (.head _)) (hv _ (.tail _ (.head _)))
theorem vd3 {ρ:Rho} {c c1 c2 c3:SC} {r b1 b2 b3:Bool} {h:Nat} {p q:List Nat} (k:dC ρ c1=b1->dC ρ c2=b2->dC ρ c3=b3->dC ρ c=r):Vd ρ ⟨[(c1,b1),(c2,b2),(c3,b3)],c,r,h,p,q⟩:=fun hv=>k (hv _ (.head _)) (hv _ (.tail _ (.head _))) (hv _ (.tail _ (.tail _ (.head _))))
theorem nnE {i:Int} (h:0<=i) {P:Int->Prop} (q:∀ n:Nat,P n):P i:=by
 obtain ⟨n,rfl⟩:=Int.eq_ofNat_of_zero_le h
 exact q n
theorem qR2 {n:Nat} {i:Int} (h:0<=i):PySem.clipAt n i=min i.toNat n:=nnE (P:=fun i=>PySem.clipAt n i=min i.toNat n) h fun a=>by rw[PySem.clipAt_nat,Int.toNat_natCast]
theorem wT9 {n:Nat} {i:Int} (h:0<=i) (k:i<=n):PySem.clipAt n i=i.toNat:=(qR2 h).trans (Nat.min_eq_left (Int.toNat_le.mpr k))
theorem ltk {l:List Int} {n:Int} (h:0<=n) (k:n<=l.length):((l.take n.toNat).length:Int)=n:=by
 rw[List.length_take,Nat.min_eq_left (Int.toNat_le.mpr k),Int.toNat_of_nonneg h]
theorem ldr {l:List Int} {n:Int} (h:0<=n) (k:n<=l.length):((l.drop n.toNat).length:Int)=l.length-n:=by
 rw[List.length_drop,Int.ofNat_sub (Int.toNat_le.mpr k),Int.toNat_of_nonneg h]
theorem yU7 {l:List Int} {i j:Int} (h:0<=i) (k:i<=j) (q:j<=l.length):(((l.drop (PySem.clipAt l.length i)).take (PySem.clipAt l.length j-PySem.clipAt l.length i)).length:Int)=j-i:=by
 have h2:=Int.le_trans h k
 rw[wT9 h (Int.le_trans k q),wT9 h2 q,List.length_take,List.length_drop,Nat.min_eq_left (Nat.sub_le_sub_right (Int.toNat_le.mpr q) _),Int.ofNat_sub (Int.toNat_le_toNat k),Int.toNat_of_nonneg h,Int.toNat_of_nonneg h2]
theorem qE9 (x y:List Int):hdN x y+tlN x y<=x.length/\hdN x y+tlN x y<=y.length:=by
 have l:=xP2 x y
 have e:=Nat.le_trans (Nat.add_le_add_left (Nat.min_le_right (hdN x.reverse y.reverse) _) (hdN x y)) (Nat.le_of_eq (Nat.add_sub_cancel' (Nat.le_min.mpr l)))
 exact ⟨Nat.le_trans e (Nat.min_le_left _ _),Nat.le_trans e (Nat.min_le_right _ _)⟩
theorem wB9:∀(x:List Int),hdN x x=x.length:=@fun ξ=>match @ξ with
 |[]=>rfl
 |a::x=>by
  show (if a=a then hdN x x+1 else 0)=_
  rw[if_pos rfl,wB9 x];rfl
theorem wtx (x y:List Int):x.take (hdN x y)++(y.drop (hdN x y)).take (y.length-tlN x y-hdN x y)++x.drop (x.length-tlN x y)=y:=by
 rw[qT4 x y _ (Nat.le_refl _),xF2]
 have e:y.drop (y.length-tlN x y)=(y.drop (hdN x y)).drop (y.length-tlN x y-hdN x y):=by rw[List.drop_drop,Nat.add_sub_cancel' (Nat.le_sub_of_add_le (qE9 x y).2)]
 rw[e,List.append_assoc,List.take_append_drop,List.take_append_drop]
theorem yI9 {x y:List Int} (h:y.length=tlN x y+hdN x y):x.take (hdN x y)++x.drop (x.length-tlN x y)=y:=by
 have:=wtx x y
 rw[show y.length-tlN x y-hdN x y=0 by rw[Nat.sub_sub,h,Nat.sub_self],List.take_zero,List.append_nil]at this
 exact this
theorem wF4 {x y:List Int} (h:y.length=tlN x y+hdN x y) (k:x.length=tlN x y+hdN x y):x=y:=by
 have:=yI9 h
 rw[show x.length-tlN x y=hdN x y by rw[k,Nat.add_sub_cancel_left],List.take_append_drop]at this
 exact this
theorem yL1 {x y:List Int}:(y.drop (PySem.clipAt y.length (hdN x y:Nat))).take (PySem.clipAt y.length ((y.length:Int)-(tlN x y:Nat))-PySem.clipAt y.length (hdN x y:Nat))=(y.drop (hdN x y)).take (y.length-tlN x y-hdN x y):=by
 have h:=(qE9 x y).2
 rw[cl rfl (xP2 x y).2,<-Int.ofNat_sub (Nat.le_trans (Nat.le_add_left _ _) h),cl rfl (Nat.sub_le _ _)]
theorem yI7 {l:List Int} {i:Int} (h:0<=i):(l.drop 0).take (PySem.clipAt l.length i-0)=l.take i.toNat:=by
 rw[qR2 h,List.drop_zero,Nat.sub_zero,List.take_eq_take_iff,Nat.min_assoc,Nat.min_self]
theorem yL2 {l:List Int} {i:Int} (h:0<=i):(l.drop (PySem.clipAt l.length i)).take (l.length-PySem.clipAt l.length i)=l.drop i.toNat:=by
 rw[qR2 h,List.take_of_length_le (by rw[List.length_drop];exact Nat.le_refl _)]
 by_cases q:i.toNat<=l.length
 ·rw[Nat.min_eq_left q]
 ·have q:=Nat.le_of_lt (Nat.lt_of_not_le q)
  rw[Nat.min_eq_right q,List.drop_length,List.drop_of_length_le q]
section
variable {x y:List Int} {p c:Int}
theorem rv2 (q1:¬ ((hdN x y:Nat):Int)+1<p-((x.length:Int)-(tlN x y:Nat)-(hdN x y:Nat))) (q2:((hdN x y:Nat):Int)+1<=p-((x.length:Int)-(tlN x y:Nat)-(hdN x y:Nat))):p-((x.length:Int)-(tlN x y:Nat)-(hdN x y:Nat))=qU3 x y p:=by
 have:=qE9 x y
 unfold qU3;split<;>omega
theorem rv3 (hc:c=(y.length:Int)-(tlN x y:Nat)-(hdN x y:Nat)) (q1:((hdN x y:Nat):Int)+1<p-((x.length:Int)-(tlN x y:Nat)-(hdN x y:Nat))):p-((x.length:Int)-(tlN x y:Nat)-(hdN x y:Nat))+c=qU3 x y p:=by
 unfold qU3;split<;>omega
theorem rv4 (q1:¬ ((hdN x y:Nat):Int)+1<p):p=qU3 x y p:=by
 have:=qE9 x y
 unfold qU3;split<;>omega
theorem rv6 (hc:c=(y.length:Int)-(tlN x y:Nat)-(hdN x y:Nat)) (q1:((hdN x y:Nat):Int)+1<p) (q2:((hdN x y:Nat):Int)+1=(x.length:Int)-(tlN x y:Nat)+1):p+c=qU3 x y p:=by
 unfold qU3;split<;>omega
theorem jW0 (q1:¬ ((hdN x y:Nat):Int)+1<=p-((x.length:Int)-(tlN x y:Nat)-(hdN x y:Nat))) (q2:((hdN x y:Nat):Int)+1<p):((hdN x y:Nat):Int)+1=qU3 x y p:=by
 unfold qU3;split<;>omega
theorem jW7 (hc:c=(y.length:Int)-(tlN x y:Nat)-(hdN x y:Nat)) (q1:c=0) (q2:((hdN x y:Nat):Int)+1<=p-((x.length:Int)-(tlN x y:Nat)-(hdN x y:Nat))):p-((x.length:Int)-(tlN x y:Nat)-(hdN x y:Nat))=qU3 x y p:=by
 have:=qE9 x y
 unfold qU3;split<;>omega
theorem jJ8 (hc:c=(y.length:Int)-(tlN x y:Nat)-(hdN x y:Nat)) (q1:c=0) (q2:((hdN x y:Nat):Int)+1=(x.length:Int)-(tlN x y:Nat)+1):p=qU3 x y p:=by
 unfold qU3;split<;>omega
theorem yS7 (hc:c=(y.length:Int)-(tlN x y:Nat)-(hdN x y:Nat)) (q1:¬ ((hdN x y:Nat):Int)+1=(x.length:Int)-(tlN x y:Nat)+1) (q2:(x.length:Int)<=y.length):¬ c=0:=by
 have:=qE9 x y
 omega
theorem cu5 (hp:p<=x.length+1) (hc:c=(y.length:Int)-(tlN x y:Nat)-(hdN x y:Nat)) (q1:((hdN x y:Nat):Int)+1<p) (q2:(x.length:Int)<=y.length):¬ c=0:=fun z=>by
 have:=qE9 x y
 have e:x=y:=wF4 (by exact leq [_,_,_] [_] (.nl (.v 0) (.a (.v 1) (.v 2))) [(1,.il (.v 0) (.s (.s (.n (.v 0)) (.n (.v 1))) (.n (.v 2)))),(-1,.il (.v 0) (.c (0)))] rfl hc z) (by exact Nat.le_antisymm (Nat.not_lt.mp fun gz=>lin [_,_,_,_] [_] [(1,.il (.s (.s (.n (.v 0)) (.n (.v 1))) (.n (.v 2))) (.v 0)),(1,.il (.n (.v 3)) (.n (.v 0))),(1,.il (.v 0) (.c (0))),(1,.nl (.a (.a (.v 1) (.v 2)) (.c 1)) (.v 3))] rfl (Int.le_of_eq hc.symm) q2 (Int.le_of_eq z) gz) (Nat.not_lt.mp fun gz=>lin [_,_,_] [] [(1,.nl (.a (.v 0) (.v 1)) (.v 2)),(1,.nl (.a (.v 2) (.c 1)) (.a (.v 1) (.v 0)))] rfl this.1 gz))
 subst e
 have:=wB9 x
 omega
theorem wE8 {x:List Int} (h:(x.length:Int)=0):x=[]:=List.length_eq_zero_iff.mp (by exact leq [_] [] (.nl (.v 0) (.c 0)) [(-1,.il (.n (.v 0)) (.c (0)))] rfl h)
theorem xE1 {x:List Int} (h:(0:Int)<x.length):¬ x=[]:=fun z=>by subst z;exact absurd h (by decide)
theorem xL7 {x:List Int} (h:¬ x=[]):-(x.length:Int)<=-1:=by
 cases x with
 |nil=>exact absurd rfl h
 |cons J J2=>simp only[List.length_cons];exact Int.not_lt.mp fun gz=>lin [_] [] [(1,.il (.a (.c (-1)) (.c 1)) (.g (.n (.a (.v 0) (.c 1)))))] rfl gz
end
section
variable {ρ:Rho} {x y:E}
theorem c0t:dC ρ (sc 0 x y)=true↔dI ρ x<dI ρ y:=decide_eq_true_iff
theorem c0f:dC ρ (sc 0 x y)=false↔¬ dI ρ x<dI ρ y:=decide_eq_false_iff_not
theorem c1t:dC ρ (sc 1 x y)=true↔dI ρ x<=dI ρ y:=decide_eq_true_iff
theorem c1f:dC ρ (sc 1 x y)=false↔¬ dI ρ x<=dI ρ y:=decide_eq_false_iff_not
theorem c2t:dC ρ (sc 2 x y)=true↔dI ρ x=dI ρ y:=decide_eq_true_iff
theorem c2f:dC ρ (sc 2 x y)=false↔¬ dI ρ x=dI ρ y:=decide_eq_false_iff_not
theorem c3t:dC ρ (sc 3 x y)=true↔dL ρ x=dL ρ y:=decide_eq_true_iff
theorem c3f:dC ρ (sc 3 x y)=false↔¬ dL ρ x=dL ρ y:=decide_eq_false_iff_not
end
theorem xQ1 {ρ:Rho}:FOk ρ []:=fun J h=>nomatch h
theorem qW5 {ρ:Rho} {x y:E} {F:Ft} (h:dI ρ x<=dI ρ y) (k:FOk ρ F):FOk ρ ((x,y)::F):=fun q hq=>(List.mem_cons.mp hq).elim (fun z=>z▸h) (k q)
theorem qF1 {ρ:Rho} {x y:E} {F:Ft} (h:dI ρ x=dI ρ y) (k:FOk ρ F):FOk ρ ((x,y)::(y,x)::F):=qW5 (Int.le_of_eq h) (qW5 (Int.le_of_eq h.symm) k)
theorem xJ4 {ρ:Rho}:∀ r∈([]:List Rl),Vd ρ r:=fun J h=>nomatch h
theorem vds {ρ:Rho} {r:Rl} {l:List Rl} (h:Vd ρ r) (k:∀ r∈l,Vd ρ r):∀ q∈r::l,Vd ρ q:=fun q hq=>(List.mem_cons.mp hq).elim (fun z=>z▸h) (k q)
end Mine
end
section
namespace Mine
noncomputable abbrev eD:E:=.b .mod (.u .hd (.u .tl (.v 1))) (.b .add (.u .len (.v 2)) (.c 1))
noncomputable abbrev eH:E:=.b .lcp (.v 2) (.v 3)
noncomputable abbrev eS:E:=.b .lcs (.v 2) (.v 3)
noncomputable abbrev eLC:E:=.u .len (.t .cut (.b .lcp (.v 2) (.v 3)) (.b .sub (.u .len (.v 3)) (.b .lcs (.v 2) (.v 3))) (.v 3))
noncomputable abbrev eW:E:=.b .mod (.u .hd (.v 1)) (.c 10)
noncomputable abbrev eA:E:=.b .app (.b .tk (.b .lcp (.v 2) (.v 3)) (.v 2)) (.b .dr (.b .sub (.u .len (.v 2)) (.b .lcs (.v 2) (.v 3))) (.v 2))
noncomputable abbrev E0:E:=.b .mod (.u .hd (.u .tl (.v 1))) (.b .add (.u .len (.v 2)) (.c 1))
noncomputable abbrev E1:E:=.b .lcp (.v 2) (.v 3)
noncomputable abbrev E2:E:=.b .sub (.u .len (.v 2)) (.b .lcs (.v 2) (.v 3))
noncomputable abbrev E3:E:=.t .cut E1 (.b .sub (.u .len (.v 3)) (.b .lcs (.v 2) (.v 3))) (.v 3)
noncomputable abbrev E4:E:=.v 2
noncomputable abbrev E5:E:=.b .app (.b .tk E1 E4) (.b .dr E2 E4)
noncomputable abbrev E6:E:=.c 1
noncomputable abbrev E7:E:=.b .sub (.v 10) (.b .sub E2 E1)
noncomputable abbrev E8:E:=.u .len E4
noncomputable abbrev E9:E:=.b .mod (.u .hd (.u .tl (.u .tl (.u .tl (.v 1))))) (.c 2)
noncomputable abbrev E10:E:=.b .add E1 E6
noncomputable abbrev E11:E:=.b .add (.u .len (.b .tk E0 E4)) (.u .len (.b .dr (.b .add E0 E6) E4))
noncomputable abbrev E12:E:=.b .add (.b .add (.u .len (.b .tk E1 E5)) (.u .len E3)) (.u .len (.b .dr E1 E5))
noncomputable abbrev E13:E:=.b .add (.v 11) (.c 3)
noncomputable abbrev E14:E:=.t .rev E4 (.v 3) (.v 10)
noncomputable abbrev E15:E:=.b .add E0 E6
noncomputable abbrev E16:E:=.b .add (.u .len (.b .tk E1 E4)) (.u .len (.b .dr E2 E4))
noncomputable abbrev E17:E:=.b .rep (.b .add E9 E6) (.b .add (.b .mod (.u .hd (.u .tl (.u .tl (.v 1)))) (.c 4)) (.c 97))
noncomputable abbrev E18:E:=.b .mod (.u .hd (.v 1)) (.c 10)
noncomputable abbrev E19:E:=.b .add E8 E6
noncomputable abbrev E20:E:=.c 0
noncomputable abbrev E21:E:=.b .add (.b .add (.u .len (.b .tk E1 E4)) (.u .len E3)) (.u .len (.b .dr E1 E4))
noncomputable abbrev E22:E:=.v 10
noncomputable abbrev E23:E:=.b .add (.b .add (.u .len (.b .tk E0 E4)) E9) (.u .len (.b .dr E0 E4))
noncomputable abbrev E24:E:=.u .len E3
noncomputable abbrev E25:E:=.u .len (.v 5)
noncomputable abbrev E26:E:=.b .add E2 E6
noncomputable abbrev E27:E:=.b .add (.v 0) (.c 2)
noncomputable abbrev E28:E:=.v 3
noncomputable abbrev E29:E:=.u .hd (.u .tl (.v 1))
noncomputable abbrev E30:E:=.v 7
noncomputable abbrev E31:E:=.b .add E30 (.c 2)
noncomputable abbrev E32:E:=.v 5
noncomputable abbrev E33:E:=.b .sub E22 E8
noncomputable abbrev E34:E:=.u .len E28
noncomputable abbrev E35:E:=.b .add E11 E6
noncomputable abbrev E36:E:=.b .add E30 E6
noncomputable abbrev E37:E:=.v 4
noncomputable abbrev E38:E:=.b .tk E0 E4
noncomputable abbrev E39:E:=.v 0
noncomputable abbrev E40:E:=.b .app (.b .app (.b .ct0 E0 E4) E17) (.b .ct1 E0 E4)
noncomputable abbrev E41:E:=.b .add E12 E6
noncomputable abbrev E42:E:=.b .sub E8 (.b .sub E2 E1)
noncomputable abbrev E43:E:=.b .app (.b .app (.b .tk E1 E4) E3) (.b .dr E1 E4)
noncomputable abbrev E44:E:=.b .app (.b .app (.b .tk E1 E5) E3) (.b .dr E1 E5)
noncomputable abbrev E45:E:=.b .dr E15 E4
noncomputable abbrev E46:E:=.c (-1)
noncomputable abbrev E47:E:=.v 9
noncomputable def xN9:Ft:=[(.c 1,.v 10),(.v 10,.b .add E8 E6),(.u .len E4,.v 11),(.u .len E28,.v 11),(.u .len E37,.v 11),(.u .len E32,.v 11),(.v 9,.v 7),(.v 6,.v 7),(.c 0,.v 6),(.c 1,.v 7),(.v 2,.v 0),(.v 5,.v 0),(.v 4,.v 0),(.c 4,.v 11),(.c 0,.b .lcp E4 E28),(.c 0,.b .lcs E4 E28),(.b .add E1 (.b .lcs E4 E28),.u .len E4),(.b .add E1 (.b .lcs E4 E28),.u .len E28),(.c 0,.b .mod E29 E19),(.b .mod E29 E19,.u .len E4),(.c 0,.b .mod (.u .hd (.u .tl (.u .tl (.u .tl (.v 1))))) (.c 2)),(.b .mod (.u .hd (.u .tl (.u .tl (.u .tl (.v 1))))) (.c 2),.c 1),(.b .mod E29 (.c 5),.c 4),(.c 0,.u .len E4),(.c 0,.u .len E32),(.u .len E38,.b .mod E29 E19),(.b .mod E29 E19,.u .len E38),(.u .len (.b .dr E0 E4),.b .sub E8 E0),(.b .sub E8 E0,.u .len (.b .dr E0 E4)),(.u .len (.b .tk E1 E4),.b .lcp E4 E28),(.b .lcp E4 E28,.u .len (.b .tk E1 E4)),(.u .len (.b .dr E2 E4),.b .lcs E4 E28),(.b .lcs E4 E28,.u .len (.b .dr E2 E4)),(.u .len (.b .dr E1 E4),.b .sub E8 E1),(.b .sub E8 E1,.u .len (.b .dr E1 E4)),(.u .len E3,.b .sub (.b .sub E34 (.b .lcs E4 E28)) E1),(.b .sub (.b .sub E34 (.b .lcs E4 E28)) E1,.u .len E3),(.u .len (.b .tk E1 E5),.b .lcp E4 E28),(.b .lcp E4 E28,.u .len (.b .tk E1 E5)),(.u .len (.b .dr E1 E5),.b .lcs E4 E28),(.b .lcs E4 E28,.u .len (.b .dr E1 E5)),(.b .sub (.b .sub E8 E0) E6,.u .len E45),(.c 0,.u .len E45),(.u .len E45,.b .sub E8 E0)]
noncomputable def zR8:List Rl:=[⟨[(sc 0 E15 E22,true)],sc 2 E35 E8,true,0,[],[]⟩,⟨[(sc 1 E15 E8,true)],sc 2 E35 E8,true,0,[],[]⟩,⟨[(sc 0 E10 E7,false),(sc 1 E10 E7,true)],sc 2 E7 E14,true,0,[],[]⟩,⟨[(sc 0 E10 E7,true)],sc 2 (.b .add E7 E24) E14,true,0,[],[]⟩,⟨[(sc 0 E10 E22,false)],sc 2 E22 E14,true,0,[],[]⟩,⟨[(sc 0 E10 E22,true),(sc 2 E10 E26,true)],sc 2 (.b .add E22 E24) E14,true,0,[],[]⟩,⟨[(sc 1 E10 E7,false),(sc 0 E10 E22,true)],sc 2 E10 E14,true,0,[],[]⟩,⟨[(sc 2 E24 E20,true),(sc 1 E10 E7,true)],sc 2 E7 E14,true,0,[],[]⟩,⟨[(sc 2 E24 E20,true),(sc 2 E10 E26,true)],sc 2 E22 E14,true,0,[],[]⟩,⟨[(sc 0 E10 E22,true),(sc 1 E8 E34,true)],sc 2 E24 E20,false,0,[],[]⟩,⟨[(sc 2 E10 E26,false),(sc 1 E8 E34,true)],sc 2 E24 E20,false,0,[],[]⟩,⟨[(sc 0 E6 E22,true)],sc 3 E4 E20,false,0,[],[]⟩,⟨[(sc 1 E6 E33,false)],sc 3 E4 E20,false,0,[],[]⟩,⟨[(sc 2 E6 E19,false)],sc 3 E4 E20,false,0,[],[]⟩,⟨[(sc 2 E6 E19,true)],sc 3 E4 E20,true,0,[],[]⟩,⟨[(sc 2 E6 E19,true)],sc 3 (.b .app E32 E4) E32,true,0,[],[]⟩,⟨[(sc 3 E4 E20,false)],sc 1 (.u .neg E8) E46,true,0,[],[]⟩,⟨[(sc 2 (.b .get E4 E46) (.c 10),true)],sc 1 (.u .neg E8) E46,true,0,[],[]⟩,⟨[(sc 2 E25 E20,false)],sc 3 E32 E20,false,0,[],[]⟩,⟨[(sc 2 E25 E20,true),(sc 2 E6 E19,true)],sc 3 E4 E32,true,0,[],[]⟩,⟨[(sc 2 E25 E20,true)],sc 3 E20 E32,true,0,[],[]⟩,⟨[(sc 2 E25 E20,true)],sc 3 E32 E20,true,0,[],[]⟩,⟨[(sc 4 E32 E20,true),(sc 0 E4 E37,false)],sc 4 E37 E20,false,0,[],[]⟩,⟨[(sc 4 E32 E20,true),(sc 0 E4 E37,true)],sc 4 E37 E20,true,0,[],[]⟩,⟨[(sc 4 E32 E20,true),(sc 4 E37 E20,false)],sc 0 E4 E37,false,0,[],[]⟩,⟨[(sc 4 E32 E20,true),(sc 4 E37 E20,true)],sc 0 E4 E37,true,0,[],[]⟩,⟨[(sc 0 E47 E30,false)],sc 4 E39 E20,false,0,[],[]⟩,⟨[(sc 0 E47 E30,true)],sc 4 E39 E20,true,0,[],[]⟩,⟨[(sc 4 E39 E20,false)],sc 0 E47 E30,false,0,[],[]⟩,⟨[(sc 4 E39 E20,true)],sc 0 E47 E30,true,0,[],[]⟩,⟨[(sc 2 E4 E32,false)],sc 4 (.v 1) E20,true,0,[],[]⟩,⟨[(sc 2 E4 E32,true)],sc 4 (.v 1) E20,false,0,[],[]⟩,⟨[(sc 4 E28 E20,false),(sc 0 E47 E30,true)],sc 2 (.v 6) E30,false,0,[],[]⟩,⟨[(sc 4 E28 E20,true),(sc 0 E47 E30,true)],sc 2 (.v 6) E30,true,0,[],[]⟩,⟨[(sc 4 E28 E20,false),(sc 4 E39 E20,true)],sc 2 (.v 6) E30,false,0,[],[]⟩,⟨[(sc 4 E28 E20,true),(sc 4 E39 E20,true)],sc 2 (.v 6) E30,true,0,[],[]⟩,⟨[(sc 2 E10 E26,true)],sc 3 E43 E28,true,0,[],[]⟩,⟨[(sc 2 E24 E20,true),(sc 2 E10 E26,true)],sc 3 E4 E28,true,0,[],[]⟩,⟨[(sc 2 E24 E20,true)],sc 3 E5 E28,true,0,[],[]⟩,⟨[(sc 2 E18 (.c 2),false),(sc 0 E18 (.c 2),false),(sc 0 E18 (.c 4),true)],sc 2 E18 (.c 3),true,0,[],[]⟩,⟨[],sc 3 (.b .app (.b .app E38 E17) (.b .dr E0 E4)) E40,true,0,[],[]⟩,⟨[],sc 3 E44 E28,true,0,[],[]⟩,⟨[],sc 3 (.b .app E38 E45) (.b .app (.b .ct0 E0 E4) (.b .ct1 E15 E4)),true,0,[],[]⟩]
noncomputable def wF3:List (List Rl):=[[⟨[(sc 0 E10 E22,false)],sc 1 E22 (.b .add E16 E6),true,0,[31,33,0,16],[]⟩,⟨[(sc 0 E6 E22,false)],sc 1 E22 (.b .add E25 E6),true,0,[25,0],[]⟩,⟨[(sc 1 E8 E34,false)],sc 2 E10 E26,false,0,[18,0],[]⟩,⟨[],sc 1 E12 E13,true,0,[37,35,39,3],[]⟩,⟨[],sc 1 E15 E19,true,0,[19],[]⟩,⟨[],sc 1 E16 E13,true,0,[29,31,2,16],[]⟩,⟨[],sc 1 E6 (.b .add E22 E24),true,0,[0,36,17],[]⟩,⟨[],sc 1 E32 E27,true,0,[11],[]⟩,⟨[],sc 2 (.b .add E21 E6) (.b .add (.b .add E8 E24) E6),true,0,[29,33],[30,34]⟩],[⟨[(sc 0 E10 E7,true)],sc 2 (.b .add E7 E24) E14,true,4,[],[]⟩,⟨[(sc 0 E15 E22,true)],sc 1 E6 (.b .add E22 E46),true,0,[0,19],[]⟩,⟨[(sc 2 E25 E20,false)],sc 3 E32 E20,false,19,[],[]⟩,⟨[(sc 2 E25 E20,true)],sc 3 E32 E20,true,22,[],[]⟩,⟨[],sc 0 (.c 4) (.b .mod E29 (.c 5)),false,0,[22],[]⟩,⟨[],sc 0 E4 E27,true,0,[10],[]⟩,⟨[],sc 1 E2 E8,true,0,[15],[]⟩,⟨[],sc 1 E20 E30,true,0,[9],[]⟩,⟨[],sc 1 E6 E15,true,0,[18],[]⟩,⟨[],sc 1 E34 E13,true,0,[3],[]⟩],[⟨[(sc 0 E10 E7,false),(sc 1 E10 E7,true)],sc 2 E7 E14,true,3,[],[]⟩,⟨[(sc 1 E15 E6,true)],sc 2 E6 E15,true,0,[19],[0]⟩,⟨[(sc 2 E24 E20,true),(sc 1 E10 E7,true)],sc 2 E7 E14,true,8,[],[]⟩,⟨[(sc 4 E39 E20,false)],sc 0 E47 E30,false,29,[],[]⟩,⟨[(sc 4 E39 E20,true)],sc 0 E47 E30,true,30,[],[]⟩,⟨[],sc 1 E19 E13,true,0,[2],[]⟩,⟨[],sc 1 (.b .add E22 E24) (.b .add E21 E6),true,0,[30,34,1],[]⟩,⟨[],sc 1 (.c 4) E13,true,0,[13],[]⟩,⟨[],sc 1 E4 E27,true,0,[10],[]⟩,⟨[],sc 2 (.b .add E23 (.c 2)) (.b .add (.b .add E8 E9) (.c 2)),true,0,[25,27],[26,28]⟩,⟨[],sc 2 E27 E32,false,0,[11],[]⟩],[⟨[],sc 0 E19 E26,false,0,[15],[]⟩,⟨[],sc 1 E20 E31,true,0,[9],[]⟩,⟨[],sc 1 E6 E13,true,0,[13],[]⟩,⟨[],sc 1 E22 (.b .add (.b .add E25 E8) E6),true,0,[24,1],[]⟩,⟨[],sc 1 E4 E39,true,0,[10],[]⟩,⟨[],sc 1 E47 E30,true,0,[6],[]⟩,⟨[],sc 2 E41 (.b .add (.b .add E42 E24) E6),true,0,[37,39],[38,40]⟩],[⟨[],sc 0 E47 E31,true,0,[6],[]⟩,⟨[],sc 1 (.b .add E23 E6) E13,true,0,[25,21,27,2],[]⟩,⟨[],sc 1 E10 (.b .add E16 E6),true,0,[30,32,15],[]⟩,⟨[],sc 1 (.b .add E39 (.c 3)) (.b .add E39 (.c 4)),true,0,[],[]⟩],[⟨[(sc 0 E47 E30,false)],sc 4 E39 E20,false,27,[],[]⟩,⟨[(sc 0 E47 E30,true)],sc 4 E39 E20,true,28,[],[]⟩,⟨[(sc 2 (.b .get E4 E46) (.c 10),true)],sc 1 (.u .neg E8) E46,true,18,[],[]⟩,⟨[(sc 2 E25 E20,true)],sc 3 E20 E32,true,21,[],[]⟩,⟨[(sc 3 E4 E20,false)],sc 1 (.u .neg E8) E46,true,17,[],[]⟩,⟨[],sc 1 (.b .add (.b .add E22 E9) E6) (.b .add E23 (.c 2)),true,0,[26,28,1],[]⟩,⟨[],sc 1 (.b .add E22 E46) E35,true,0,[26,1,41],[]⟩,⟨[],sc 1 E33 (.b .add E25 E6),true,0,[24,1],[]⟩,⟨[],sc 1 E20 E36,true,0,[9],[]⟩,⟨[],sc 1 E37 E39,true,0,[12],[]⟩,⟨[],sc 1 E47 E31,true,0,[6],[]⟩,⟨[],sc 2 (.b .add E16 E6) (.b .add E42 E6),true,0,[29,31],[30,32]⟩,⟨[],sc 3 (.b .app E38 E45) (.b .app (.b .ct0 E0 E4) (.b .ct1 E15 E4)),true,43,[],[]⟩],[⟨[(sc 0 E6 E22,true)],sc 3 E4 E20,false,12,[],[]⟩,⟨[(sc 1 E6 E33,false)],sc 3 E4 E20,false,13,[],[]⟩,⟨[(sc 2 E6 E19,false)],sc 3 E4 E20,false,14,[],[]⟩,⟨[(sc 2 E6 E19,true)],sc 3 E4 E20,true,15,[],[]⟩,⟨[],sc 0 E47 E36,true,0,[6],[]⟩,⟨[],sc 1 E15 (.b .add E0 (.c 2)),true,0,[],[]⟩,⟨[],sc 1 E6 E30,true,0,[9],[]⟩],[⟨[(sc 0 E6 E22,false)],sc 1 E22 E6,true,0,[0],[]⟩,⟨[(sc 1 E10 E7,true)],sc 1 E6 E7,true,0,[0,15],[]⟩,⟨[(sc 2 E18 (.c 2),false),(sc 0 E18 (.c 2),false),(sc 0 E18 (.c 4),true)],sc 2 E18 (.c 3),true,40,[],[]⟩,⟨[(sc 2 E18 (.c 2),true)],sc 2 E18 (.c 3),false,0,[0],[]⟩,⟨[],sc 0 E15 E6,false,0,[18],[]⟩,⟨[],sc 1 E8 E13,true,0,[2],[]⟩,⟨[],sc 1 E4 (.b .add E39 E6),true,0,[10],[]⟩,⟨[],sc 1 E37 E27,true,0,[12],[]⟩,⟨[],sc 1 E47 E36,true,0,[6],[]⟩,⟨[],sc 2 E15 (.b .add E0 (.c 2)),false,0,[],[]⟩],[⟨[(sc 0 E10 E22,false)],sc 1 E22 E41,true,0,[39,37,41,0,18,16],[]⟩,⟨[(sc 0 E15 E22,true)],sc 1 E15 (.b .add E22 E46),true,0,[0],[]⟩,⟨[(sc 0 E6 E22,false)],sc 2 E22 E6,true,0,[0],[1]⟩,⟨[(sc 2 E6 E19,true)],sc 2 E22 E6,true,0,[3,1],[2]⟩,⟨[(sc 2 E25 E20,true),(sc 2 E6 E19,true)],sc 3 E4 E32,true,20,[],[]⟩,⟨[],sc 0 (.b .add E42 E6) E10,false,0,[15],[]⟩,⟨[],sc 1 E0 E8,true,0,[19],[]⟩,⟨[],sc 1 E7 (.b .add E16 E6),true,0,[30,32,1],[]⟩,
 ⟨[],sc 1 E6 E31,true,0,[9],[]⟩,⟨[],sc 1 (.c 2) E13,true,0,[13],[]⟩,⟨[],sc 1 (.v 6) E30,true,0,[7],[]⟩],[⟨[(sc 0 E15 E22,true)],sc 2 E35 E8,true,1,[],[]⟩,⟨[(sc 4 E32 E20,true),(sc 0 E4 E37,false)],sc 4 E37 E20,false,23,[],[]⟩,⟨[(sc 4 E32 E20,true),(sc 0 E4 E37,true)],sc 4 E37 E20,true,24,[],[]⟩,⟨[(sc 1 E15 E8,true)],sc 2 E35 E8,true,2,[],[]⟩,⟨[(sc 4 E28 E20,false),(sc 0 E47 E30,true)],sc 2 (.v 6) E30,false,33,[],[]⟩,⟨[(sc 4 E28 E20,false),(sc 4 E39 E20,true)],sc 2 (.v 6) E30,false,35,[],[]⟩,⟨[(sc 4 E28 E20,true),(sc 0 E47 E30,true)],sc 2 (.v 6) E30,true,34,[],[]⟩,⟨[(sc 4 E28 E20,true),(sc 4 E39 E20,true)],sc 2 (.v 6) E30,true,36,[],[]⟩,⟨[],sc 0 E19 E22,false,0,[1],[]⟩,⟨[],sc 0 E27 E37,false,0,[12],[]⟩,⟨[],sc 1 E10 E41,true,0,[38,36,40,17,15],[]⟩,⟨[],sc 1 (.b .add E7 E24) E41,true,0,[38,40,1],[]⟩],[⟨[(sc 2 E6 E19,true)],sc 0 E6 E22,false,0,[3,1],[]⟩,⟨[(sc 2 E24 E20,true),(sc 2 E10 E26,true)],sc 3 E4 E28,true,38,[],[]⟩,⟨[],sc 0 E6 E33,false,0,[1],[]⟩,⟨[],sc 1 E11 E13,true,0,[25,43,2],[]⟩,⟨[],sc 1 E20 (.v 6),true,0,[8],[]⟩,⟨[],sc 1 E6 E36,true,0,[9],[]⟩,⟨[],sc 1 (.v 6) E31,true,0,[7],[]⟩,⟨[],sc 3 (.b .app (.b .app E38 E17) (.b .dr E0 E4)) E40,true,41,[],[]⟩],[⟨[(sc 2 E10 E26,true)],sc 1 E21 E13,true,0,[31,37,35,5,1],[]⟩,⟨[],sc 0 E19 E10,false,0,[16,15],[]⟩,⟨[],sc 1 E27 (.b .add E39 (.c 3)),true,0,[],[]⟩,⟨[],sc 1 E6 E22,true,0,[0],[]⟩,⟨[],sc 1 E25 E13,true,0,[5],[]⟩,⟨[],sc 2 (.v 6) E31,false,0,[7],[]⟩,⟨[],sc 3 E44 E28,true,42,[],[]⟩],[⟨[(sc 0 E10 E7,true)],sc 1 E6 (.b .add E7 E24),true,0,[37,0,18,15],[]⟩,⟨[(sc 2 E10 E26,true)],sc 3 E43 E28,true,37,[],[]⟩,⟨[],sc 1 E33 E6,true,0,[1],[]⟩,⟨[],sc 1 E22 (.b .add E23 (.c 2)),true,0,[26,20,28,1],[]⟩,⟨[],sc 1 (.v 6) E36,true,0,[7],[]⟩,⟨[],sc 2 (.b .add (.b .add E25 E8) E6) (.b .add (.b .add E8 E25) E6),true,0,[],[]⟩],[⟨[(sc 0 E10 E22,false)],sc 2 E22 E14,true,5,[],[]⟩,⟨[(sc 0 E15 E22,false)],sc 1 E22 E35,true,0,[27,43,0],[]⟩,⟨[(sc 1 E15 E8,true)],sc 0 E19 (.b .add E0 (.c 2)),false,0,[0],[]⟩,⟨[(sc 1 E6 E33,true)],sc 2 E33 E6,true,0,[2],[0]⟩,⟨[(sc 2 E6 E19,true)],sc 3 (.b .app E32 E4) E32,true,16,[],[]⟩,⟨[(sc 2 E24 E20,true),(sc 2 E10 E26,true)],sc 2 E22 E14,true,9,[],[]⟩,⟨[(sc 2 E24 E20,true)],sc 3 E5 E28,true,39,[],[]⟩,⟨[],sc 1 E0 E15,true,0,[],[]⟩,⟨[],sc 1 E7 E41,true,0,[38,36,40,1,17],[]⟩,⟨[],sc 1 E20 E0,true,0,[18],[]⟩,⟨[],sc 1 E6 (.b .add (.b .add E22 E9) E6),true,0,[0,20],[]⟩,⟨[],sc 1 (.c 3) E13,true,0,[13],[]⟩,⟨[],sc 1 E22 (.b .add E8 (.c 2)),true,0,[1],[]⟩,⟨[],sc 2 (.v 6) E36,false,0,[7],[]⟩],[⟨[(sc 0 E10 E22,true),(sc 1 E8 E34,true)],sc 2 E24 E20,false,10,[],[]⟩,⟨[(sc 0 E10 E22,true),(sc 2 E10 E26,true)],sc 2 (.b .add E22 E24) E14,true,6,[],[]⟩,⟨[(sc 1 E10 E7,false),(sc 0 E10 E22,true)],sc 2 E10 E14,true,7,[],[]⟩,⟨[(sc 2 E10 E26,false),(sc 1 E8 E34,true)],sc 2 E24 E20,false,11,[],[]⟩,⟨[(sc 2 E6 E19,true)],sc 1 (.b .add E25 E8) E13,true,0,[7,1],[]⟩,⟨[(sc 2 E4 E32,false)],sc 4 (.v 1) E20,true,31,[],[]⟩,⟨[(sc 2 E4 E32,true)],sc 4 (.v 1) E20,false,32,[],[]⟩,⟨[(sc 4 E32 E20,true),(sc 4 E37 E20,false)],sc 0 E4 E37,false,25,[],[]⟩,⟨[(sc 4 E32 E20,true),(sc 4 E37 E20,true)],sc 0 E4 E37,true,26,[],[]⟩,⟨[],sc 1 E1 E8,true,0,[16,15],[]⟩,⟨[],sc 1 E20 E13,true,0,[13],[]⟩,⟨[],sc 1 (.u .len E37) E13,true,0,[4],[]⟩,⟨[],sc 1 E22 (.b .add E21 E6),true,0,[30,36,34,1,17],[]⟩,⟨[],sc 1 E32 E39,true,0,[11],[]⟩],[⟨[],sc 0 E19 E15,false,0,[19],[]⟩,⟨[],sc 1 E10 E26,true,0,[16],[]⟩,⟨[],sc 1 E1 E16,true,0,[30,32,15],[]⟩,⟨[],sc 1 E1 E2,true,0,[16],[]⟩,⟨[],sc 1 E22 E19,true,0,[1],[]⟩]]
theorem xX0:xW5 xN9 zR8 wF3=true:=by decide +kernel
section
variable {ρ:Rho} {a b:Bool}
theorem eD0:0<=dI ρ eD:=Int.emod_nonneg _ (by show ((ρ.l 2).length:Int)+1≠0;omega)
theorem eD1:dI ρ eD<=(ρ.l 2).length:=Int.le_of_lt_add_one (Int.emod_lt_of_pos (dI ρ (.u .hd (.u .tl (.v 1)))) (show (0:Int)<(ρ.l 2).length+1 by exact Int.not_le.mp fun gz=>lin [_] [] [(1,.il (.a (.n (.v 0)) (.c (1))) (.c (0)))] rfl gz))
theorem xL0:dI ρ eLC=((ρ.l 3).length:Int)-(tlN (ρ.l 2) (ρ.l 3):Nat)-(hdN (ρ.l 2) (ρ.l 3):Nat):=by
 have:=qE9 (ρ.l 2) (ρ.l 3)
 exact yU7 (l:=ρ.l 3) (i:=(hdN (ρ.l 2) (ρ.l 3):Nat)) (j:=((ρ.l 3).length:Int)-(tlN (ρ.l 2) (ρ.l 3):Nat)) (by exact Int.not_lt.mp fun gz=>lin [_] [] [(1,.il (.a (.n (.v 0)) (.c 1)) (.c (0)))] rfl gz) (by exact Int.not_lt.mp fun gz=>lin [_,_,_] [] [(1,.nl (.a (.v 0) (.v 1)) (.v 2)),(1,.il (.a (.s (.n (.v 2)) (.n (.v 1))) (.c 1)) (.n (.v 0)))] rfl this.2 gz) (by exact Int.not_lt.mp fun gz=>lin [_,_] [] [(1,.il (.a (.n (.v 0)) (.c 1)) (.s (.n (.v 0)) (.n (.v 1))))] rfl gz)
theorem zK2:(dL ρ eA).take (hdN (ρ.l 2) (ρ.l 3))=(ρ.l 2).take (hdN (ρ.l 2) (ρ.l 3)):=by
 have:=qE9 (ρ.l 2) (ρ.l 3)
 show ((ρ.l 2).take (hdN (ρ.l 2) (ρ.l 3))++_).take _=_
 rw[List.take_append_of_le_length (by rw[List.length_take];omega),List.take_of_length_le (by rw[List.length_take];exact Nat.not_lt.mp fun gz=>lin [_,_] [] [(1,.nl (.v 0) (.v 1)),(1,.nl (.a (.v 1) (.c 1)) (.v 0))] rfl (Nat.min_le_left (hdN (ρ.l 2) (ρ.l 3)) ((ρ.l 2).length)) gz)]
theorem zS8:(dL ρ eA).length=hdN (ρ.l 2) (ρ.l 3)+tlN (ρ.l 2) (ρ.l 3):=by
 have:=qE9 (ρ.l 2) (ρ.l 3)
 show ((ρ.l 2).take (hdN (ρ.l 2) (ρ.l 3))++(ρ.l 2).drop (((ρ.l 2).length:Int)-(tlN (ρ.l 2) (ρ.l 3):Nat)).toNat).length=_
 rw[List.length_append,List.length_take,List.length_drop]
 omega
theorem wM8:(ρ.l 2).drop (((ρ.l 2).length:Int)-(tlN (ρ.l 2) (ρ.l 3):Nat)).toNat=(ρ.l 2).drop ((ρ.l 2).length-tlN (ρ.l 2) (ρ.l 3)):=by
 congr 1
 omega
theorem xS6:(dL ρ eA).drop (hdN (ρ.l 2) (ρ.l 3))=(ρ.l 2).drop ((ρ.l 2).length-tlN (ρ.l 2) (ρ.l 3)):=by
 have:=qE9 (ρ.l 2) (ρ.l 3)
 show ((ρ.l 2).take (hdN (ρ.l 2) (ρ.l 3))++(ρ.l 2).drop (((ρ.l 2).length:Int)-(tlN (ρ.l 2) (ρ.l 3):Nat)).toNat).drop _=_
 rw[List.drop_append_of_le_length (by rw[List.length_take];omega),List.drop_of_length_le (by rw[List.length_take];exact Nat.not_lt.mp fun gz=>lin [_,_] [] [(1,.nl (.v 0) (.v 1)),(1,.nl (.a (.v 1) (.c 1)) (.v 0))] rfl (Nat.min_le_left (hdN (ρ.l 2) (ρ.l 3)) ((ρ.l 2).length)) gz),List.nil_append,wM8]
theorem xD3 (I:IV a b ρ):FOk ρ xN9:=by
 have D0:=eD0 (ρ:=ρ)
 have D1:=eD1 (ρ:=ρ)
 have t:=qE9 (ρ.l 2) (ρ.l 3)
 have la:=zS8 (ρ:=ρ)
 refine qW5 I.p1 (qW5 I.p2 (qW5 I.lT (qW5 I.lF (qW5 I.lB (qW5 I.lU (qW5 I.sv (qW5 I.at1 (qW5 I.at0 (qW5 I.tk (qW5 I.sf (qW5 I.vs (qW5 I.su (qW5 I.L4
  (qW5 (Int.natCast_nonneg _) (qW5 (Int.natCast_nonneg _) (qW5 (Int.ofNat_le.mpr t.1) (qW5 (Int.ofNat_le.mpr t.2) (qW5 D0 (qW5 D1 (qW5 (Int.emod_nonneg _ (show (2:Int)≠0 by decide)) (qW5 (Int.le_of_lt_add_one (Int.emod_lt_of_pos _ (show (0:Int)<2 by decide))) (qW5 (Int.le_of_lt_add_one (Int.emod_lt_of_pos _ (show (0:Int)<5 by decide)))
  (qW5 (Int.natCast_nonneg _) (qW5 (Int.natCast_nonneg _) (qF1 (ltk D0 D1) (qF1 (ldr D0 D1) (qF1 ?_ (qF1 ?_ (qF1 ?_ (qF1 xL0 (qF1 ?_ (qF1 ?_ (qW5 ?_ (qW5 (Int.natCast_nonneg _) (qW5 ?_ xQ1)))))))))))))))))))))))))))))))))))
 ·exact ltk (l:=ρ.l 2) (n:=(hdN (ρ.l 2) (ρ.l 3):Nat)) (Int.natCast_nonneg _) (by exact Int.not_lt.mp fun gz=>lin [_,_,_] [] [(1,.nl (.a (.v 0) (.v 1)) (.v 2)),(1,.il (.a (.n (.v 2)) (.c 1)) (.n (.v 0)))] rfl t.1 gz)
 ·exact (ldr (l:=ρ.l 2) (n:=((ρ.l 2).length:Int)-(tlN (ρ.l 2) (ρ.l 3):Nat)) (by exact Int.not_lt.mp fun gz=>lin [_,_,_] [] [(1,.nl (.a (.v 0) (.v 1)) (.v 2)),(1,.il (.a (.s (.n (.v 2)) (.n (.v 1))) (.c 1)) (.c (0)))] rfl t.1 gz) (by exact Int.not_lt.mp fun gz=>lin [_,_] [] [(1,.il (.a (.n (.v 0)) (.c 1)) (.s (.n (.v 0)) (.n (.v 1))))] rfl gz)).trans (Int.sub_sub_self _ _)
 ·exact ldr (l:=ρ.l 2) (n:=(hdN (ρ.l 2) (ρ.l 3):Nat)) (Int.natCast_nonneg _) (by exact Int.not_lt.mp fun gz=>lin [_,_,_] [] [(1,.nl (.a (.v 0) (.v 1)) (.v 2)),(1,.il (.a (.n (.v 2)) (.c 1)) (.n (.v 0)))] rfl t.1 gz)
 ·exact ltk (l:=dL ρ eA) (n:=(hdN (ρ.l 2) (ρ.l 3):Nat)) (Int.natCast_nonneg _) (by rw[la];exact Int.not_lt.mp fun gz=>lin [_,_] [] [(1,.il (.a (.n (.a (.v 0) (.v 1))) (.c 1)) (.n (.v 0)))] rfl gz)
 ·exact (ldr (l:=dL ρ eA) (n:=(hdN (ρ.l 2) (ρ.l 3):Nat)) (Int.natCast_nonneg _) (by rw[la];exact Int.not_lt.mp fun gz=>lin [_,_] [] [(1,.il (.a (.n (.a (.v 0) (.v 1))) (.c 1)) (.n (.v 0)))] rfl gz)).trans (by rw[la];show _=((tlN (ρ.l 2) (ρ.l 3):Nat):Int);exact leq [_,_] [] (.il (.s (.n (.a (.v 0) (.v 1))) (.n (.v 0))) (.n (.v 1))) [] rfl)
 ·show ((ρ.l 2).length:Int)-dI ρ eD-1<=(((ρ.l 2).drop (dI ρ eD+1).toNat).length:Int)
  rw[List.length_drop];omega
 ·show (((ρ.l 2).drop (dI ρ eD+1).toNat).length:Int)<=((ρ.l 2).length:Int)-dI ρ eD
  rw[List.length_drop];omega
theorem zY8 (I:IV a b ρ):∀ r∈zR8,Vd ρ r:=by
 have D0:=eD0 (ρ:=ρ)
 have D1:=eD1 (ρ:=ρ)
 have HC:=xL0 (ρ:=ρ)
 have p2:=I.p2
 have t:=qE9 (ρ.l 2) (ρ.l 3)
 have A0:dI ρ eD+1<=(ρ.l 2).length->(((ρ.l 2).take (dI ρ eD).toNat).length:Int)+(((ρ.l 2).drop (dI ρ eD+1).toNat).length:Int)+1=(ρ.l 2).length:=fun q=>by
  rw[ltk D0 D1,ldr (by exact Int.not_lt.mp fun gz=>lin [] [_] [(1,.il (.c (0)) (.v 0)),(1,.il (.a (.a (.v 0) (.c (1))) (.c 1)) (.c (0)))] rfl D0 gz) q];exact leq [_] [_] (.il (.a (.a (.v 0) (.s (.n (.v 0)) (.a (.v 0) (.c (1))))) (.c (1))) (.n (.v 0))) [] rfl
 have N0:(1:Int)=((ρ.l 2).length:Int)+1->ρ.l 2=[]:=fun q=>wE8 (by exact leq [_] [] (.il (.n (.v 0)) (.c (0))) [(1,.il (.c (1)) (.a (.n (.v 0)) (.c (1))))] rfl q)
 have NW:ρ.b 5=true->ρ.b 4=decide (ρ.i 2<ρ.i 4):=fun q=>I.nw (I.hu.symm.trans q)
 have DE:=wM8 (ρ:=ρ)
 have APC:(dL ρ eA).take (hdN (ρ.l 2) (ρ.l 3))++((ρ.l 3).drop (PySem.clipAt (ρ.l 3).length (hdN (ρ.l 2) (ρ.l 3):Nat))).take (PySem.clipAt (ρ.l 3).length (((ρ.l 3).length:Int)-(tlN (ρ.l 2) (ρ.l 3):Nat))-PySem.clipAt (ρ.l 3).length (hdN (ρ.l 2) (ρ.l 3):Nat))++(dL ρ eA).drop (hdN (ρ.l 2) (ρ.l 3))=ρ.l 3:=by
  rw[zK2,xS6,yL1];exact wtx _ _
 exact (vds (vd1 fun q=>c2t.mpr (A0 (by have:=c0t.mp q;have:dI ρ eD+1<ρ.i 10:=this;omega)))
  (vds (vd1 fun q=>c2t.mpr (A0 (c1t.mp q)))
  (vds (vd2 fun q1 q2=>c2t.mpr (rv2 (c0f.mp q1) (c1t.mp q2)))
  (vds (vd1 fun q1=>c2t.mpr (rv3 HC (c0t.mp q1)))
  (vds (vd1 fun q1=>c2t.mpr (rv4 (c0f.mp q1)))
  (vds (vd2 fun q1 q2=>c2t.mpr (rv6 HC (c0t.mp q1) (c2t.mp q2)))
  (vds (vd2 fun q1 q2=>c2t.mpr (jW0 (c1f.mp q1) (c0t.mp q2)))
  (vds (vd2 fun q1 q2=>c2t.mpr (jW7 HC (c2t.mp q1) (c1t.mp q2)))
  (vds (vd2 fun q1 q2=>c2t.mpr (jJ8 HC (c2t.mp q1) (c2t.mp q2)))
  (vds (vd2 fun q1 q2=>c2f.mpr (cu5 I.p2 HC (c0t.mp q1) (c1t.mp q2)))
  (vds (vd2 fun q1 q2=>c2f.mpr (yS7 HC (c2f.mp q1) (c1t.mp q2)))
  (vds (vd1 fun q=>c3f.mpr (xE1 (x:=ρ.l 2) (by have:(1:Int)<ρ.i 10:=c0t.mp q;have:=I.p2;omega)))
  (vds (vd1 fun q=>c3f.mpr (xE1 (x:=ρ.l 2) (by have:¬ (1:Int)<=ρ.i 10-(ρ.l 2).length:=c1f.mp q;have:=I.p1;omega)))
  (vds (vd1 fun q=>c3f.mpr (xE1 (x:=ρ.l 2) (by have:¬ (1:Int)=(ρ.l 2).length+1:=c2f.mp q;omega)))
  (vds (vd1 fun q=>c3t.mpr (N0 (c2t.mp q)))
  (vds (vd1 fun q=>c3t.mpr (by show ρ.l 5++ρ.l 2=ρ.l 5;rw[N0 (c2t.mp q),List.append_nil]))
  (vds (vd1 fun q=>c1t.mpr (xL7 (c3f.mp q)))
  (vds (vd1 fun q=>c1t.mpr (xL7 (x:=ρ.l 2) fun z=>by have q1:(ρ.l 2).getD (if (-1:Int)<0 then ((-1:Int)+(ρ.l 2).length).toNat else (-1:Int).toNat) 0=10:=c2t.mp q;rw[z]at q1;exact absurd q1 (by decide)))
  (vds (vd1 fun q=>c3f.mpr (xE1 (x:=ρ.l 5) (by have:¬ ((ρ.l 5).length:Int)=0:=c2f.mp q;omega)))
  (vds (vd2 fun q1 q2=>c3t.mpr (by show ρ.l 2=ρ.l 5;rw[N0 (c2t.mp q2),wE8 (x:=ρ.l 5) (c2t.mp q1)]))
  (vds (vd1 fun q=>c3t.mpr (wE8 (c2t.mp q)).symm)
  (vds (vd1 fun q=>c3t.mpr (wE8 (c2t.mp q)))
  (vds (vd2 fun q1 q2=>(NW q1).trans (decide_eq_false (c0f.mp q2)))
  (vds (vd2 fun q1 q2=>(NW q1).trans (decide_eq_true (c0t.mp q2)))
  (vds (vd2 fun q1 q2=>(NW q1).symm.trans q2)
  (vds (vd2 fun q1 q2=>(NW q1).symm.trans q2)
  (vds (vd1 fun q=>I.ch.trans q)
  (vds (vd1 fun q=>I.ch.trans q)
  (vds (vd1 fun q=>I.ch.symm.trans q)
  (vds (vd1 fun q=>I.ch.symm.trans q)
  (vds (vd1 fun q=>I.ot.trans (congrArg (!·) q))
  (vds (vd1 fun q=>I.ot.trans (congrArg (!·) q))
  (vds (vd2 fun q1 q2=>(I.as (I.ch.trans q2)).symm.trans q1)
  (vds (vd2 fun q1 q2=>(I.as (I.ch.trans q2)).symm.trans q1)
  (vds (vd2 fun q1 q2=>(I.as q2).symm.trans q1)
  (vds (vd2 fun q1 q2=>(I.as q2).symm.trans q1)
  (vds (vd1 fun q=>c3t.mpr (by have q1:((hdN (ρ.l 2) (ρ.l 3):Nat):Int)+1=((ρ.l 2).length:Int)-(tlN (ρ.l 2) (ρ.l 3):Nat)+1:=c2t.mp q;show (ρ.l 2).take (hdN (ρ.l 2) (ρ.l 3))++_++(ρ.l 2).drop (hdN (ρ.l 2) (ρ.l 3))=ρ.l 3;have e:=wtx (ρ.l 2) (ρ.l 3);rw[show (ρ.l 2).length-tlN (ρ.l 2) (ρ.l 3)=hdN (ρ.l 2) (ρ.l 3) by omega,<-yL1]at e;exact e))
  (vds (vd2 fun q1 q2=>c3t.mpr (by have q3:((hdN (ρ.l 2) (ρ.l 3):Nat):Int)+1=((ρ.l 2).length:Int)-(tlN (ρ.l 2) (ρ.l 3):Nat)+1:=c2t.mp q2;have q4:dI ρ eLC=0:=c2t.mp q1;exact wF4 (x:=ρ.l 2) (y:=ρ.l 3) (by exact leq [_,_,_] [_] (.nl (.v 0) (.a (.v 1) (.v 2))) [(1,.il (.v 0) (.s (.s (.n (.v 0)) (.n (.v 1))) (.n (.v 2)))),(-1,.il (.v 0) (.c (0)))] rfl HC q4) (by exact leq [_,_,_] [] (.nl (.v 0) (.a (.v 1) (.v 2))) [(1,.il (.a (.n (.v 2)) (.c (1))) (.a (.s (.n (.v 0)) (.n (.v 1))) (.c (1))))] rfl q3)))
  (vds (vd1 fun q1=>c3t.mpr (by have q4:dI ρ eLC=0:=c2t.mp q1;exact (congrArg (_++·) DE).trans (yI9 (x:=ρ.l 2) (y:=ρ.l 3) (by exact leq [_,_,_] [_] (.nl (.v 0) (.a (.v 1) (.v 2))) [(1,.il (.v 0) (.s (.s (.n (.v 0)) (.n (.v 1))) (.n (.v 2)))),(-1,.il (.v 0) (.c (0)))] rfl HC q4))))
  (vds (vd3 fun q1 q2 q3=>c2t.mpr (by have w1:=c2f.mp q1;have w2:=c0f.mp q2;have w3:=c0t.mp q3;show dI ρ eW=3;have w1:¬ dI ρ eW=2:=w1;have w2:¬ dI ρ eW<2:=w2;have w3:dI ρ eW<4:=w3;omega))
  (vds (vd0 (c3t.mpr (by have e0:=yI7 (l:=ρ.l 2) D0;have e1:=yL2 (l:=ρ.l 2) D0;show (ρ.l 2).take (dI ρ eD).toNat++_++(ρ.l 2).drop (dI ρ eD).toNat=_;rw[<-e0,<-e1];rfl)))
  (vds (vd0 (c3t.mpr APC))
  (vds (vd0 (c3t.mpr (by have e0:=yI7 (l:=ρ.l 2) D0;have e1:=yL2 (l:=ρ.l 2) (i:=dI ρ eD+1) (by exact Int.not_lt.mp fun gz=>lin [] [_] [(1,.il (.c (0)) (.v 0)),(1,.il (.a (.a (.v 0) (.c (1))) (.c 1)) (.c (0)))] rfl D0 gz);show (ρ.l 2).take (dI ρ eD).toNat++(ρ.l 2).drop (dI ρ eD+1).toNat=_;rw[<-e0,<-e1];rfl))) xJ4)))))))))))))))))))))))))))))))))))))))))))
theorem xF9 (I:IV a b ρ):∀ B∈wF3,∀ r∈B,HV ρ r.pre->dC ρ r.c=r.r:=qS0 (xD3 I) (zY8 I) xX0
theorem zH1 (I:IV a b ρ):Gd ρ ⟨5,wF3,wG7 a b⟩:=⟨I.n0,xF9 I,I.bd,I.pl⟩
end
end Mine
end
section
namespace Mine
noncomputable def xP8:Ft:=[(.c 1,.v 11),(.b .mod (.u .hd (.u .abs (.b .ct0 (.c 50) (.v 0)))) (.c 5),.c 4),(.c 0,.b .fdiv (.u .len (.v 0)) (.c 3))]
noncomputable def qY3:List (List Rl):=[[],[],[⟨[],sc 1 (.c 4) (.b .add (.v 11) (.c 3)),true,0,[0],[]⟩],[⟨[],sc 1 (.c 1) (.b .add (.v 11) (.c 3)),true,0,[0],[]⟩],[],[],[],[],[⟨[],sc 1 (.c 2) (.b .add (.v 11) (.c 3)),true,0,[0],[]⟩],[],[],[],[⟨[(sc 1 (.b .fdiv (.u .len (.v 0)) (.c 3)) (.c 11),true)],sc 1 (.b .add (.b .fdiv (.u .len (.v 0)) (.c 3)) (.c 1)) (.c 12),true,0,[0],[]⟩,⟨[],sc 0 (.c 4) (.b .mod (.u .hd (.u .abs (.b .ct0 (.c 50) (.v 0)))) (.c 5)),false,0,[1],[]⟩],[⟨[],sc 1 (.c 3) (.b .add (.v 11) (.c 3)),true,0,[0],[]⟩],[⟨[],sc 1 (.c 0) (.b .add (.b .fdiv (.u .len (.v 0)) (.c 3)) (.c 1)),true,0,[2],[]⟩,⟨[],sc 1 (.c 0) (.b .add (.v 11) (.c 3)),true,0,[0],[]⟩],[]]
theorem wL3:xW5 xP8 [] qY3=true:=by decide +kernel
noncomputable def xL4 (xs:List Int):Rho:=⟨fun n=>match n with|11=>1|J=>0,fun n=>match n with|0=>xs|J=>[],fun J=>false,fun J=>0,[]⟩
theorem gd0 {xs:List Int} (h:xs.length<=63):Gd (xL4 xs) ⟨0,qY3,[]⟩:=by
 refine ⟨rfl,qS0 (F:=xP8) (hd:=[]) (qW5 ?_ (qW5 ?_ (qW5 ?_ xQ1))) xJ4 wL3,fun n=>?_,fun n h=>by cases h⟩
 ·exact Int.le_refl 1
 ·exact Int.le_of_lt_add_one (Int.emod_lt_of_pos _ (show (0:Int)<5 by decide))
 ·show (0:Int)<=(xs.length:Int) / 3
  omega
 ·cases n with
  |zero=>show xs.length<=100;exact Nat.not_lt.mp fun gz=>lin [_] [] [(1,.nl (.v 0) (.c 63)),(1,.nl (.a (.c 100) (.c 1)) (.v 0))] rfl h gz
  |succ n=>exact Nat.zero_le _
theorem xE9:jJ6 ⟨0,qY3,[]⟩ 14=true:=by decide +kernel
end Mine
end
section
namespace Mine
noncomputable abbrev wy0:Fx:=[(sc 0 eW (.c 2),true),(sc 0 eW (.c 4),true)]
noncomputable abbrev wy1:Fx:=[(sc 2 eW (.c 2),true),(sc 0 eW (.c 2),false),(sc 0 eW (.c 4),true)]
noncomputable abbrev wy2:Fx:=[(sc 2 eW (.c 2),false),(sc 0 eW (.c 2),false),(sc 0 eW (.c 4),true)]
noncomputable abbrev wy3:Fx:=[(sc 0 eW (.c 6),true),(sc 0 eW (.c 4),false)]
noncomputable abbrev wy4:Fx:=[(sc 2 eW (.c 6),true),(sc 0 eW (.c 6),false),(sc 0 eW (.c 4),false)]
noncomputable abbrev wy5:Fx:=[(sc 2 eW (.c 7),true),(sc 2 eW (.c 6),false),(sc 0 eW (.c 6),false),(sc 0 eW (.c 4),false)]
noncomputable abbrev wy6:Fx:=[(sc 2 eW (.c 8),true),(sc 2 eW (.c 7),false),(sc 2 eW (.c 6),false),(sc 0 eW (.c 6),false),(sc 0 eW (.c 4),false)]
noncomputable abbrev wy7:Fx:=[(sc 2 eW (.c 8),false),(sc 2 eW (.c 7),false),(sc 2 eW (.c 6),false),(sc 0 eW (.c 6),false),(sc 0 eW (.c 4),false)]
noncomputable abbrev gT (a b:Bool):Gx:=⟨5,wF3,wG7 a b⟩
noncomputable abbrev hs5 (b:Bool):Fx:=[(sc 4 (.v 5) (.c 0),b)]
theorem zO1:qY6 (gT false false) false false 14 (wy0++hs5 false)=true:=by decide +kernel
theorem zG2:qY6 (gT false false) false false 14 (wy1++hs5 false)=true:=by decide +kernel
theorem zU8:qY6 (gT false false) false false 14 (wy2++hs5 false)=true:=by decide +kernel
theorem zB5:qY6 (gT false false) false false 14 (wy3++hs5 false)=true:=by decide +kernel
theorem zP4:qY6 (gT false false) false false 14 (wy4++hs5 false)=true:=by decide +kernel
theorem zR9:qY6 (gT false false) false false 14 (wy5++hs5 false)=true:=by decide +kernel
theorem zP3:qY6 (gT false false) false false 14 (wy6++hs5 false)=true:=by decide +kernel
theorem zM6:qY6 (gT false false) false false 14 (wy7++hs5 false)=true:=by decide +kernel
theorem zT0:qY6 (gT false true) false true 14 (wy0++hs5 true)=true:=by decide +kernel
theorem zT7:qY6 (gT false true) false true 14 (wy1++hs5 true)=true:=by decide +kernel
theorem zO3:qY6 (gT false true) false true 14 (wy2++hs5 true)=true:=by decide +kernel
theorem zT1:qY6 (gT false true) false true 14 (wy3++hs5 true)=true:=by decide +kernel
theorem zL8:qY6 (gT false true) false true 14 (wy4++hs5 true)=true:=by decide +kernel
theorem zL0:qY6 (gT false true) false true 14 (wy5++hs5 true)=true:=by decide +kernel
theorem zH5:qY6 (gT false true) false true 14 (wy6++hs5 true)=true:=by decide +kernel
theorem yQ1:qY6 (gT false true) false true 14 (wy7++hs5 true)=true:=by decide +kernel
theorem zL9:qY6 (gT true false) true false 14 (wy0++hs5 false)=true:=by decide +kernel
theorem yQ3:qY6 (gT true false) true false 14 (wy1++hs5 false)=true:=by decide +kernel
theorem zF9:qY6 (gT true false) true false 14 (wy2++hs5 false)=true:=by decide +kernel
theorem zP0:qY6 (gT true false) true false 14 (wy3++hs5 false)=true:=by decide +kernel
theorem zC4:qY6 (gT true false) true false 14 (wy4++hs5 false)=true:=by decide +kernel
theorem yQ9:qY6 (gT true false) true false 14 (wy5++hs5 false)=true:=by decide +kernel
theorem zM2:qY6 (gT true false) true false 14 (wy6++hs5 false)=true:=by decide +kernel
theorem zP5:qY6 (gT true false) true false 14 (wy7++hs5 false)=true:=by decide +kernel
theorem zS0:qY6 (gT true true) true true 14 (wy0++hs5 true)=true:=by decide +kernel
theorem zB9:qY6 (gT true true) true true 14 (wy1++hs5 true)=true:=by decide +kernel
theorem zD3:qY6 (gT true true) true true 14 (wy2++hs5 true)=true:=by decide +kernel
theorem zL1:qY6 (gT true true) true true 14 (wy3++hs5 true)=true:=by decide +kernel
theorem yQ6:qY6 (gT true true) true true 14 (wy4++hs5 true)=true:=by decide +kernel
theorem zD9:qY6 (gT true true) true true 14 (wy5++hs5 true)=true:=by decide +kernel
theorem zD7:qY6 (gT true true) true true 14 (wy6++hs5 true)=true:=by decide +kernel
theorem zU9:qY6 (gT true true) true true 14 (wy7++hs5 true)=true:=by decide +kernel
section
variable {ρ:Rho}
theorem hv5 {b:Bool} (h:ρ.b 5=b):HV ρ (hs5 b):=fun p hp=>by rw[List.mem_singleton.mp hp];exact h
theorem zN2 {h1 h2:Fx} (a:HV ρ h1) (b:HV ρ h2):HV ρ (h1++h2):=fun p hp=>(List.mem_append.mp hp).elim (a p) (b p)
theorem qC9:HV ρ []:=fun J h=>nomatch h
theorem zN8 (P:Fx->Prop) (h0:P wy0) (h1:P wy1) (h2:P wy2) (h3:P wy3) (h4:P wy4) (h5:P wy5) (h6:P wy6) (h7:P wy7):∃ w,HV ρ w/\P w:=by
 cases a:dC ρ (sc 0 eW (.c 4)) with
 |true=>
  cases b:dC ρ (sc 0 eW (.c 2)) with
  |true=>exact ⟨_,qW0 (qW0 qC9 a) b,h0⟩
  |false=>
   cases d:dC ρ (sc 2 eW (.c 2)) with
   |true=>exact ⟨_,qW0 (qW0 (qW0 qC9 a) b) d,h1⟩
   |false=>exact ⟨_,qW0 (qW0 (qW0 qC9 a) b) d,h2⟩
 |false=>
  cases b:dC ρ (sc 0 eW (.c 6)) with
  |true=>exact ⟨_,qW0 (qW0 qC9 a) b,h3⟩
  |false=>
   cases d:dC ρ (sc 2 eW (.c 6)) with
   |true=>exact ⟨_,qW0 (qW0 (qW0 qC9 a) b) d,h4⟩
   |false=>
    cases e:dC ρ (sc 2 eW (.c 7)) with
    |true=>exact ⟨_,qW0 (qW0 (qW0 (qW0 qC9 a) b) d) e,h5⟩
    |false=>
     cases f:dC ρ (sc 2 eW (.c 8)) with
     |true=>exact ⟨_,qW0 (qW0 (qW0 (qW0 (qW0 qC9 a) b) d) e) f,h6⟩
     |false=>exact ⟨_,qW0 (qW0 (qW0 (qW0 (qW0 qC9 a) b) d) e) f,h7⟩
theorem zA2 {b:Bool} (h:ρ.b 5=b):∀ a,∃ hs,HV ρ hs/\qY6 (gT a b) a b 14 hs=true:=by
 have k:∀{Q:Fx->Prop},(∃ w,HV ρ w/\Q (w++hs5 b))->∃ hs,HV ρ hs/\Q hs:=fun⟨w,h1,h2⟩=>⟨_,zN2 h1 (hv5 h),h2⟩
 intro a
 refine k (zN8 (ρ:=ρ) (fun w=>qY6 (gT a b) a b 14 (w++hs5 b)=true) ?_ ?_ ?_ ?_ ?_ ?_ ?_ ?_)
 ·cases a<;>cases b
  ·exact zO1
  ·exact zT0
  ·exact zL9
  ·exact zS0
 ·cases a<;>cases b
  ·exact zG2
  ·exact zT7
  ·exact yQ3
  ·exact zB9
 ·cases a<;>cases b
  ·exact zU8
  ·exact zO3
  ·exact zF9
  ·exact zD3
 ·cases a<;>cases b
  ·exact zB5
  ·exact zT1
  ·exact zP0
  ·exact zL1
 ·cases a<;>cases b
  ·exact zP4
  ·exact zL8
  ·exact zC4
  ·exact yQ6
 ·cases a<;>cases b
  ·exact zR9
  ·exact zL0
  ·exact yQ9
  ·exact zD9
 ·cases a<;>cases b
  ·exact zP3
  ·exact zH5
  ·exact zM2
  ·exact zD7
 ·cases a<;>cases b
  ·exact zM6
  ·exact yQ1
  ·exact zP5
  ·exact zU9
end
end Mine
end
namespace Mine
open PySem PySem.W PySem.Calls PyProof.Rows
section
variable {c:Cx} {A:Around} {n:Nat} {env:Env} {sp:Sp}
noncomputable abbrev qA6 (c:Cx):Cx:={c with φ₀:=[],fz:=[]}
theorem Ok.zero (O:Ok c A n):Ok (qA6 c) A n:=⟨O.base,O.lb,O.lc,O.ch,O.ci,O.frames,O.room⟩
theorem qQ2.zero (V:qQ2 c env):qQ2 (qA6 c) env:=⟨V.kind,V.loc,V.glo,V.bui,V.lo,V.ce⟩
inductive ZR (c:Cx) (P:AH->Loc->Prop) (s:Shared):Prop
 |mk (φ2:FP) (H2:AH) (lc2:Loc) (N:Now (qA6 c) φ2 H2 lc2 s) (h:P H2 lc2)
inductive ZS (c:Cx) (φ':FP) (P:AH->Loc->Prop) (s:Shared):Prop
 |mk (φ2:FP) (H2:AH) (lc2:Loc) (sub:∀ a∈φ2.flatten,a∈φ'.flatten) (N:Now (qA6 c) φ2 H2 lc2 s) (h:P H2 lc2)
inductive zN6 (c:Cx) (it:Addr) (i:Int) (I:Int->Int->AH->Loc->Prop) (m:Nat) (s:Shared):Prop
 |mk (φ':FP) (H':AH) (lc':Loc) (j:Int) (N:Now (qA6 c) φ' H' lc' s) (U:qV5 (qA6 c) φ' it) (h:IsRangeIter s.heap it j (i-j) 1) (h0:0<=j) (h1:j<=i) (hm:(i-j).toNat<m) (hI:I i j H' lc')
theorem zY0 {E:Value->Shared->Prop} (S:qY4 n sp) (O:Ok c A (n+1)) (V:qQ2 c env) {x:Nat} {px pos np p:Pos} {e:X} {ne:Expr} {body:List Stmt} {φ:FP} {H:AH} {lc:Loc} {s:Shared}
  {Q:Int->AH->Prop} {I:Int->Int->AH->Loc->Prop} {P:Int->Int->Loc->AH->Prop} {QF:Flow->Shared->Prop}
  (hk:qX8 env.scope (nm x) .local=true) (hr:qX8 env.scope (Str.ofString "range") .globalImplicit=true) (hns:qZ5 ne=true) (hx:mX env.scope e ne=true) (N:Now c φ H lc s)
  (h:ev sp e lc H fun v H=>match v with|.int i=>0<=i/\i<=1000/\Q i H|_=>False)
  (h0:∀ i φ' H' s',Now c φ' H' lc s'->Q i H'->ZR c (I i 0) s')
  (hb:∀ i j hh φ' H' lc' s',0<=j->j<i->I i j H' lc'->Now {qA6 c with h₀:=hh,φ₀:=φ'} φ' H' (st lc' x (.int j)) s'->wpAny (MM c) A (execs body env) (qZ4 {qA6 c with h₀:=hh,φ₀:=φ'} φ' (fun J J=>False) (P i j)) NoE s')
  (hg:∀ i j φ' H' lc' s',Now (qA6 c) φ' H' lc' s'->P i j lc' H'->ZS c φ' (I i (j+1)) s')
  (hq:∀ φ' H' lc' s',Now (qA6 c) φ' H' lc' s'->QF .next s') :
  wpAny (MM c) A (exec (.For (.Name (nm x) px) (.Call (.Name (Str.ofString "range") np) [ne] [] p) body [] pos) env) QF E s:=by
 refine wpAny_For (E:=E) (wpAny_mono (qA1 (KI:=fun i H=>0<=i/\i<=1000/\Q i H) O V hr hns hx N (wY7 (qD5 S O V e hx N h))) (fun u sB g=>?_) fun J J e=>e.elim) (fun y=>rfl)
 obtain ⟨φ₁,HB,i,r,t,u',v,xB,NB,rfl,hrg,hi0,hi,hl⟩:=g
 obtain ⟨φ2,H2,lc2,MB,hI0⟩:=h0 i φ₁ HB sB NB hl
 have hsz:Builtin.Range.rangeSize 0 i 1=i:=by rw[rangeSize_one,Int.sub_zero];exact if0 hi0
 refine wpAny_pyIter_range hrg (small_one (by omega) (by omega) (by omega) (by omega)) ?_
 rw[hsz]
 have U0:qV5 (qA6 c) φ2 sB.heap.objs.size:=MB.untr qQ7
 have N2:=MB.push {cls:=.type "range_iterator", data:=.fields #[rawInt 0,rawInt i,rawInt 1]}
 refine codeAny_forLoop (zN6 c sB.heap.objs.size i I) (fun m s' hI=>?_) (i.toNat+1)
  ⟨φ2,H2,lc2,0,N2,U0,by rw[Int.sub_zero];exact Heap.get?_push_size _ rfl,by exact Int.not_lt.mp fun gz=>lin [] [] [(1,.il (.a (.c (0)) (.c 1)) (.c (0)))] rfl gz,hi0,by omega,hI0⟩
 obtain ⟨φ',H',lc',j,N',U',hit',hj,hji,hm,hl'⟩:=hI
 by_cases hlt:j<i
 ·refine wpAny_pyNext_range_item hit' (by exact Int.not_le.mp fun gz=>lin [] [_,_] [(1,.il (.a (.v 0) (.c 1)) (.v 1)),(1,.il (.s (.v 1) (.v 0)) (.c (0)))] rfl hlt gz) fun h' hit2 hs'=>?_
  have N3:Now (qA6 c) φ' H' lc' {s' with heap:=h',toks:=s'.toks+1}:=N'.touch (s':={s' with heap:=h',toks:=s'.toks+1}) U' (fun b o nb eb=>(hs'.2 b nb).trans eb) rfl rfl
  refine wpAny_mono (qR6 (c:=qA6 c) (s:={s' with heap:=h',toks:=s'.toks+1}) O.zero V.zero hk N3 U' hit2 (av:=.int j) ⟨_,rfl⟩ (fun sC N4=>hb i j _ _ _ _ sC hj hlt hl' N4) (Q:=fun f sD=>match f with
    |.next|.cont=>∃ m',m'<m/\zN6 c sB.heap.objs.size i I m' sD
    |.brk=>QF .next sD
    |.ret v=>QF (.ret v) sD)
   (fun φC H₂ lcC sD xC N4 U4 h4 k4=>?_) (fun v sD g=>?_)) (fun J sC g=>wpAny_mono g (fun f sD z=>?_) fun J J e=>e.elim) fun J J e=>e.elim
  ·obtain ⟨φ3,H3,lc3,sub,N5,hI⟩:=hg i j _ _ _ _ N4 k4
   exact ⟨m-1,by omega,φ3,H3,lc3,j+1,N5,⟨fun q=>U4.fl (sub _ q),U4.b,U4.h,U4.L,U4.ce,U4.fr⟩,by rw[show i-(j+1)=i-j-1 by exact leq [] [_,_] (.il (.s (.v 0) (.a (.v 1) (.c (1)))) (.s (.s (.v 0) (.v 1)) (.c (1)))) [] rfl];exact h4,by exact Int.not_lt.mp fun gz=>lin [] [_] [(1,.il (.c (0)) (.v 0)),(1,.il (.a (.a (.v 0) (.c (1))) (.c 1)) (.c (0)))] rfl hj gz,by exact Int.not_lt.mp fun gz=>lin [] [_,_] [(1,.il (.a (.v 0) (.c 1)) (.v 1)),(1,.il (.a (.v 1) (.c 1)) (.a (.v 0) (.c (1))))] rfl hlt gz,by omega,hI⟩
  ·obtain ⟨J,J,J,J,J,J,J,z⟩:=g
   exact z.elim
  ·cases f<;>exact z
 ·refine wpAny_pyNext_range_end O.room.hand hit' (by exact Int.not_lt.mp fun gz=>lin [] [_,_] [(1,.il (.v 0) (.v 1)),(1,.il (.a (.c (0)) (.c 1)) (.s (.v 0) (.v 1)))] rfl (Int.not_lt.mp hlt) gz) fun h' hk'=>?_
  exact wpAny_execs_nil (hq φ' H' lc' _ (N'.touch (s':={s' with heap:=h'}) U' (fun b o nb eb=>hk' b o nb eb) rfl rfl))
theorem wG3 {KE:AH->Prop} {KR:AV->AH->Prop} {K:Loc->AH->Prop} {QF:Flow->Shared->Prop} {E:Value->Shared->Prop} {q:List Stmt} (S:qY4 n sp) (O:Ok c A (n+1)) (V:qQ2 c env) (R:qE2 c A n env sp KE E) :
  ∀(ys:Ys) {p:List Stmt} {φ:FP} {H:AH} {lc:Loc} {s:Shared},mYs env.scope ys p=true->Now c φ H lc s->exs sp KE KR ys lc H K->
   (∀ φ' H' lc' s',Ext φ φ'->Now c φ' H' lc' s'->K lc' H'->wpAny (MM c) A (execs q env) QF E s')->(∀ v s',qZ4 c φ KR K (.ret v) s'->QF (.ret v) s')->wpAny (MM c) A (execs (p++q) env) QF E s:=@fun ξ=>no_implicit_lambda%(match @ξ with
 |.nil=>@fun p φ H lc s hy N h hq hr=>by
  rw[qT3 hy]
  exact hq φ H lc s (Ext.refl φ) N h
 |.cons y ys=>@fun p φ H lc s hy N h hq hr=>by
  obtain ⟨t,r,rfl,h1,h2⟩:=qK5 hy
  rw[List.cons_append]
  refine wpAny_execs_cons (wpAny_mono (zC6 S y O V R h1 N h) (fun f s' g=>?_) fun J J e=>e)
  cases f with
  |next=>
   obtain ⟨φ',H',lc',x,N',k⟩:=g
   exact wG3 S O V R ys h2 N' k (fun φ2 H2 lc2 s2 x2=>hq φ2 H2 lc2 s2 (x.trans x2)) fun v s2 g=>hr v s2 (g.up x)
  |ret v=>exact hr v s' g
  |_=>exact g.elim
 )
end
noncomputable def yW4:Ys->Ys->Ys
 |.nil,b=>b
 |.cons y a,b=>.cons y (yW4 a b)
noncomputable def yM1:Ys:=yW4 xG4 (.cons (.forr 20 64 xD7 wN0) (.cons (.ret (.bool true)) .nil))
theorem zE0 (P:Params):xC3 (KP P) 998 [198] yM1=true:=by kernel_rfl!
theorem wW4 {sc:Scope}:∀{a b:Ys} {ts:List Stmt},mYs sc (yW4 a b) ts=true->∃ p q,ts=p++q/\mYs sc a p=true/\mYs sc b q=true:=@fun ξ=>no_implicit_lambda%(match @ξ with
 |.nil=>@fun b ts h=>⟨[],ts,rfl,rfl,h⟩
 |.cons y a=>@fun b ts h=>by
  obtain ⟨t,r,rfl,h1,h2⟩:=qK5 (show mYs sc (.cons y (yW4 a b)) ts=true from h)
  obtain ⟨p,q,rfl,h3,h4⟩:=wW4 h2
  exact ⟨t::p,q,rfl,by show (mY sc y t&&mYs sc a p)=true;rw[h1,h3];rfl,h4⟩
 )
section
variable {ρ:Rho} {g:Gx} {hs:Fx}
set_option tactic.hygienic true in
theorem wU7 (G:Gd ρ g) {P:Prop}:∀{l:List SAV} {hs:Fx} {k:Fx->Bool},HV ρ hs->rsv g l hs k=true->(∀ hs',HV ρ hs'->k hs'=true->P)->P:=@fun ξ=>no_implicit_lambda%(match @ξ with
 |[]=>@fun hs k hv h q=>q hs hv h
 |v::r=>@fun hs k hv h q=>by
  cases v<;>first|exact wU7 (l:=r) G hv h q|skip
  rename_i n
  exact qD1 G hv (c:=sc 4 (.v n) (.c 0)) (k:=fun hs J=>rsv g r hs k) (fun hs' hv' h'=>wU7 (l:=r) G hv' h' q) h
 )
theorem xN3 (G:Gd ρ g) (hv:HV ρ hs) {c:Cx} {φ:FP} {H:SH} {lc lp:qX0} {d:Int} {s:Shared} (N:Now c φ (dH ρ H) (dF ρ lc) s) (h:lfK g lp (.c d) hs lc H=true) (hL:ρ.i 11+d<=100) (hz:∀ x∈c.φ₀.flatten,∃ o,(x,o)∈c.fz/\c.h₀.get? x=some o) :
  ∃ a b,yM6 c φ a b (ρ.i 11+d) lp s:=by
 have T:=zV6 g H lc (.c d)
 have e:dI ρ (qZ6 (find g H lc (.c d)).1.i 11)=ρ.i 11+d:=qA3 (.v 11) (.c d)
 have h':rsv g [qW9 (find g H lc (.c d)).1.b 0,qW9 (find g H lc (.c d)).1.b 1,qW9 (find g H lc (.c d)).1.b 3,qW9 (find g H lc (.c d)).1.b 4] hs (fun hs=>yK5 g lp (find g H lc (.c d)).1 (find g H lc (.c d)).2.1 (find g H lc (.c d)).2.2 hs lc H)=true:=h
 refine wU7 G hv h' fun hs' hv' h2=>?_
 obtain ⟨ρ',φu,i1,i2,i3,i4⟩:=zQ9 G hv' N T h2 (by rw[e];exact hL) hz
 exact ⟨_,_,ρ',φu,i1,i2.trans e,i3,i4⟩
end
section
variable {c:Cx} {A:Around} {env:Env}
inductive yH8 (ρ:Rho) (g:Gx) (lc:Loc) (H:AH):Prop
 |mk (hs:Fx) (lcS:qX0) (HS:SH) (hv:HV ρ hs) (h:lfK g lc0 (.c 3) hs lcS HS=true) (e1:lc=dF ρ lcS) (e2:H=dH ρ HS)
inductive LI (i j:Int) (H:AH) (lc:Loc):Prop
 |mk (a b:Bool) (ρ:Rho) (I:IV a b ρ) (e1:H=dH ρ (H0 a b)) (e2:lc=dF ρ lc0) (e3:ρ.i 11=4+3*j) (h:i<=12)
inductive LP (i j:Int) (lc:Loc) (H:AH):Prop
 |mk (a b:Bool) (ρ:Rho) (I:IV a b ρ) (e3:ρ.i 11=4+3*j) (h:i<=12) (h':j<i) (L:yH8 ρ (gT a b) lc H)
theorem xA7 {a b:Bool} {ρ:Rho} (I:IV a b ρ):exs (spN 14) (fun J=>False) (fun J J=>False) wN0 (dF ρ lc0) (dH ρ (H0 a b)) (yH8 ρ (gT a b)):=by
 have G:=zH1 I
 obtain ⟨hs,hv,h⟩:=zA2 I.hu a
 exact qK4 G (xC9 G 14) wN0 hv (fun J J J h=>by exact nf h) (fun J J J J h=>by exact nf h) (fun hs lc H hv h=>⟨hs,lc,H,hv,h,rfl,rfl⟩) h
set_option tactic.hygienic true in
theorem xC7 (O:Ok c A 57) (V:qQ2 c env) {xs:List Int} (hxs:xs.length<=63) {φ:FP} {s:Shared} {body:List Stmt} (hz:∀ x∈c.φ₀.flatten,∃ o,(x,o)∈c.fz/\c.h₀.get? x=some o)
  (hy:mYs env.scope yM1 body=true) (N:Now c φ [.fl xs] [(198,.obj 0)] s) :
  wpAny (MM c) A (execs body env) (fun f s'=>∃ φ' H' lc',f=.ret (.bool true)/\Now (qA6 c) φ' H' lc' s') NoE s:=by
 have S:qY4 56 (spN 14):=xN2 14
 have G:=gd0 hxs
 obtain ⟨p,q,rfl,h1,h2⟩:=wW4 hy
 obtain ⟨t,r,rfl,h3,h4⟩:=qK5 h2
 obtain ⟨px,np,ne,p',bd,pos,rfl,hk,hr,hns,hx,hb⟩:=wX3 h3
 have run:=qK4 G (xC9 G 14) (KE:=fun J=>False) (KR:=fun J J=>False) (K:=fun lc H=>∃ hs lcS HS,HV (xL4 xs) hs/\lc=dF (xL4 xs) lcS/\H=dH (xL4 xs) HS/\
   sev ⟨0,qY3,[]⟩ (sN ⟨0,qY3,[]⟩ 14) xD7 lcS hs HS (fun hs v H=>match v with
    |.int m=>(match isT (ask ⟨0,qY3,[]⟩ hs (sc 1 (.c 0) m)),isT (ask ⟨0,qY3,[]⟩ hs (sc 1 m (.c 12))),lfK ⟨0,qY3,[]⟩ lc0 (.c 3) hs lcS H with|true,true,true=>true|J,J2,J3=>false)
    |_=>false)=true) xG4 qC9 (fun J J J h=>by exact nf h) (fun J J J J h=>by exact nf h) (fun hs lc H hv h=>⟨hs,lc,H,hv,rfl,rfl,h⟩) xE9
 refine wG3 S O V (qW4 S) xG4 (KR:=fun J J=>False) h1 N run (fun φ' H' lc' s' x' N' k=>?_) fun v s' g=>?_
 ·obtain ⟨hs,lcS,HS,hv,rfl,rfl,hsev⟩:=k
  refine wpAny_execs_cons (zY0 S O V (Q:=fun i H=>i<=12/\∃ hs HS,HV (xL4 xs) hs/\H=dH (xL4 xs) HS/\lfK ⟨0,qY3,[]⟩ lc0 (.c 3) hs lcS HS=true)
   (I:=LI)
   (P:=LP) hk hr hns hx N' ?_ ?_ ?_ ?_ ?_)
  ·refine qW2 G (xC9 G 14) xD7 hv (fun hs v H hv h=>?_) hsev
   cases v<;>first|exact nf h|skip
   rename_i m
   obtain ⟨e1,e2,e3,J⟩:=tr3 (show (match isT (ask ⟨0,qY3,[]⟩ hs (sc 1 (.c 0) m)),isT (ask ⟨0,qY3,[]⟩ hs (sc 1 m (.c 12))),lfK ⟨0,qY3,[]⟩ lc0 (.c 3) hs lcS H with|true,true,true=>true|J,J2,J3=>false)=true from h)
   have k1:=c1t.mp (asT G hv e1)
   have k2:=c1t.mp (asT G hv e2)
   have k1':0<=dI (xL4 xs) m:=k1
   have k2':dI (xL4 xs) m<=12:=k2
   exact ⟨k1',by exact Int.not_lt.mp fun gz=>lin [] [_] [(1,.il (.v 0) (.c (12))),(1,.il (.a (.c (1000)) (.c 1)) (.v 0))] rfl k2' gz,k2',hs,H,hv,rfl,e3⟩
  ·rintro i φ2 H2 s2 N2 ⟨hi,hs,HS,hv,rfl,hl⟩
   obtain ⟨a,b,ρ',φu,i1,i2,J,i4⟩:=xN3 G hv N2 hl (by show (1:Int)+3<=100;decide) hz
   exact ⟨φu,_,_,i4,a,b,ρ',i1,rfl,rfl,i2,hi⟩
  ·rintro i j hh φ2 H2 lc2 s2 hj hji ⟨a,b,ρ,i1,rfl,rfl,i4,i5⟩ N2
   have N3:=N2.locEq (lc':=dF ρ lc0) fun y av e=>by
    rw[qA5]
    split
    ·rename_i z
     subst z
     rw[qY0]at e
     injection e
    ·exact e
   refine wpAny_mono (qK8 (c:={qA6 c with h₀:=hh,φ₀:=φ2}) S wN0 (O.zero.re hh φ2) (V.zero.re hh φ2) (qW4 S) hb N3 (xA7 i1)) (fun f s3 g=>?_) fun J J e=>e
   cases f with
   |next=>
    obtain ⟨a1,a2,a3,a4,a5,a6⟩:=g
    exact ⟨a1,a2,a3,a4,a5,a,b,ρ,i1,i4,i5,hji,a6⟩
   |ret v=>exact g
   |_=>exact g.elim
  ·rintro i j φ2 H2 lc2 s2 N2 ⟨a,b,ρ,i1,i4,i5,hji,hs,lcS,HS,hv,hl,rfl,rfl⟩
   obtain ⟨a',b',ρ',φu,j1,j2,j3,j4⟩:=xN3 (zH1 i1) hv N2 hl (by rw[i4];omega) fun x hx=>by cases hx
   exact ⟨φu,_,_,j3,j4,a',b',ρ',j1,rfl,rfl,by rw[j2,i4];omega,i5⟩
  ·intro φ2 H2 lc2 s2 N2
   have Z:=qK8 (c:=qA6 c) (E:=NoE) (KE:=fun J=>False) (KR:=fun av J=>av=.bool true) (K:=fun J J=>False) S (.cons (.ret (.bool true)) .nil) O.zero V.zero (qW4 S) h4 N2 (show AV.bool true=.bool true from rfl)
   refine wpAny_mono Z (fun f s3 g=>?_) fun J J e=>e
   cases f with
   |next=>obtain ⟨J,J,J,J,J,z⟩:=g;exact z.elim
   |ret v=>
    obtain ⟨a1,a2,a3,av,J,a5,a6,rfl⟩:=g
    subst a6
    exact ⟨a1,a2,a3,rfl,a5⟩
   |_=>exact g.elim
 ·obtain ⟨J,J,J,J,J,J,J,z⟩:=g
  exact z.elim
end
noncomputable def xS8 (v:Value):Bool:=match v with
 |.type t=>t != "list"
 |J=>true
theorem xF4 (P:Params):((hp P).all fun o=>xS8 o.cls)=true:=by kernel_rfl!
theorem xB2 (P:Params):(nsIn (KP P) mainGlobals (nm 128)==some (some (.ref 998)))=true:=by kernel_rfl!
noncomputable abbrev zA3 (w:World) (s:Shared) (x:Addr) (ob:Obj) (env:Env):Cx:=
 {w:=w,b:=hideAll s.heap [x],L:=s.heap.objs.size,cells:=env.cells,h₀:=s.heap,φ₀:=[[x]],gens:=s.gens,os:=s.os,frs:=[env],fz:=[(x,ob)]}
theorem wK9 {h:Heap} {x a:Addr} {its:Array Value} {m:Str->Option Value} (l:h.IsList x its) (n:h.Ns a m):(hideAll h [x]).Ns a m:=by
 obtain ⟨o,es,ep,e,d,r⟩:=n
 refine ⟨o,es,ep,hideAll_get _ e fun q=>?_,d,r⟩
 rw[List.mem_singleton.mp q]at e
 obtain ⟨o',e',J,n,d'⟩:=l
 rw[e]at e'
 obtain rfl:=Option.some.inj e'
 rw[d]at d'
 injection d'
theorem wS6 {w:World} {h:Heap} {x:Addr} {its:Array Value} {mg mb:Str->Option Value} (l:h.IsList x its) (Y:YPp w h) (nl:h.NoLimit) (g:h.Ns mainGlobals mg) (b:h.Ns builtinsNs mb) (hb:∀ y:Str,y≠"__name__"->mb y=bootBuiltins y):yH9 w (hideAll h [x]):=by
 refine ⟨fun a o ho=>hideAll_get _ (Y a o ho) fun q=>?_,?_,⟨mg,wK9 l g⟩,⟨mb,wK9 l b,hb⟩⟩
 ·rw[List.mem_singleton.mp q]at ho
  have e:=Y _ _ ho
  obtain ⟨o',e',c,J⟩:=l
  rw[e]at e'
  obtain rfl:=Option.some.inj e'
  have z:=List.all_eq_true.mp (xF4 w.params) o (List.mem_of_getElem? ho)
  rw[c]at z
  exact nf z
 ·obtain ⟨mc,h1,h2⟩:=nl
  exact ⟨mc,wK9 l h1,h2⟩
theorem xB4 {w:World} {s:Shared} {mg mb:Str->Option Value} (Y:YPp w s.heap) (nl:s.heap.NoLimit) (hg:s.heap.Ns mainGlobals mg) (hb:s.heap.Ns builtinsNs mb) (hbb:∀ y:Str,y≠"__name__"->mb y=bootBuiltins y)
  {fa x:Addr} (hfa:mg (nm 128)=some (.ref fa)) {its:Array Value} {xs:List Int} (hL:s.heap.IsList x its) (hI:IntsAre its.toList xs) (hxs:xs.length<=63) {R:Result->Shared->Prop}
  (ok:∀ s',(∀ a o,s.heap.get? a=some o->s'.heap.get? a=some o)->s'.gens=s.gens->s'.os=s.os->R (.ok (.ret (.bool true))) s'):codeAny (model pw w) callerA (.call (.ref fa) ⟨[.ref x],[]⟩) R s:=by
 have X:(KP w.params).In s.heap:=zZ6 Y
 have e998:=mg_of X hg (beq_iff_eq.mp (xB2 w.params))
 rw[hfa]at e998
 cases e998
 obtain ⟨oc,od,fd,sl,body,hf,hd,F⟩:=xM8 (zE0 w.params)
 have B:=wS6 hL Y nl hg hb hbb
 obtain ⟨ob,hx,hcl,n,hdat⟩:=id hL
 have xlt:=Heap.lt_size hx
 have ndn:(fd.params.args.map (·.arg)).Nodup:=by
  rw[F.ar]
  exact F.nd.map _ fun a b q e=>q (qK6 e)
 have hbi:bindArgs fd ⟨[.ref x],[]⟩=pure (([198].map nm).zip [.ref x]):=by
  have:=qD9 (vs:=[.ref x]) F.po F.va F.ko F.kw hd ndn (by rw[F.ar];rfl)
  rw[F.ar]at this
  exact this
 have par:∀ y∈[198],(fd.scope.names.lookup (nm y)=some .local/\(cellsFrom (s.heap.objs.size+1) fd.scope.names []).lookup (nm y)=none)∨(fd.scope.names.lookup (nm y)=some .cell/\((cellsFrom (s.heap.objs.size+1) fd.scope.names []).lookup (nm y)).isSome=true):=by
  intro y hy
  rcases F.pa y hy with q|q
  ·refine .inl ⟨qZ3 q,?_⟩
   cases e:(cellsFrom (s.heap.objs.size+1) fd.scope.names []).lookup (nm y) with
   |none=>rfl
   |some a=>
    rcases qZ1 _ _ _ _ _ (PySem.mem_of_lookup e) with z|z
    ·exact nomatch z
    ·have:=F.ce _ z rfl
     rw[qZ3 q]at this;cases this
  ·exact .inr ⟨qZ3 q,qX6 _ _ _ _ (.inl (PySem.mem_of_lookup (qZ3 q)))⟩
 refine codeAny_call_cells (by decide +kernel) (X 998 _ hf) rfl nl (codeRec_of X F.cd) F.bo hbi F.cl (fun y hy=>?_) (fun sB Z=>?_) F.co F.ge F.ki
 ·obtain ⟨y',hy',e⟩:=List.mem_map.mp (List.of_mem_zip (a:=y.1) (b:=y.2) hy).1
  rw[<-e]
  rcases par y' hy' with q|q
  ·exact .inl q.1
  ·exact .inr q
 ·have keep:=Z.toInCall.keep
  obtain ⟨h₁,tk,es⟩:=Z.toInCall.same
  have fresh:∀ y a,(callEnvC fd s.heap.objs.size 998).cells.lookup y=some a->s.heap.get? a=none:=by
   intro y a e
   cases q:s.heap.get? a with
   |none=>rfl
   |some o=>
    have h1:=Z.above y a (PySem.mem_of_lookup e)
    exact absurd (Heap.lt_size q) (Nat.not_lt.mpr (Nat.le_of_lt h1))
  have nlive:s.heap.get? s.heap.objs.size=none:=by
   cases q:s.heap.get? s.heap.objs.size with
   |none=>rfl
   |some o=>exact absurd (Heap.lt_size q) (Nat.lt_irrefl _)
  have hid:∀{a},s.heap.get? a=none->(hideAll s.heap [x]).get? a=none:=fun {a} q=>by
   cases e:(hideAll s.heap [x]).get? a with
   |none=>rfl
   |some o=>rw[of_hideAll _ e]at q;injection q
  have notx:∀{a},s.heap.get? a=none->a∉([[x]]:FP).flatten:=fun {a} q h=>by
   have:a=x:=by simpa using h
   rw[this,hx]at q
   injection q
  have N:Now (zA3 w s x ob (callEnvC fd s.heap.objs.size 998)) [[x]] [.fl xs] [(198,.obj 0)] sB:=by
   refine ⟨⟨fun a o e=>keep a o (of_hideAll _ e),rfl,fun k o f e e'=>?_,by simp,fun a h=>?_⟩,fun a o e J J J=>⟨o.slots,keep a o e,fun J=>rfl⟩,fun a h=>.inl h,Ext.refl _,fun e he=>?_,⟨_,Z.toInCall.ns,fun y av q=>?_⟩,notx nlive,fun y a e=>?_,by rw[es],by rw[es],fun p hp=>?_,fun p hp=>?_⟩
   ·cases k with
    |zero=>
     cases e
     cases e'
     exact ⟨x,its,rfl,⟨ob,keep _ _ hx,hcl,n,hdat⟩,hI,by exact Nat.not_lt.mp fun gz=>lin [_] [] [(1,.nl (.v 0) (.c 63)),(1,.nl (.a (.c 10000) (.c 1)) (.v 0))] rfl hxs gz⟩
    |succ k=>simp at e
   ·have:a=x:=by simpa using h
    rw[this]
    exact ⟨hideAll_none _ (.head _),ob,keep _ _ hx⟩
   ·rw[List.mem_singleton.mp he]
    obtain ⟨o,es',ep,e1,e2,J⟩:=Z.toInCall.ns
    exact ⟨by show fd.scope.kind≠.module;rw[F.ki];decide,_,o,rfl,hid nlive,notx nlive,e1,fun vs z=>by rw[e2]at z;injection z⟩
   ·have q':(match Nat.beq 198 y with|true=>some (AV.obj 0)|false=>none)=some av:=q
    cases eb:Nat.beq 198 y<;>rw[eb]at q'
    ·injection q'
    cases q'
    have ey:=qP7 eb
    subst ey
    have hr:=qG0 (x:=198) (ps:=[198]) (vs:=[Value.ref x]) (by first|exact qQ3 rfl|exact .head _|simp) rfl
    show qV3 (zA3 w s x ob (callEnvC fd s.heap.objs.size 998)) [[x]] sB.heap _ 198 (.obj 0)
    unfold qV3
    rcases par 198 (.head _) with ⟨p1,p2⟩|⟨p1,p2⟩
    ·have e:(zA3 w s x ob (callEnvC fd s.heap.objs.size 998)).cells.lookup (nm 198)=none:=p2
     rw[e]
     exact ⟨.ref x,by rw[qT9 _ _ _ p1,hr];rfl,x,[],rfl,rfl⟩
    ·obtain ⟨a,ha⟩:=Option.isSome_iff_exists.mp p2
     have e:(zA3 w s x ob (callEnvC fd s.heap.objs.size 998)).cells.lookup (nm 198)=some a:=ha
     rw[e]
     have z:=Z.cell _ _ ha
     rw[qP8 _ _ _ p1,hr]at z
     obtain ⟨o,z1,z2⟩:=z
     exact ⟨o,.ref x,z1,z2,x,[],rfl,rfl⟩
   ·obtain ⟨o,z1,z2⟩:=Z.cell _ _ e
    exact ⟨notx (fresh y a e),o,z1,_,z2⟩
   ·rw[List.mem_singleton.mp hp]
    exact keep _ _ hx
   ·rw[List.mem_singleton.mp hp]
    exact ⟨0,⟨.fl xs,rfl⟩,rfl,rfl⟩
  have O:Ok (zA3 w s x ob (callEnvC fd s.heap.objs.size 998)) (callerA.deeper (callEnvC fd s.heap.objs.size 998)) 57:=by
   refine ⟨B,hid nlive,fun y e=>?_,fun y a e=>hid (fresh y a e),fun y z a e1 e2=>PySem.name_of_addr Z.apart (PySem.mem_of_lookup e1) (PySem.mem_of_lookup e2),rfl,(show callerA.depth+1+2*57<=950 by decide +kernel),(show callerA.units+3+40*57<=9700 by decide +kernel),rfl,rfl⟩
   have e':(callEnvC fd s.heap.objs.size 998).cells.lookup y=some s.heap.objs.size:=e
   exact absurd (Z.above y _ (PySem.mem_of_lookup e')) (Nat.lt_irrefl _)
  have V:qQ2 (zA3 w s x ob (callEnvC fd s.heap.objs.size 998)) (callEnvC fd s.heap.objs.size 998):=by
   refine ⟨F.ki,rfl,F.gl,F.bu,fun y e=>?_,fun y e=>?_⟩
   ·show (cellsFrom (s.heap.objs.size+1) fd.scope.names []).lookup y=none
    cases e2:(cellsFrom (s.heap.objs.size+1) fd.scope.names []).lookup y with
    |none=>rfl
    |some a=>
     rcases qZ1 _ _ _ _ _ (PySem.mem_of_lookup e2) with z|z
     ·exact nomatch z
     ·have:=F.ce _ z rfl
      have e':fd.scope.names.lookup y=some .local:=e
      rw[e']at this;(injection this with this;injection this)
   ·obtain ⟨a,ha⟩:=Option.isSome_iff_exists.mp (qX6 fd.scope.names (s.heap.objs.size+1) [] y (.inl (PySem.mem_of_lookup (e:fd.scope.names.lookup y=some .cell))))
    exact ⟨a,ha,ha⟩
  refine wpAny_mono (xC7 O V hxs (fun y hy=>?_) F.ok N) (fun f s' g=>?_) fun J J e=>e.elim
  ·have:y=x:=by simpa using hy
   rw[this]
   exact ⟨ob,.head _,hx⟩
  ·obtain ⟨φ',H',lc',rfl,N'⟩:=g
   refine ok s' (fun a o e=>?_) N'.gens N'.os
   obtain ⟨sl,e1,e2⟩:=N'.out a o e (by first|exact qQ3 rfl|exact .head _|simp) (fun q=>by rw[show a=s.heap.objs.size from q,nlive]at e;cases e) fun y q=>by rw[fresh y a q]at e;cases e
   rw[e2 fun en hen q=>by
    rw[List.mem_singleton.mp hen]at q
    have:s.heap.objs.size=a:=Option.some.inj q
    rw[<-this,nlive]at e
    cases e]at e1
   exact e1
end Mine
section
set_option maxHeartbeats 0
namespace Mine
open PySem PySem.W PySem.Calls PyProof.Rows
theorem xB5:yB4.name=nm 128:=by decide +kernel
set_option tactic.hygienic true in
theorem law_holds:rw.Holds:=by
 refine wS7 ?_
 intro w sA sB mg mb G Y fa o pm cd doc dV kV ho hd hcd hD hmg hg args vals as hpre hlay hrd hwl hlo
 have T:=G.T
 wrow_args hpre hlay hrd hwl hlo
 rename_i xs _ _ _ _ _ _ _ x its _ hL _ _ _ hI _ hlen _
 have hlen':xs.length<=63:=by exact Nat.not_lt.mp fun gz=>lin [_] [] [(1,.il (.n (.v 0)) (.n (.c 63))),(1,.nl (.a (.c 63) (.c 1)) (.v 0))] rfl (Int.not_lt.mp hlen) gz
 rw[xB5]at hmg
 refine wpAny_call (xB4 Y T.nolimit T.g T.b T.builtins hmg hL (by simpa using hI) hlen' fun s' keep hg' ho'=>?_)
 refine ⟨.inl ⟨.bool true,.bool true,[],rfl,fun cls=>?_,.bool true,?_,fun J=>⟨.nil,fun J h=>nomatch h⟩⟩,.of_keep keep,ho',.of_eq (hg'.trans hg)⟩
 ·first|rfl|exact allW_false_nil|wrow_none_raised
 ·wrow_post
end Mine
end
theorem PySem.Challenge.cw_ok0073_01_holds : PySem.Challenge.rw_ok0073_01.Holds :=
  Mine.law_holds
