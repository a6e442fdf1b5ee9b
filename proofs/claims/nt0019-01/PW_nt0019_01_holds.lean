import PyProof.Rows.All
import Wide.All
import OpenK.AllK
import Wide.FinOn
import PySem.Challenge.RW_nt0019_01
set_option Elab.async false
set_option maxRecDepth 100000
set_option linter.unusedVariables false
set_option linter.unusedSimpArgs false
set_option genInjectivity false
section
set_option maxHeartbeats 8000000
namespace Mine
open PySem PySem.W PyProof.Rows
theorem bc {P : Prop} (h : ¬¬P) : P := Classical.byContradiction h
noncomputable abbrev mbody : List Stmt:=PySem.Challenge.pw_nt0019_01.main.body
noncomputable def inCls (st : Option Stmt) (j : Nat) : Option Stmt:=match st with
 | some (.ClassDef _ _ _ b _ _ _ _ _ _ _) =>b[j]?
 | _ =>none
noncomputable def bdO (st : Option Stmt) : List Stmt:=match st with
 | some (.FunctionDef _ _ b _ _ _ _ _ _ _) =>b
 | _ =>[]
noncomputable def scO (st : Option Stmt) : Scope:=match st with
 | some (.FunctionDef _ _ _ _ _ _ sc _ _ _) =>sc
 | _ =>default
noncomputable def dE (P : Params) (s : Str) (t : Tok) (v : Value) : DictEntry:={ hash:=PyData.keyHash P s,key:=.str s t,val:=v }
noncomputable def nmO (st : Option Stmt) : Str:=match st with
 | some (.FunctionDef n _ _ _ _ _ _ _ _ _) =>n
 | _ =>""
noncomputable def arO (st : Option Stmt) : Arguments:=match st with
 | some (.FunctionDef _ a _ _ _ _ _ _ _ _) =>a
 | _ =>default
noncomputable def fdO (a : Addr) (st : Option Stmt) (q : Str) (m d : Value) : FuncData:={ name:=nmO st,qualname:=q,params:=arO st,body:=.stmts (bdO st),scope:=scO st,globals:=3,closure:=[],defaults:=d,kwdefaults:=.none,pyModule:=m,code:=.ref (a - 1) }
noncomputable def fnO (a : Addr) (st : Option Stmt) (q : Str) (m d : Value) : Addr × Obj:=(a,{ cls:=.type "function",data:=.func (fdO a st q m d) })
noncomputable def cdO (a : Addr) (n q : Str) (t l c f t2 : Nat) : Addr × Obj:=(a,{ cls:=.type "code",data:=.fields #[.str n t,.str q (t + 1),.str "/claim/cut.py" (t + 2),.int l 0,.int c 0,.int 0 0,.int 0 0,.int f 0,.ref (a - 5),.bool true,.int 181 0,.ref (a - 4),.none,.ref (a - 3),.ref (a - 2),.ref (a - 1),.int t2 0,.int l 0,.str "/claim/cut.py" (t2 + 1)] })
noncomputable def Kd (P : Params) : Frag:=[
(3,{ cls:=.type "dict",data:=.dict #[dE P "__name__" 165 (.str "law_nt0019_01" 645),dE P "__doc__" 166 (.none),dE P "__package__" 167 (.none),dE P "__loader__" 168 (.builtin "__main__.__loader__#opaque"),dE P "__spec__" 169 (.none),dE P "__annotations__" 170 (.ref 6),dE P "__builtins__" 171 (.ref 4),dE P "__file__" 173 (.str "/claim/cut.py" 172),dE P "__cached__" 174 (.none),dE P "MAX_CODE" 190 (.int 1114111 189),dE P "HIGH_FIRST" 192 (.int 55296 191),dE P "HIGH_LAST" 194 (.int 56319 193),dE P "LOW_FIRST" 196 (.int 56320 195),dE P "LOW_LAST" 198 (.int 57343 197),dE P "REPLACEMENT" 200 (.int 65533 199),dE P "ORDER_MARK" 202 (.int 65279 201),dE P "SUPPLEMENTARY" 204 (.int 65536 203),dE P "UniError" 233 (.ref 32),dE P "BadEncoding" 249 (.ref 45),dE P "BadCode" 265 (.ref 57),dE P "is_code" 272 (.ref 66),dE P "is_high" 279 (.ref 73),dE P "is_low" 286 (.ref 80),dE P "is_surrogate" 293 (.ref 87),dE P "is_scalar" 300 (.ref 94),dE P "check_scalars" 308 (.ref 101),dE P "UTF8_ALONE" 312 (.str "a trail octet without a lead" 311),dE P "UTF8_NEVER" 314 (.str "an octet that never stands" 313),dE P "UTF8_BROKEN" 316 (.str "a sequence that breaks off" 315),dE P "UTF8_SHORT" 318 (.str "a sequence that is cut short" 317),dE P "UTF8_TRAIL" 320 (.int 128 319),dE P "UTF8_PLANE" 322 (.int 65536 321),dE P "utf8_octets" 330 (.ref 108),dE P "encode_utf8" 339 (.ref 115),dE P "utf8_lead" 346 (.ref 122),dE P "utf8_piece" 361 (.ref 129),dE P "decode_utf8" 373 (.ref 136),dE P "decode_utf8_replaced" 385 (.ref 143),dE P "Utf8Stream" 431 (.ref 169),dE P "BIG" 435 (.str "be" 434),dE P "HALF_BITS" 437 (.int 10 436),dE P "HALF_MASK" 439 (.int 1023 438),dE P "utf16_units" 449 (.ref 180),dE P "utf16_joined" 457 (.ref 187),dE P "utf16_octets" 465 (.ref 194),dE P "utf16_unit" 474 (.ref 201),dE P "encode_utf16" 485 (.ref 209),dE P "utf16_step" 496 (.ref 216),dE P "utf16_start" 504 (.ref 223),dE P "decode_utf16_replaced" 516 (.ref 231),dE P "Utf16Stream" 576 (.ref 264),dE P "encode_utf32" 588 (.ref 276),dE P "utf32_step" 599 (.ref 283),dE P "utf32_start" 607 (.ref 290),dE P "decode_utf32" 620 (.ref 298),dE P "encoding_marks" 626 (.ref 303),dE P "sniffed" 635 (.ref 310),dE P "unmarked" 644 (.ref 317),dE P "_law_octets" 648 (.bytes #[65,127,128,143,144,159,160,191,192,194,223,224,225,237,239,240,241,244,245,255,216,220,254,0] 647),dE P "_law_is_begun" 654 (.ref 322),dE P "_law_code" 664 (.ref 329),dE P "_law_cut" 675 (.ref 336),dE P "_law_written" 685 (.ref 343),dE P "_law_codes" 691 (.ref 348),dE P "_law_halves" 697 (.ref 353),dE P "_law_units" 706 (.ref 360),dE P "_law_wide" 720 (.ref 367),dE P "_law_pieces" 726 (.ref 372),dE P "_law_streams_right" 743 (.ref 379),dE P "_law_round_right" 749 (.ref 384),dE P "law" 755 (.ref 389)] 71 }),
 cdO 65 "is_code" "is_code" 266 18 1 3 270,
 fnO 66 mbody[12]? "is_code" (.str "unicore.base" 187) .none,
 cdO 72 "is_high" "is_high" 273 20 1 3 277,
 fnO 73 mbody[13]? "is_high" (.str "unicore.base" 187) .none,
 cdO 79 "is_low" "is_low" 280 22 1 3 284,
 fnO 80 mbody[14]? "is_low" (.str "unicore.base" 187) .none,
 cdO 86 "is_surrogate" "is_surrogate" 287 24 1 3 291,
 fnO 87 mbody[15]? "is_surrogate" (.str "unicore.base" 187) .none,
 cdO 93 "is_scalar" "is_scalar" 294 26 1 3 298,
 fnO 94 mbody[16]? "is_scalar" (.str "unicore.base" 187) .none,
 cdO 100 "check_scalars" "check_scalars" 301 28 1 3 306,
 fnO 101 mbody[17]? "check_scalars" (.str "unicore.base" 187) .none,
 cdO 107 "utf8_octets" "utf8_octets" 323 39 1 3 328,
 fnO 108 mbody[25]? "utf8_octets" (.str "unicore.utf8" 309) .none,
 cdO 114 "encode_utf8" "encode_utf8" 331 48 1 3 337,
 fnO 115 mbody[26]? "encode_utf8" (.str "unicore.utf8" 309) .none,
 cdO 121 "utf8_lead" "utf8_lead" 340 55 1 3 344,
 fnO 122 mbody[27]? "utf8_lead" (.str "unicore.utf8" 309) .none,
 cdO 128 "utf8_piece" "utf8_piece" 347 65 2 3 359,
 fnO 129 mbody[28]? "utf8_piece" (.str "unicore.utf8" 309) .none,
 cdO 135 "decode_utf8" "decode_utf8" 362 82 1 3 371,
 fnO 136 mbody[29]? "decode_utf8" (.str "unicore.utf8" 309) .none,
 cdO 142 "decode_utf8_replaced" "decode_utf8_replaced" 374 91 1 3 383,
 fnO 143 mbody[30]? "decode_utf8_replaced" (.str "unicore.utf8" 309) .none,
 (151,{ cls:=.type "tuple",data:=.seq #[.bool false] }),
 cdO 157 "__init__" "Utf8Stream.__init__" 398 100 2 3 403,
 fnO 158 (inCls mbody[31]? 0) "Utf8Stream.__init__" (.str "unicore.utf8" 309) (.ref 151),
 (159,{ cls:=.type "tuple",data:=.seq #[.bool false] }),
 cdO 165 "feed" "Utf8Stream.feed" 406 105 3 3 418,
 fnO 166 (inCls mbody[31]? 1) "Utf8Stream.feed" (.str "unicore.utf8" 309) (.ref 159),
 (168,{ cls:=.type "dict",data:=.dict #[dE P "__module__" 393 (.str "unicore.utf8" 309),dE P "__firstlineno__" 397 (.int 98 396),dE P "__init__" 405 (.ref 158),dE P "feed" 420 (.ref 166),dE P "__static_attributes__" 424 (.ref 167),dE P "__dict__" 426 (.ref 170),dE P "__weakref__" 428 (.ref 171),dE P "__doc__" 429 (.none)] 4 }),
 (169,{ cls:=.type "type",data:=.cls { name:="Utf8Stream",bases:=[.type "object"],mro:=[.ref 169,.type "object"],ns:=168,qualname:="Utf8Stream" },slots:=#[none,none,some (.str "Utf8Stream" 386),some (.str "Utf8Stream" 394),some (.builtin "object.__new__"),some (.bool true)] }),
 cdO 179 "utf16_units" "utf16_units" 440 122 1 3 447,
 fnO 180 mbody[36]? "utf16_units" (.str "unicore.utf16" 432) .none,
 cdO 186 "utf16_joined" "utf16_joined" 450 133 2 3 455,
 fnO 187 mbody[37]? "utf16_joined" (.str "unicore.utf16" 432) .none,
 cdO 193 "utf16_octets" "utf16_octets" 458 135 2 3 463,
 fnO 194 mbody[38]? "utf16_octets" (.str "unicore.utf16" 432) .none,
 cdO 200 "utf16_unit" "utf16_unit" 466 137 3 3 472,
 fnO 201 mbody[39]? "utf16_unit" (.str "unicore.utf16" 432) .none,
 (202,{ cls:=.type "tuple",data:=.seq #[.str "be" 434,.bool false] }),
 cdO 208 "encode_utf16" "encode_utf16" 475 139 3 3 483,
 fnO 209 mbody[40]? "encode_utf16" (.str "unicore.utf16" 432) (.ref 202),
 cdO 215 "utf16_step" "utf16_step" 486 144 3 3 494,
 fnO 216 mbody[41]? "utf16_step" (.str "unicore.utf16" 432) .none,
 cdO 222 "utf16_start" "utf16_start" 497 157 2 3 502,
 fnO 223 mbody[42]? "utf16_start" (.str "unicore.utf16" 432) .none,
 (224,{ cls:=.type "tuple",data:=.seq #[.none] }),
 cdO 230 "decode_utf16_replaced" "decode_utf16_replaced" 505 163 2 3 514,
 fnO 231 mbody[43]? "decode_utf16_replaced" (.str "unicore.utf16" 432) (.ref 224),
 (239,{ cls:=.type "tuple",data:=.seq #[.none,.bool true] }),
 cdO 245 "__init__" "Utf16Stream.__init__" 529 172 3 3 535,
 fnO 246 (inCls mbody[44]? 0) "Utf16Stream.__init__" (.str "unicore.utf16" 432) (.ref 239),
 cdO 252 "is_lacking" "Utf16Stream.is_lacking" 538 178 4 3 546,
 fnO 253 (inCls mbody[44]? 1) "Utf16Stream.is_lacking" (.str "unicore.utf16" 432) .none,
 (254,{ cls:=.type "tuple",data:=.seq #[.bool false] }),
 cdO 260 "feed" "Utf16Stream.feed" 549 182 3 3 562,
 fnO 261 (inCls mbody[44]? 2) "Utf16Stream.feed" (.str "unicore.utf16" 432) (.ref 254),
 (263,{ cls:=.type "dict",data:=.dict #[dE P "__module__" 524 (.str "unicore.utf16" 432),dE P "__firstlineno__" 528 (.int 170 527),dE P "__init__" 537 (.ref 246),dE P "is_lacking" 548 (.ref 253),dE P "feed" 564 (.ref 261),dE P "__static_attributes__" 569 (.ref 262),dE P "__dict__" 571 (.ref 265),dE P "__weakref__" 573 (.ref 266),dE P "__doc__" 574 (.none)] 4 }),
 (264,{ cls:=.type "type",data:=.cls { name:="Utf16Stream",bases:=[.type "object"],mro:=[.ref 264,.type "object"],ns:=263,qualname:="Utf16Stream" },slots:=#[none,none,some (.str "Utf16Stream" 517),some (.str "Utf16Stream" 525),some (.builtin "object.__new__"),some (.bool true)] }),
 (269,{ cls:=.type "tuple",data:=.seq #[.str "be" 434,.bool false] }),
 cdO 275 "encode_utf32" "encode_utf32" 577 196 3 3 586,
 fnO 276 mbody[45]? "encode_utf32" (.str "unicore.utf16" 432) (.ref 269),
 cdO 282 "utf32_step" "utf32_step" 589 203 3 3 597,
 fnO 283 mbody[46]? "utf32_step" (.str "unicore.utf16" 432) .none,
 cdO 289 "utf32_start" "utf32_start" 600 213 2 3 605,
 fnO 290 mbody[47]? "utf32_start" (.str "unicore.utf16" 432) .none,
 (291,{ cls:=.type "tuple",data:=.seq #[.none] }),
 cdO 297 "decode_utf32" "decode_utf32" 608 219 2 3 618,
 fnO 298 mbody[48]? "decode_utf32" (.str "unicore.utf16" 432) (.ref 291),
 (302,{ cls:=.type "code",data:=.fields #[.str "encoding_marks" 621,.str "encoding_marks" 622,.str "/claim/cut.py" 623,.int 229 0,.int 0 0,.int 0 0,.int 0 0,.int 3 0,.ref 299,.bool true,.int 181 0,.ref 300,.none,.none,.none,.ref 301,.int 624 0,.int 229 0,.str "/claim/cut.py" 625] }),
 fnO 303 mbody[49]? "encoding_marks" (.str "unicore.utf16" 432) .none,
 cdO 309 "sniffed" "sniffed" 627 234 1 3 633,
 fnO 310 mbody[50]? "sniffed" (.str "unicore.utf16" 432) .none,
 cdO 316 "unmarked" "unmarked" 636 239 1 3 642,
 fnO 317 mbody[51]? "unmarked" (.str "unicore.utf16" 432) .none,
 (321,{ cls:=.type "code",data:=.fields #[.str "_law_is_begun" 649,.str "_law_is_begun" 650,.str "/claim/cut.py" 651,.int 246 0,.int 1 0,.int 0 0,.int 0 0,.int 3 0,.ref 318,.bool true,.int 181 0,.ref 319,.none,.none,.none,.ref 320,.int 652 0,.int 246 0,.str "/claim/cut.py" 653] }),
 fnO 322 mbody[54]? "_law_is_begun" (.str "law_nt0019_01" 645) .none,
 cdO 328 "_law_code" "_law_code" 655 261 1 3 662,
 fnO 329 mbody[55]? "_law_code" (.str "law_nt0019_01" 645) .none,
 cdO 335 "_law_cut" "_law_cut" 665 269 1 3 673,
 fnO 336 mbody[56]? "_law_cut" (.str "law_nt0019_01" 645) .none,
 cdO 342 "_law_written" "_law_written" 676 279 1 3 683,
 fnO 343 mbody[57]? "_law_written" (.str "law_nt0019_01" 645) .none,
 (347,{ cls:=.type "code",data:=.fields #[.str "_law_codes" 686,.str "_law_codes" 687,.str "/claim/cut.py" 688,.int 288 0,.int 2 0,.int 0 0,.int 0 0,.int 3 0,.ref 344,.bool true,.int 181 0,.ref 345,.none,.none,.none,.ref 346,.int 689 0,.int 288 0,.str "/claim/cut.py" 690] }),
 fnO 348 mbody[58]? "_law_codes" (.str "law_nt0019_01" 645) .none,
 (352,{ cls:=.type "code",data:=.fields #[.str "_law_halves" 692,.str "_law_halves" 693,.str "/claim/cut.py" 694,.int 294 0,.int 1 0,.int 0 0,.int 0 0,.int 3 0,.ref 349,.bool true,.int 181 0,.ref 350,.none,.none,.none,.ref 351,.int 695 0,.int 294 0,.str "/claim/cut.py" 696] }),
 fnO 353 mbody[59]? "_law_halves" (.str "law_nt0019_01" 645) .none,
 cdO 359 "_law_units" "_law_units" 698 305 2 3 704,
 fnO 360 mbody[60]? "_law_units" (.str "law_nt0019_01" 645) .none,
 cdO 366 "_law_wide" "_law_wide" 707 312 3 3 718,
 fnO 367 mbody[61]? "_law_wide" (.str "law_nt0019_01" 645) .none,
 (371,{ cls:=.type "code",data:=.fields #[.str "_law_pieces" 721,.str "_law_pieces" 722,.str "/claim/cut.py" 723,.int 322 0,.int 2 0,.int 0 0,.int 0 0,.int 3 0,.ref 368,.bool true,.int 181 0,.ref 369,.none,.none,.none,.ref 370,.int 724 0,.int 322 0,.str "/claim/cut.py" 725] }),
 fnO 372 mbody[62]? "_law_pieces" (.str "law_nt0019_01" 645) .none,
 cdO 378 "_law_streams_right" "_law_streams_right" 727 325 2 3 741,
 fnO 379 mbody[63]? "_law_streams_right" (.str "law_nt0019_01" 645) .none,
 (383,{ cls:=.type "code",data:=.fields #[.str "_law_round_right" 744,.str "_law_round_right" 745,.str "/claim/cut.py" 746,.int 337 0,.int 3 0,.int 0 0,.int 0 0,.int 3 0,.ref 380,.bool true,.int 181 0,.ref 381,.none,.none,.none,.ref 382,.int 747 0,.int 337 0,.str "/claim/cut.py" 748] }),
 fnO 384 mbody[64]? "_law_round_right" (.str "law_nt0019_01" 645) .none,
 (388,{ cls:=.type "code",data:=.fields #[.str "law" 750,.str "law" 751,.str "/claim/cut.py" 752,.int 354 0,.int 1 0,.int 0 0,.int 0 0,.int 3 0,.ref 385,.bool true,.int 181 0,.ref 386,.none,.none,.none,.ref 387,.int 753 0,.int 354 0,.str "/claim/cut.py" 754] }),
 fnO 389 mbody[65]? "law" (.str "law_nt0019_01" 645) .none]
noncomputable def Ka : List Addr:=[3,65,66,72,73,79,80,86,87,93,94,100,101,107,108,114,115,121,122,128,129,135,136,142,143,151,157,158,159,165,166,168,169,179,180,186,187,193,194,200,201,202,208,209,215,216,222,223,224,230,231,239,245,246,252,253,254,260,261,263,264,269,275,276,282,283,289,290,291,297,298,302,303,309,310,316,317,321,322,328,329,335,336,342,343,347,348,352,353,359,360,366,367,371,372,378,379,383,384,388,389]
noncomputable def loose : List Str:=(["MAX_CODE","HIGH_FIRST","HIGH_LAST","LOW_FIRST","LOW_LAST","REPLACEMENT","ORDER_MARK","SUPPLEMENTARY","UniError","BadEncoding","BadCode","is_code","is_high","is_low","is_surrogate","is_scalar","check_scalars","UTF8_ALONE","UTF8_NEVER","UTF8_BROKEN","UTF8_SHORT","UTF8_TRAIL","UTF8_PLANE","utf8_octets"] : List Str) ++ ((["encode_utf8","utf8_lead","utf8_piece","decode_utf8","decode_utf8_replaced","Utf8Stream","BIG","HALF_BITS","HALF_MASK","utf16_units","utf16_joined","utf16_octets","utf16_unit","encode_utf16","utf16_step","utf16_start","decode_utf16_replaced","Utf16Stream","encode_utf32","utf32_step","utf32_start","decode_utf32","encoding_marks","sniffed"] : List Str) ++ ((["unmarked","_law_octets","_law_is_begun","_law_code","_law_cut","_law_written","_law_codes","_law_halves","_law_units","_law_wide","_law_pieces","_law_streams_right","_law_round_right"] : List Str)))
noncomputable def vw : Program:={ PySem.Challenge.pw_nt0019_01 with main:={ PySem.Challenge.pw_nt0019_01.main with body:=[mbody[65]] } }
end Mine
end
section
set_option maxHeartbeats 8000000
namespace Mine
open PySem PySem.W PyProof.Rows
theorem left : LeftO PySem.Challenge.pw_nt0019_01 vw loose (fun s =>xlAt vw [] s && recOk [] s) (fun s =>Ka.map s.heap.get?) (fun w =>(Kd w.params).map fun p =>some p.2) 20000:=fun w =>by kernel_rfl
end Mine
end
section
namespace Mine
open PySem
inductive V where
 | none | bool (b : Bool) | int (i : Int) | str (s : Str) | bytes (ks : List Int) | list (xs : List V) | tup (xs : List V)
inductive AV where
 | val (v : V) | own (xs : List V) | inst (C : Str) (fl : List (Str × V))
noncomputable abbrev Gam:=List (Str × AV)
noncomputable abbrev lid : Nat:=1048576
structure Ge where
 cst : Str → Option V
 fn : Str → List V → List (Str × V) → Option V
 pm : Str → Str → List V → Option V
 cls : Str → List V → Option (List (Str × V))
 flds : Str → List Str
 mth : Str → Str → List (Str × V) → List V → Option (V × List (Str × V))
inductive Fl where
 | next (g : Gam) | brk (g : Gam) | ret (v : V) (g : Gam)
noncomputable def setL {α : Type} (x : Str) (a : α) : List (Str × α) → List (Str × α)
 | [] =>[(x,a)]
 | (y,b) :: r =>if y == x then (y,a) :: r else (y,b) :: setL x a r
noncomputable def dbg (x : Str) : Bool:=x == ("__debug__" : Str) || x == ("__classdict__" : Str) || x == (".0" : Str)
noncomputable def isLoc (sc : Scope) (x : Str) : Bool:=!dbg x && (sc.names.lookup x == some .local || sc.names.lookup x == some .cell || sc.names.lookup x == some .free)
noncomputable def isSto (sc : Scope) (x : Str) : Bool:=!dbg x && x != ("self" : Str) && (sc.names.lookup x == some .local || sc.names.lookup x == some .cell)
noncomputable def isVal : AV → Bool
 | .val _ =>true
 | _ =>false
noncomputable def isGlo (sc : Scope) (x : Str) : Bool:=!dbg x && sc.names.lookup x == some .globalImplicit
noncomputable def V.tru : V → Option Bool
 | .bool b =>some b
 | _ =>Option.none
noncomputable def small (a : Int) : Bool:=a.natAbs < 1073741824
noncomputable def intOf (v : V) : Option Int:=if h : v.ctorIdx = 2 then V.int.elim (motive_1:=fun _ =>Option Int) v h some else .none
noncomputable def listOf (v : V) : Option (List V):=if h : v.ctorIdx = 5 then V.list.elim (motive_1:=fun _ =>Option (List V)) v h some else .none
noncomputable def bytesOf (v : V) : Option (List Int):=if h : v.ctorIdx = 4 then V.bytes.elim (motive_1:=fun _ =>Option (List Int)) v h some else .none
noncomputable def strOf (v : V) : Option Str:=if h : v.ctorIdx = 3 then V.str.elim (motive_1:=fun _ =>Option Str) v h some else .none
noncomputable def tupV (v : V) : Option (List V):=if h : v.ctorIdx = 6 then V.tup.elim (motive_1:=fun _ =>Option (List V)) v h some else .none
noncomputable def one {α : Type} : List α → Option α
 | [] =>.none
 | a :: r =>match r with
  | [] =>some a
  | _ :: _ =>.none
noncomputable def int2 (a b : V) (K : Int → Int → Option V) : Option V:=(intOf a).bind fun x =>(intOf b).bind fun y =>K x y
noncomputable def addV (a b : V) : Option V:=match a with
 | .int x =>(intOf b).bind fun y =>some (.int (x + y))
 | .bytes x =>(bytesOf b).bind fun y =>if x.length + y.length ≤ lid then some (.bytes (x ++ y)) else .none
 | .list x =>(listOf b).bind fun y =>if x.length + y.length ≤ lid then some (.list (x ++ y)) else .none
 | .str x =>(strOf b).bind fun y =>if x.length + y.length ≤ lid then some (.str (x ++ y)) else .none
 | _ =>.none
noncomputable def mulV (a b : V) : Option V:=match a with
 | .int x =>(intOf b).bind fun y =>if (small x && small y) = true then some (.int (x * y)) else .none
 | .list xs =>(one xs).bind fun z =>(intOf z).bind fun c =>(intOf b).bind fun y =>if 0 ≤ y ∧ y ≤ 1 then some (.list (List.replicate y.toNat (.int c))) else .none
 | _ =>.none
noncomputable def binV (op : Operator) (a b : V) : Option V:=match op with
 | .Add =>addV a b
 | .Sub =>int2 a b fun a b =>some (.int (a - b))
 | .Mult =>mulV a b
 | .FloorDiv =>int2 a b fun a b =>if b ≠ 0 ∧ small b = true then some (.int (a.fdiv b)) else .none
 | .Mod =>int2 a b fun a b =>if b ≠ 0 then some (.int (a.fmod b)) else .none
 | .Pow =>int2 a b fun a b =>if 0 ≤ b ∧ b ≤ 64 ∧ small a = true then some (.int (a ^ b.toNat)) else .none
 | .LShift =>int2 a b fun a b =>if 0 ≤ b ∧ b ≤ 64 ∧ small a = true then some (.int (a * 2 ^ b.toNat)) else .none
 | .RShift =>int2 a b fun a b =>if 0 ≤ b then some (.int (a.fdiv (2 ^ b.toNat))) else .none
 | .BitAnd =>int2 a b fun a b =>some (.int (Builtin.bitAnd a b))
 | .BitOr =>int2 a b fun a b =>some (.int (Builtin.bitOr a b))
 | _ =>.none
noncomputable def eqI (a b : V) : Option Bool:=match a with
 | .int x =>(intOf b).map (x == ·)
 | .str x =>(strOf b).map (x == ·)
 | .bytes x =>(bytesOf b).map (x == ·)
 | _ =>.none
noncomputable def eqVs : List V → List V → Option Bool
 | [],_ =>some true
 | a :: r,l =>match l with
  | [] =>some true
  | b :: s =>(eqI a b).bind fun x =>(eqVs r s).bind fun y =>some (x && y)
noncomputable def eqV (a b : V) : Option Bool:=match a with
 | .list xs =>(listOf b).bind fun ys =>if xs.length = ys.length then eqVs xs ys else some false
 | .tup xs =>(tupV b).bind fun ys =>if xs.length = ys.length then eqVs xs ys else .none
 | _ =>eqI a b
noncomputable def isNoneV : V → Bool
 | .none =>true
 | _ =>false
noncomputable def intB (a b : V) (K : Int → Int → Bool) : Option Bool:=(intOf a).bind fun x =>(intOf b).bind fun y =>some (K x y)
noncomputable def cmpV (op : CmpOp) (a b : V) : Option Bool:=match op with
 | .Eq =>eqV a b
 | .NotEq =>(eqV a b).map (!·)
 | .Lt =>intB a b fun a b =>decide (a < b)
 | .LtE =>intB a b fun a b =>decide (a ≤ b)
 | .Gt =>intB a b fun a b =>decide (b < a)
 | .GtE =>intB a b fun a b =>decide (b ≤ a)
 | .Is =>cond (isNoneV b) (some (isNoneV a)) .none
 | .IsNot =>cond (isNoneV b) (some (!isNoneV a)) .none
 | _ =>.none
noncomputable def lenV : V → Option Nat
 | .bytes ks =>if ks.length ≤ lid then some ks.length else .none
 | .list xs =>if xs.length ≤ lid then some xs.length else .none
 | _ =>.none
noncomputable def itemAt {α : Type} (l : List α) (i : Int) : Option α :=
 if 0 ≤ i then (if i < l.length then l[i.toNat]? else .none)
 else if -(l.length : Int) ≤ i then l[(i + l.length).toNat]? else .none
noncomputable def itemK (a : V) (i : Int) : Option V:=match a with
 | .bytes ks =>if ks.length ≤ lid then (itemAt ks i).map .int else .none
 | .list xs =>if xs.length ≤ lid then itemAt xs i else .none
 | .tup xs =>if xs.length ≤ lid then itemAt xs i else .none
 | _ =>.none
noncomputable def itemV (a j : V) : Option V:=(intOf j).bind (itemK a)
noncomputable def clip (n : Nat) (i : Int) : Nat:=if i < 0 then (i + n).toNat else min i.toNat n
noncomputable def cut {α : Type} (l : List α) (lo hi : Option Int) : List α :=
 (l.drop (lo.elim 0 (clip l.length))).take (hi.elim l.length (clip l.length) - lo.elim 0 (clip l.length))
noncomputable def partV : Option V → Option (Option Int)
 | Option.none =>some Option.none
 | some (.int i) =>if i.natAbs < 4611686018427387904 then some (some i) else .none
 | _ =>.none
noncomputable def sliceV : V → Option Int → Option Int → Option V
 | .bytes ks,lo,hi =>if ks.length ≤ lid then some (.bytes (cut ks lo hi)) else .none
 | .list xs,lo,hi =>if xs.length ≤ lid then some (.list (cut xs lo hi)) else .none
 | _,_,_ =>.none
noncomputable def revV : V → Option V
 | .bytes ks =>if ks.length ≤ lid then some (.bytes ks.reverse) else .none
 | .list xs =>if xs.length ≤ lid then some (.list xs.reverse) else .none
 | _ =>.none
noncomputable def constV : Const → Option V
 | .none =>some .none
 | .bool b =>some (.bool b)
 | .int i =>some (.int i)
 | .str s =>some (.str s)
 | .bytes b =>some (.bytes (b.map fun c =>(c.toNat : Int)))
 | _ =>Option.none
noncomputable def intsV : List V → Option (List Int)
 | [] =>some []
 | .int i :: r =>(intsV r).map (i :: ·)
 | _ =>Option.none
noncomputable def bytessV : List V → Option (List (List Int))
 | [] =>some []
 | .bytes b :: r =>(bytessV r).map (b :: ·)
 | _ =>Option.none
noncomputable def insI (a : Int) : List Int → List Int
 | [] =>[a]
 | b :: r =>if a ≤ b then a :: b :: r else b :: insI a r
noncomputable def sortI : List Int → List Int
 | [] =>[]
 | a :: r =>insI a (sortI r)
noncomputable def compOk (sc csc : Scope) (x : Str) : Bool :=
 csc.kind == .function && x != ("self" : Str) && csc.names.all (fun p =>p.2 != .cell && (p.2 != .local || ((p.1 == x || p.1 == (".0" : Str)) && csc.names.lookup p.1 == some .local)) && (p.2 != .free || sc.names.lookup p.1 == some .cell || sc.names.lookup p.1 == some .free))
  && csc.names.lookup x == some .local
noncomputable def lineOk (pa p : Pos) : Bool:=pa.endLine == p.line
noncomputable def listV (v : V) : Option V:=(listOf v).elim ((bytesOf v).bind fun ks =>if ks.length ≤ lid then some (.list (ks.map .int)) else .none) fun xs =>if xs.length ≤ lid then some (.list xs) else .none
noncomputable def bltV (f : Str) (vs : List V) : Option V :=
 if f == "len" then (one vs).bind fun v =>(lenV v).map fun (n : Nat) =>V.int n
 else if f == "bytes" then (one vs).bind fun v =>(listOf v).bind fun xs =>(intsV xs).bind fun ns =>if ns.length ≤ lid ∧ ∀ n ∈ ns,0 ≤ n ∧ n < 256 then some (.bytes ns) else .none
 else if f == "list" then (one vs).bind listV
 else if f == "sorted" then (one vs).bind fun v =>(listOf v).bind fun xs =>(intsV xs).bind fun ns =>if ns.length ≤ 60 then some (.list ((sortI ns).map .int)) else .none
 else if f == "int" then (one vs).bind fun v =>(intOf v).map .int
 else if f == "tuple" then (one vs).bind fun v =>(tupV v).map .tup
 else .none
noncomputable def rangeL (a b : Int) : List V:=(List.range (b - a).toNat).map fun (k : Nat) =>.int (a + k)
noncomputable def rangeL3 (a b c : Int) : List V:=(List.range (if a < b then (b - a - 1) / c + 1 else 0).toNat).map fun (k : Nat) =>.int (a + k * c)
noncomputable def enumL : Nat → List V → List V
 | _,[] =>[]
 | k,x :: r =>.tup [.int k,x] :: enumL (k + 1) r
noncomputable def rngV : List Int → Option (List V)
 | [] =>.none
 | a :: r =>match r with
  | [] =>if (decide (a ≤ lid) && small a) = true then some (rangeL 0 a) else .none
  | b :: r =>match r with
   | [] =>if (small a && decide (b ≤ lid) && small b) = true then some (rangeL a b) else .none
   | c :: r =>match r with
    | [] =>if (small a && decide (b ≤ lid) && small b && decide (1 ≤ c) && decide (c ≤ 64)) = true then some (rangeL3 a b c) else .none
    | _ :: _ =>.none
noncomputable def iterV (f : Str) (vs : List V) : Option (List V):=if f == "range" then (intsV vs).bind rngV else .none
noncomputable def itemsV : V → Option (List V)
 | .list xs =>if xs.length ≤ lid then some xs else .none
 | .tup xs =>if xs.length ≤ lid then some xs else .none
 | .bytes ks =>if ks.length ≤ lid then some (ks.map .int) else .none
 | _ =>.none
noncomputable def nameOf (e : Expr) : Option Str:=if h : e.ctorIdx = 23 then Expr.Name.elim (motive_1:=fun _ =>Option Str) e h (fun x _ =>some x) else .none
noncomputable def tupOf (e : Expr) : Option (List Expr):=if h : e.ctorIdx = 25 then Expr.Tuple.elim (motive_1:=fun _ =>Option (List Expr)) e h (fun es _ _ =>some es) else .none
noncomputable def kwV : List Keyword → Option (List (Str × Expr))
 | [] =>some []
 | k :: r =>k.arg.bind fun n =>(kwV r).map ((n,k.value) :: ·)
noncomputable def stoOk (sc : Scope) (x : Str) (av : AV) : Bool:=isSto sc x && (isVal av || sc.names.lookup x == some .local)
noncomputable def stoAll (sc : Scope) : List Str → List AV → Bool
 | [],[] =>true
 | x :: xs,a :: as =>stoOk sc x a && stoAll sc xs as
 | _,_ =>false
noncomputable def setAll : List Str → List AV → Gam → Gam
 | x :: xs,a :: as,g =>setAll xs as (setL x a g)
 | _,_,g =>g
noncomputable def mapO {α β : Type} (f : α → Option β) : List α → Option (List β)
 | [] =>some []
 | a :: r =>match f a with
  | some b =>(mapO f r).map (b :: ·)
  | .none =>.none
noncomputable def bindT (sc : Scope) (e : Expr) (v : V) (g : Gam) : Option Gam:=match nameOf e with
 | some x =>if isSto sc x = true then some (setL x (.val v) g) else .none
 | .none =>(tupOf e).bind fun ts =>(tupV v).bind fun vs =>(mapO nameOf ts).bind fun xs =>if stoAll sc xs (vs.map .val) = true then some (setAll xs (vs.map .val) g) else .none
noncomputable def valsOf : List AV → Option (List V)
 | [] =>some []
 | .val v :: r =>(valsOf r).map (v :: ·)
 | _ =>.none
noncomputable def compV (f : V → Option (Option V)) : List V → Option (List V)
 | [] =>some []
 | x :: r =>match f x with
  | some (some y) =>(compV f r).map (y :: ·)
  | some .none =>compV f r
  | .none =>.none
noncomputable def cInt (c : Const) : Option Int:=if h : c.ctorIdx = 2 then Const.int.elim (motive:=fun _ =>Option Int) c h some else .none
noncomputable def intLit (e : Expr) : Option Int:=if h : e.ctorIdx = 19 then Expr.Constant.elim (motive_1:=fun _ =>Option Int) e h (fun c _ _ =>cInt c) else .none
noncomputable def litKey (o : Option Expr) : Option Int:=o.bind intLit
noncomputable def seqF (o : Option Fl) (k : Gam → Option Fl) : Option Fl:=o.bind fun fl =>match fl with
 | .next g =>k g
 | .brk g =>some (.brk g)
 | .ret v g =>some (.ret v g)
noncomputable def iteO {α : Type} (o : Option Bool) (a b : Option α) : Option α:=match o with
 | some c =>cond c a b
 | .none =>.none
noncomputable def valOf (o : Option AV) : Option V:=match o with
 | some a =>(match a with
  | .val v =>some v
  | _ =>.none)
 | .none =>.none
noncomputable def orO {α : Type} (a b : Option α) : Option α:=match a with
 | some a =>some a
 | .none =>b
noncomputable def ownOf (o : Option AV) : Option (List V):=match o with
 | some a =>(match a with
  | .own v =>some v
  | _ =>.none)
 | .none =>.none
noncomputable def instOf (o : Option AV) : Option (Str × List (Str × V)):=match o with
 | some a =>(match a with
  | .inst C fl =>some (C,fl)
  | _ =>.none)
 | .none =>.none
noncomputable def boundO {α : Type} (l : List α) (v : V) : Option V:=if l.length ≤ lid then some v else .none
noncomputable def fldO (G : Ge) (f : Str) (o : Option AV) : Option V:=(instOf o).bind fun cf =>if (G.flds cf.1).contains f = true then cf.2.lookup f else .none
noncomputable def subK (o : Option (List V)) (v : Option V) (j : V) : Option V:=match o with
 | some xs =>itemV (.list xs) j
 | .none =>v.bind fun w =>itemV w j
noncomputable def joinV (xs : List V) : Option V:=(bytessV xs).bind fun bs =>if bs.flatten.length ≤ lid ∧ xs.length ≤ lid then some (.bytes bs.flatten) else .none
noncomputable def locOwn (sc : Scope) (g : Gam) (e : Expr) : Option (List V):=(nameOf e).bind fun x =>if isLoc sc x = true then ownOf (g.lookup x) else .none
noncomputable def lenOwn (f : Str) (sc : Scope) (g : Gam) (es : List Expr) : Option V:=if f == ("len" : Str) then (one es).bind fun e =>(locOwn sc g e).bind fun xs =>(lenV (.list xs)).map fun (k : Nat) =>.int k else .none
noncomputable def callG (G : Ge) (f : Str) (vs : List V) (kvs : List (Str × V)) : Option V:=orO (G.fn f vs kvs) (if kvs.isEmpty = true then bltV f vs else .none)
noncomputable def dictG (ks : List Int) (vs : List V) (j : V) : Option V:=(intOf j).bind fun j =>if ks.length = vs.length ∧ 1 ≤ ks.length ∧ ks.length ≤ 8 ∧ ks.Nodup then (ks.zip vs).lookup j else .none
noncomputable def dctOf (e : Expr) : Option (List (Option Expr) × List Expr):=if h : e.ctorIdx = 6 then Expr.Dict.elim (motive_1:=fun _ =>Option (List (Option Expr) × List Expr)) e h (fun ks vs _ =>some (ks,vs)) else .none
noncomputable def sliceOf (e : Expr) : Option (Option Expr × Option Expr × Option Expr):=if h : e.ctorIdx = 26 then Expr.Slice.elim (motive_1:=fun _ =>Option (Option Expr × Option Expr × Option Expr)) e h (fun lo hi st _ =>some (lo,hi,st)) else .none
noncomputable def negOf (e : Expr) : Option Expr:=if h : e.ctorIdx = 3 then Expr.UnaryOp.elim (motive_1:=fun _ =>Option Expr) e h (fun op a _ =>if op = .USub then some a else .none) else .none
noncomputable def isRev (lo hi : Option Expr) (st : Expr) : Bool:=lo.isNone && (hi.isNone && (negOf st).bind intLit == some 1)
noncomputable def isEB (c : Const) : Bool:=if h : c.ctorIdx = 6 then Const.bytes.elim (motive:=fun _ =>Bool) c h (fun b =>b.isEmpty) else false
noncomputable def isEBE (e : Expr) : Bool:=if h : e.ctorIdx = 19 then Expr.Constant.elim (motive_1:=fun _ =>Bool) e h (fun c _ _ =>isEB c) else false
noncomputable def compOf (gens : List Comprehension) : Option (Str × Expr × List Expr):=(one gens).bind fun c =>match c with
 | ⟨t,it,ifs,k⟩ =>if k = 0 then (nameOf t).map fun y =>(y,it,ifs) else .none
noncomputable def callOf (e : Expr) : Option (Str × List Expr):=if h : e.ctorIdx = 16 then Expr.Call.elim (motive_1:=fun _ =>Option (Str × List Expr)) e h (fun f es ks _ =>if ks.isEmpty = true then (nameOf f).map fun x =>(x,es) else .none) else .none
noncomputable def attrOf (e : Expr) : Option (Str × Str × Pos):=if h : e.ctorIdx = 20 then Expr.Attribute.elim (motive_1:=fun _ =>Option (Str × Str × Pos)) e h (fun v m pa =>(nameOf v).map fun x =>(x,m,pa)) else .none
noncomputable def methOf (e : Expr) : Option ((Str × Str × Pos) × List Expr × Pos):=if h : e.ctorIdx = 16 then Expr.Call.elim (motive_1:=fun _ =>Option ((Str × Str × Pos) × List Expr × Pos)) e h (fun f es ks p =>if ks.isEmpty = true then (attrOf f).map fun a =>(a,es,p) else .none) else .none
mutual
noncomputable def ev : Nat → Ge → Scope → Gam → Expr → Option V
 | 0,_,_,_,_ =>.none
 | n + 1,G,sc,g,e =>match e with
  | .Constant c _ _ =>constV c
  | .Name x _ =>if isLoc sc x = true then valOf (g.lookup x) else if isGlo sc x = true then G.cst x else .none
  | .BinOp a op b _ =>(ev n G sc g a).bind fun x =>(ev n G sc g b).bind fun y =>binV op x y
  | .UnaryOp op a _ =>(match op with
   | .USub =>(intLit a).map fun i =>.int (-i)
   | .Not =>(ev n G sc g a).bind fun x =>x.tru.map fun b =>.bool !b
   | _ =>.none)
  | .BoolOp op es _ =>evB n G sc g op es
  | .Compare a ops es _ =>(if lastMarks ops es = true then .none else ev n G sc g a).bind fun x =>(evC n G sc g x ops es).map .bool
  | .IfExp t a b _ =>iteO (evT n G sc g t) (ev n G sc g a) (ev n G sc g b)
  | .List es _ =>(mapO (ev n G sc g) es).bind fun vs =>boundO vs (.list vs)
  | .Tuple es _ _ =>(mapO (ev n G sc g) es).bind fun vs =>boundO vs (.tup vs)
  | .Attribute v f _ =>(nameOf v).bind fun x =>if isLoc sc x = true then fldO G f (g.lookup x) else .none
  | .Subscript a i _ =>(match dctOf a with
   | some kv =>(mapO litKey kv.1).bind fun kl =>(mapO (ev n G sc g) kv.2).bind fun vl =>(ev n G sc g i).bind fun j =>dictG kl vl j
   | .none =>(match sliceOf i with
    | some s =>(match s.2.2 with
     | .none =>(ev n G sc g a).bind fun x =>(evO n G sc g s.1).bind fun l =>(evO n G sc g s.2.1).bind fun h =>sliceV x l h
     | some st =>if isRev s.1 s.2.1 st = true then (ev n G sc g a).bind revV else .none)
    | .none =>(ev n G sc g i).bind fun j =>subK (locOwn sc g a) (ev n G sc g a) j))
  | .Call f es ks p =>(match f with
   | .Name f _ =>if isGlo sc f = true then (match mapO (ev n G sc g) es with
    | some vs =>(kwV ks).bind fun kes =>(mapO (fun (p : Str × Expr) =>(ev n G sc g p.2).map fun v =>(p.1,v)) kes).bind fun kvs =>callG G f vs kvs
    | .none =>if ks.isEmpty = true then lenOwn f sc g es else .none) else .none
   | .Attribute b m pa =>if ks.isEmpty = true then (match nameOf b with
    | some x =>if (isLoc sc x && lineOk pa p && decide (es.length < 20)) = true then (instOf (g.lookup x)).bind fun cf =>(mapO (ev n G sc g) es).bind fun vs =>if (cf.2.lookup m).isNone = true then G.pm cf.1 m vs else .none else .none
    | .none =>if (isEBE b && (m == ("join" : Str) && lineOk pa p)) = true then (one es).bind fun e =>((ev n G sc g e).bind listOf).bind joinV else .none) else .none
   | _ =>.none)
  | .ListComp elt gens csc _ =>(compOf gens).bind fun c =>if compOk sc csc c.1 = true then (evI n G sc g c.2.1).bind fun xs =>if xs.length ≤ lid then (compV (fun x =>(evIfs n G csc (setL c.1 (.val x) g) c.2.2).bind fun b =>cond b ((ev n G csc (setL c.1 (.val x) g) elt).map some) (some .none)) xs).map .list else .none else .none
  | _ =>.none
noncomputable def evT : Nat → Ge → Scope → Gam → Expr → Option Bool
 | 0,_,_,_,_ =>.none
 | n + 1,G,sc,g,e =>match e with
  | .UnaryOp op a p =>(match op with
   | .Not =>(evT n G sc g a).map (!·)
   | op =>(ev n G sc g (.UnaryOp op a p)).bind V.tru)
  | .BoolOp op es _ =>evA n G sc g op es
  | .IfExp t a b _ =>iteO (evT n G sc g t) (evT n G sc g a) (evT n G sc g b)
  | .Compare a ops es _ =>(if lastMarks ops es = true then .none else ev n G sc g a).bind fun x =>evC n G sc g x ops es
  | e =>(ev n G sc g e).bind V.tru
noncomputable def evB : Nat → Ge → Scope → Gam → BoolOp → List Expr → Option V
 | 0,_,_,_,_,_ =>.none
 | n + 1,G,sc,g,op,es =>match es with
  | [] =>.none
  | e :: r =>(match r with
   | [] =>ev n G sc g e
   | _ :: _ =>(ev n G sc g e).bind fun v =>v.tru.bind fun b =>(match op with
    | .And =>cond b (evB n G sc g .And r) (some v)
    | .Or =>cond b (some v) (evB n G sc g .Or r)))
noncomputable def evA : Nat → Ge → Scope → Gam → BoolOp → List Expr → Option Bool
 | 0,_,_,_,_,_ =>.none
 | n + 1,G,sc,g,op,es =>match es with
  | [] =>some (op == .And)
  | e :: r =>(evT n G sc g e).bind fun b =>(match op with
   | .And =>cond b (evA n G sc g .And r) (some false)
   | .Or =>cond b (some true) (evA n G sc g .Or r))
noncomputable def evC : Nat → Ge → Scope → Gam → V → List CmpOp → List Expr → Option Bool
 | 0,_,_,_,_,_,_ =>.none
 | n + 1,G,sc,g,x,ops,es =>match ops with
  | [] =>.none
  | op :: ops =>(match es with
   | [] =>.none
   | e :: es =>(ev n G sc g e).bind fun y =>(cmpV op x y).bind fun b =>(match ops with
    | [] =>(match es with
     | [] =>some b
     | _ :: _ =>.none)
    | _ :: _ =>(match es with
     | [] =>.none
     | _ :: _ =>cond b (evC n G sc g y ops es) (some false))))
noncomputable def evO : Nat → Ge → Scope → Gam → Option Expr → Option (Option Int)
 | 0,_,_,_,_ =>.none
 | n + 1,G,sc,g,o =>match o with
  | .none =>some .none
  | some e =>(ev n G sc g e).bind fun v =>partV (some v)
noncomputable def evI : Nat → Ge → Scope → Gam → Expr → Option (List V)
 | 0,_,_,_,_ =>.none
 | n + 1,G,sc,g,e =>match callOf e with
  | some c =>if (isGlo sc c.1 && c.1 == ("range" : Str)) = true then (mapO (ev n G sc g) c.2).bind (iterV c.1) else (ev n G sc g e).bind itemsV
  | .none =>(ev n G sc g e).bind itemsV
noncomputable def evIfs : Nat → Ge → Scope → Gam → List Expr → Option Bool
 | 0,_,_,_,_ =>.none
 | n + 1,G,sc,g,es =>match es with
  | [] =>some true
  | e :: r =>(match r with
   | [] =>evT n G sc g e
   | _ :: _ =>.none)
end
noncomputable def ownB (v : V) : Option AV:=(bytesOf v).bind fun ks =>if ks.length ≤ lid then some (.own (ks.map .int)) else .none
noncomputable def isNilL (e : Expr) : Bool:=if h : e.ctorIdx = 24 then Expr.List.elim (motive_1:=fun _ =>Bool) e h (fun es _ =>es.isEmpty) else false
noncomputable def clsK (G : Ge) (C : Str) (vs : Option (List V)) (r : Option V) : Option AV:=orO (vs.bind fun vs =>(G.cls C vs).map fun fl =>.inst C fl) (r.map .val)
noncomputable def evR (n : Nat) (G : Ge) (sc : Scope) (g : Gam) (o : Bool) (e : Expr) : Option AV :=
 if (o && isNilL e) = true then some (.own []) else match callOf e with
  | some c =>if o = true then (if (c.1 == ("list" : Str) && isGlo sc c.1 && (G.fn c.1 [] []).isNone) = true then (one c.2).bind fun a =>(ev n G sc g a).bind ownB else .none)
   else clsK G c.1 (if isGlo sc c.1 = true then mapO (ev n G sc g) c.2 else .none) (ev n G sc g e)
  | .none =>(ev n G sc g e).map .val
noncomputable def valO : AV → Option V
 | .val v =>some v
 | _ =>.none
noncomputable def setFld (G : Ge) (x f : Str) (v : V) (g : Gam) (cf : Str × List (Str × V)) : Option Gam:=if ((G.flds cf.1).contains f && decide (cf.2.length < 900)) = true then some (setL x (.inst cf.1 (setL f v cf.2)) g) else .none
noncomputable def asg (G : Ge) (sc : Scope) (t : Expr) (av : AV) (g : Gam) : Option Gam:=match t with
 | .Name x _ =>if stoOk sc x av = true then some (setL x av g) else .none
 | .Attribute b f _ =>(nameOf b).bind fun x =>(valO av).bind fun v =>if isLoc sc x = true then (instOf (g.lookup x)).bind (setFld G x f v g) else .none
 | _ =>.none
noncomputable def asgs (G : Ge) (sc : Scope) : List Expr → List V → Gam → Option Gam
 | [],[],g =>some g
 | t :: ts,a :: as,g =>(asg G sc t (.val a) g).bind (asgs G sc ts as)
 | _,_,_ =>.none
noncomputable def thaw : Gam → Gam
 | [] =>[]
 | (x,.own xs) :: r =>(x,.val (.list xs)) :: thaw r
 | p :: r =>p :: thaw r
theorem thV {x : Str} {v : V} {r : Gam} : thaw ((x,.val v) :: r) = (x,.val v) :: thaw r:=rfl
theorem thO {x : Str} {v : List V} {r : Gam} : thaw ((x,.own v) :: r) = (x,.val (.list v)) :: thaw r:=rfl
theorem thI {x C : Str} {v : List (Str × V)} {r : Gam} : thaw ((x,.inst C v) :: r) = (x,.inst C v) :: thaw r:=rfl
noncomputable def whileV (test : Gam → Option Bool) (body : Gam → Option Fl) : Nat → Gam → Option Fl
 | 0,_ =>.none
 | k + 1,g =>match test g with
  | some true =>match body g with
   | some (.next g') =>whileV test body k g'
   | some (.brk g') =>some (.next g')
   | some (.ret v g') =>some (.ret v g')
   | .none =>.none
  | some false =>some (.next g)
  | .none =>.none
noncomputable def forV (bind : V → Gam → Option Gam) (body : Gam → Option Fl) : List V → Gam → Option Fl
 | [],g =>some (.next g)
 | x :: r,g =>match bind x g with
  | some g' =>match body g' with
   | some (.next g'') =>forV bind body r g''
   | some (.brk g'') =>some (.next g'')
   | some (.ret v g'') =>some (.ret v g'')
   | .none =>.none
  | .none =>.none
noncomputable def owned (mu : List Str) (e : Expr) : Bool:=(nameOf e).any mu.contains
noncomputable def swOk (es : List Expr) : Bool:=!es.all (constantsAlone 8) || es.all (foldedForSure 8)
noncomputable def methK (m x : Str) (g : Gam) (xs vs : List V) : Option Fl :=
 if m == ("append" : Str) then (one vs).bind fun v =>if xs.length < lid then some (.next (setL x (.own (xs ++ [v])) g)) else .none
 else if m == ("extend" : Str) then (one vs).bind fun v =>(listOf v).bind fun ys =>if xs.length + ys.length ≤ lid then some (.next (setL x (.own (xs ++ ys)) g)) else .none
 else if m == ("reverse" : Str) then (if vs.isEmpty = true then (if xs.length ≤ lid then some (.next (setL x (.own xs.reverse) g)) else .none) else .none)
 else .none
noncomputable def storeTT (G : Ge) (sc : Scope) (ts : List Expr) (as : List AV) (g : Gam) : Option Fl:=match mapO nameOf ts with
 | some xs =>if (stoAll sc xs as && decide xs.Nodup) = true then some (.next (setAll xs as g)) else .none
 | .none =>(valsOf as).bind fun vs =>(asgs G sc ts vs g).map .next
noncomputable def feedK (G : Ge) (x o m : Str) (g : Gam) (ys : Option (List V)) (vs : Option (List V)) : Option Fl :=
 (instOf (g.lookup o)).bind fun cf =>ys.bind fun ys =>vs.bind fun vs =>(if (cf.2.lookup m).isNone = true then G.mth cf.1 m cf.2 vs else .none).bind fun r =>(listOf r.1).bind fun zs =>
  if ys.length + zs.length ≤ lid then some (.next (setL x (.val (.list (ys ++ zs))) (setL o (.inst cf.1 r.2) g))) else .none
noncomputable def addOf (e : Expr) : Option (Expr × Expr):=if h : e.ctorIdx = 2 then Expr.BinOp.elim (motive_1:=fun _ =>Option (Expr × Expr)) e h (fun a op b _ =>if op = .Add then some (a,b) else .none) else .none
noncomputable def feedOf (sc : Scope) (x : Str) (e : Expr) : Option (Expr × Str × Str × List Expr):=(addOf e).bind fun yc =>(nameOf yc.1).bind fun _ =>(callOf yc.2).bind fun le =>(one le.2).bind fun a =>(methOf a).bind fun om =>
 if (le.1 == ("list" : Str) && lineOk om.1.2.2 om.2.2 && decide (om.2.1.length < 20) && x != om.1.1 && isSto sc x && isGlo sc le.1 && isLoc sc om.1.1) = true then some (yc.1,om.1.1,om.1.2.1,om.2.1) else .none
noncomputable def name2 (t : Expr) : Bool:=match tupOf t with
 | some ts =>ts.length == 2 && (mapO nameOf ts).isSome
 | .none =>false
noncomputable def enumOf (sc : Scope) (t it : Expr) : Option Expr:=if name2 t = true then (callOf it).bind fun c =>if (isGlo sc c.1 && c.1 == ("enumerate" : Str)) = true then one c.2 else .none else .none
mutual
noncomputable def ex : Nat → Ge → Scope → List Str → Stmt → Gam → Option Fl
 | 0,_,_,_,_,_ =>.none
 | n + 1,G,sc,mu,st,g =>match st with
  | .Return o _ =>o.bind fun e =>(ev n G sc (thaw g) e).map fun v =>.ret v (thaw g)
  | .Break _ =>some (.brk g)
  | .If t a b _ =>iteO (evT n G sc g t) (exs n G sc mu a g) (exs n G sc mu b g)
  | .While t b e _ =>if e.isEmpty = true then whileV (evT n G sc · t) (exs n G sc mu b) 65536 g else .none
  | .For t it b e _ =>if e.isEmpty = true then (match enumOf sc t it with
   | some a =>((ev n G sc g a).bind listOf).bind fun xs =>if xs.length ≤ lid then forV (bindT sc t) (exs n G sc mu b) (enumL 0 xs) g else .none
   | .none =>(evI n G sc g it).bind fun xs =>forV (bindT sc t) (exs n G sc mu b) xs g) else .none
  | .Expr e _ =>(match methOf e with
   | some c =>if (isLoc sc c.1.1 && lineOk c.1.2.2 c.2.2) = true then (ownOf (g.lookup c.1.1)).bind fun xs =>(mapO (ev n G sc g) c.2.1).bind fun vs =>methK c.1.2.1 c.1.1 g xs vs else .none
   | .none =>(callOf e).bind fun _ =>(ev n G sc g e).bind fun v =>if isNoneV v = true then some (.next g) else .none)
  | .Assign ts e _ =>(one ts).bind fun t =>(match tupOf t with
   | some us =>(match tupOf e with
    | some es =>if (us.length = es.length && swOk es && es.length ≤ 30) = true then (mapO (fun (p : Expr × Expr) =>evR n G sc g (owned mu p.1) p.2) (us.zip es)).bind fun as =>storeTT G sc us as g else .none
    | .none =>(ev n G sc g e).bind fun v =>(bindT sc t v g).map .next)
   | .none =>(match (nameOf t).bind fun x =>(feedOf sc x e).map fun f =>(x,f) with
    | some f =>feedK G f.1 f.2.2.1 f.2.2.2.1 g ((ev n G sc g f.2.1).bind listOf) (mapO (ev n G sc g) f.2.2.2.2)
    | .none =>(evR n G sc g (owned mu t) e).bind fun a =>(asg G sc t a g).map .next))
  | _ =>.none
noncomputable def exs : Nat → Ge → Scope → List Str → List Stmt → Gam → Option Fl
 | 0,_,_,_,_,_ =>.none
 | n + 1,G,sc,mu,ss,g =>match ss with
  | [] =>some (.next g)
  | s :: r =>seqF (ex n G sc mu s g) (exs n G sc mu r)
end
theorem bind_some' {α ρ : Type} {o : Option α} {K : α → Option ρ} {r : ρ} (h : o.bind K = some r) : ∃ a,o = some a ∧ K a = some r:=Option.bind_eq_some_iff.mp h
theorem nS {α : Type} {a : α} {P : Prop} (h : Option.none = some a) : P:=nomatch h
theorem nF {P : Prop} (h : false = true) : P:=nomatch h
theorem bind_el {α ρ : Type} {o : Option α} {K : α → Option ρ} {r : ρ} {P : Prop} (h : o.bind K = some r) (k : ∀ a,o = some a → K a = some r → P) : P:=by
 cases o with
 | none =>cases h
 | some a =>exact k a rfl h
theorem map_el {α ρ : Type} {o : Option α} {K : α → ρ} {r : ρ} {P : Prop} (h : o.map K = some r) (k : ∀ a,o = some a → K a = r → P) : P:=by
 cases o with
 | none =>cases h
 | some a =>exact k a rfl (Option.some.inj h)
theorem ite_el {α : Type} {c : Bool} {o : Option α} {r : α} {P : Prop} (h : (if c = true then o else Option.none) = some r) (k : c = true → o = some r → P) : P:=by
 cases c
 ·cases h
 ·exact k rfl h
theorem itep_el {α : Type} {p : Prop} [Decidable p] {o : Option α} {r : α} {P : Prop} (h : (if p then o else Option.none) = some r) (k : p → o = some r → P) : P:=by
 by_cases c : p
 ·rw [if_pos c] at h; exact k c h
 ·rw [if_neg c] at h; cases h
theorem map_some' {α ρ : Type} {o : Option α} {K : α → ρ} {r : ρ} (h : o.map K = some r) : ∃ a,o = some a ∧ K a = r:=Option.map_eq_some_iff.mp h
theorem ite_some' {α : Type} {c : Bool} {o : Option α} {r : α} (h : (if c = true then o else Option.none) = some r) : c = true ∧ o = some r:=by
 cases c
 ·cases h
 ·exact ⟨rfl,h⟩
theorem ite_somep {α : Type} {p : Prop} [Decidable p] {o : Option α} {r : α} (h : (if p then o else Option.none) = some r) : p ∧ o = some r:=by
 by_cases c : p
 ·rw [if_pos c] at h; exact ⟨c,h⟩
 ·rw [if_neg c] at h; cases h
theorem iteO_some' {α : Type} {o : Option Bool} {a b : Option α} {r : α} (h : iteO o a b = some r) : ∃ c,o = some c ∧ cond c a b = some r:=by
 cases o with
 | none =>cases h
 | some c =>exact ⟨c,rfl,h⟩
theorem dt_el {α : Type} {p : Prop} [Decidable p] {f : p → α} {d r : α} {P : Prop} (h : (if c : p then f c else d) = r) (n : d = r → P) (k : ∀ c : p,f c = r → P) : P:=by
 by_cases c : p
 ·rw [dif_pos c] at h; exact k c h
 ·rw [dif_neg c] at h; exact n h
theorem intOf_some {v : V} {i : Int} (h : intOf v = some i) : v = .int i:=dt_el h nS fun c h2 =>V.int.elim (motive_1:=fun v =>∀ c,V.int.elim (motive_1:=fun _ =>Option Int) v c some = some i → v = .int i) v c (fun _ _ hh =>congrArg V.int (Option.some.inj hh)) c h2
theorem listOf_some {v : V} {i : List V} (h : listOf v = some i) : v = .list i:=dt_el h nS fun c h2 =>V.list.elim (motive_1:=fun v =>∀ c,V.list.elim (motive_1:=fun _ =>Option (List V)) v c some = some i → v = .list i) v c (fun _ _ hh =>congrArg V.list (Option.some.inj hh)) c h2
theorem bytesOf_some {v : V} {i : List Int} (h : bytesOf v = some i) : v = .bytes i:=dt_el h nS fun c h2 =>V.bytes.elim (motive_1:=fun v =>∀ c,V.bytes.elim (motive_1:=fun _ =>Option (List Int)) v c some = some i → v = .bytes i) v c (fun _ _ hh =>congrArg V.bytes (Option.some.inj hh)) c h2
theorem tupV_some {v : V} {i : List V} (h : tupV v = some i) : v = .tup i:=dt_el h nS fun c h2 =>V.tup.elim (motive_1:=fun v =>∀ c,V.tup.elim (motive_1:=fun _ =>Option (List V)) v c some = some i → v = .tup i) v c (fun _ _ hh =>congrArg V.tup (Option.some.inj hh)) c h2
theorem strOf_some {v : V} {i : Str} (h : strOf v = some i) : v = .str i:=dt_el h nS fun c h2 =>V.str.elim (motive_1:=fun v =>∀ c,V.str.elim (motive_1:=fun _ =>Option Str) v c some = some i → v = .str i) v c (fun _ _ hh =>congrArg V.str (Option.some.inj hh)) c h2
theorem one_some {α : Type} {l : List α} {a : α} (h : one l = some a) : l = [a]:=by
 cases l with
 | nil =>cases h
 | cons b r =>cases r with
  | nil =>obtain rfl:=Option.some.inj h; rfl
  | cons c r =>cases h
theorem nameOf_some {e : Expr} {x : Str} (h : nameOf e = some x) : ∃ p,e = .Name x p:=dt_el h nS fun c h2 =>Expr.Name.elim (motive_1:=fun e =>∀ c,Expr.Name.elim (motive_1:=fun _ =>Option Str) e c _ = _ → ∃ p,e = .Name x p) e c (fun y p _ hh =>⟨p,congrArg (Expr.Name · p) (Option.some.inj hh)⟩) c h2
theorem valOf_some {o : Option AV} {v : V} (h : valOf o = some v) : o = some (.val v):=by
 cases o with
 | none =>cases h
 | some a =>cases a <;> cases h; rfl
theorem ownOf_some {o : Option AV} {v : List V} (h : ownOf o = some v) : o = some (.own v):=by
 cases o with
 | none =>cases h
 | some a =>cases a <;> cases h; rfl
theorem instOf_some {o : Option AV} {cf : Str × List (Str × V)} (h : instOf o = some cf) : o = some (.inst cf.1 cf.2):=by
 cases o with
 | none =>cases h
 | some a =>cases a <;> cases h; rfl
theorem cInt_some {v : Const} {i : Int} (h : cInt v = some i) : v = .int i:=dt_el h nS fun c h2 =>Const.int.elim (motive:=fun v =>∀ c,Const.int.elim (motive:=fun _ =>Option Int) v c some = some i → v = .int i) v c (fun _ _ hh =>congrArg Const.int (Option.some.inj hh)) c h2
theorem intLit_some {e : Expr} {i : Int} (h : intLit e = some i) : ∃ k p,e = .Constant (.int i) k p:=dt_el h nS fun c h2 =>Expr.Constant.elim (motive_1:=fun e =>∀ c,Expr.Constant.elim (motive_1:=fun _ =>Option Int) e c _ = _ → ∃ k p,e = .Constant (.int i) k p) e c (fun y k p _ hh =>⟨k,p,congrArg (Expr.Constant · k p) (cInt_some hh)⟩) c h2
theorem dctOf_some {e : Expr} {kv : List (Option Expr) × List Expr} (h : dctOf e = some kv) : ∃ p,e = .Dict kv.1 kv.2 p:=dt_el h nS fun c h2 =>Expr.Dict.elim (motive_1:=fun e =>∀ c,Expr.Dict.elim (motive_1:=fun _ =>Option (List (Option Expr) × List Expr)) e c _ = _ → ∃ p,e = .Dict kv.1 kv.2 p) e c (fun a b p _ hh =>⟨p,congrArg (fun z : List (Option Expr) × List Expr =>Expr.Dict z.1 z.2 p) (Option.some.inj hh)⟩) c h2
theorem sliceOf_some {e : Expr} {s : Option Expr × Option Expr × Option Expr} (h : sliceOf e = some s) : ∃ p,e = .Slice s.1 s.2.1 s.2.2 p:=dt_el h nS fun c h2 =>Expr.Slice.elim (motive_1:=fun e =>∀ c,Expr.Slice.elim (motive_1:=fun _ =>Option (Option Expr × Option Expr × Option Expr)) e c _ = _ → ∃ p,e = .Slice s.1 s.2.1 s.2.2 p) e c (fun a b d p _ hh =>⟨p,congrArg (fun z : Option Expr × Option Expr × Option Expr =>Expr.Slice z.1 z.2.1 z.2.2 p) (Option.some.inj hh)⟩) c h2
theorem negOf_some {e a : Expr} (h : negOf e = some a) : ∃ p,e = .UnaryOp .USub a p:=dt_el h nS fun c h2 =>Expr.UnaryOp.elim (motive_1:=fun e =>∀ c,Expr.UnaryOp.elim (motive_1:=fun _ =>Option Expr) e c _ = _ → ∃ p,e = .UnaryOp .USub a p) e c (fun o b p _ hh =>itep_el (show (if o = .USub then some b else Option.none) = some a from hh) fun e1 e2 =>⟨p,by rw [e1,Option.some.inj e2]⟩) c h2
theorem isRev_true {lo hi : Option Expr} {st : Expr} (h : isRev lo hi st = true) : lo = .none ∧ hi = .none ∧ ∃ k p1 p2,st = .UnaryOp .USub (.Constant (.int 1) k p1) p2:=by
 unfold isRev at h
 simp only [Bool.and_eq_true,Bool.and_eq_true] at h
 refine bc fun hN =>?_
 refine bind_el (beq_iff_eq.mp h.2.2) fun a h1 h2 =>?_
 obtain ⟨p,rfl⟩:=negOf_some h1
 obtain ⟨k,q,rfl⟩:=intLit_some h2
 refine hN ?_; clear hN
 exact ⟨Option.isNone_iff_eq_none.mp h.1,Option.isNone_iff_eq_none.mp h.2.1,k,q,p,rfl⟩
theorem isEB_true {v : Const} (h : isEB v = true) : v = .bytes []:=dt_el h nF fun c h2 =>Const.bytes.elim (motive:=fun v =>∀ c,Const.bytes.elim (motive:=fun _ =>Bool) v c (fun b =>b.isEmpty) = true → v = .bytes []) v c (fun b _ hh =>congrArg Const.bytes (List.isEmpty_iff.mp hh)) c h2
theorem isEBE_true {e : Expr} (h : isEBE e = true) : ∃ k p,e = .Constant (.bytes []) k p:=dt_el h nF fun c h2 =>Expr.Constant.elim (motive_1:=fun e =>∀ c,Expr.Constant.elim (motive_1:=fun _ =>Bool) e c _ = _ → ∃ k p,e = .Constant (.bytes []) k p) e c (fun y k p _ hh =>⟨k,p,congrArg (Expr.Constant · k p) (isEB_true hh)⟩) c h2
theorem compOf_some {gens : List Comprehension} {c : Str × Expr × List Expr} (h : compOf gens = some c) : ∃ p,gens = [⟨.Name c.1 p,c.2.1,c.2.2,0⟩]:=by
 refine bc fun hN =>?_
 refine bind_el h fun d h1 h2 =>?_
 refine hN ?_; clear hN
 rw [one_some h1]
 obtain ⟨t,it,ifs,k⟩:=d
 refine itep_el h2 fun hEqq0 h2 =>?_
 subst hEqq0
 refine map_el h2 fun y h3 hEqq2 =>?_
 subst hEqq2
 obtain ⟨p,rfl⟩:=nameOf_some h3
 exact ⟨p,rfl⟩
theorem callOf_some {e : Expr} {d : Str × List Expr} (h : callOf e = some d) : ∃ p q,e = .Call (.Name d.1 p) d.2 [] q:=dt_el h nS fun i h2 =>Expr.Call.elim (motive_1:=fun e =>∀ c,Expr.Call.elim (motive_1:=fun _ =>Option (Str × List Expr)) e c _ = _ → ∃ p q,e = .Call (.Name d.1 p) d.2 [] q) e i (fun f es ks q _ hh =>ite_el (show (if ks.isEmpty = true then (nameOf f).map fun x =>(x,es) else Option.none) = some d from hh) fun h1 h2 =>map_el h2 fun x h3 e =>by
  subst e
  obtain ⟨p,rfl⟩:=nameOf_some h3
  rw [List.isEmpty_iff.mp h1]
  exact ⟨p,q,rfl⟩) i h2
theorem attrOf_some {e : Expr} {d : Str × Str × Pos} (h : attrOf e = some d) : ∃ q,e = .Attribute (.Name d.1 q) d.2.1 d.2.2:=dt_el h nS fun c h2 =>Expr.Attribute.elim (motive_1:=fun e =>∀ c,Expr.Attribute.elim (motive_1:=fun _ =>Option (Str × Str × Pos)) e c _ = _ → ∃ q,e = .Attribute (.Name d.1 q) d.2.1 d.2.2) e c (fun v m pa _ hh =>map_el (show (nameOf v).map (fun x =>(x,m,pa)) = some d from hh) fun x h3 e =>by
  subst e
  obtain ⟨p,rfl⟩:=nameOf_some h3
  exact ⟨p,rfl⟩) c h2
theorem methOf_some {e : Expr} {d : (Str × Str × Pos) × List Expr × Pos} (h : methOf e = some d) : ∃ q,e = .Call (.Attribute (.Name d.1.1 q) d.1.2.1 d.1.2.2) d.2.1 [] d.2.2:=dt_el h nS fun i h2 =>Expr.Call.elim (motive_1:=fun e =>∀ c,Expr.Call.elim (motive_1:=fun _ =>Option ((Str × Str × Pos) × List Expr × Pos)) e c _ = _ → ∃ q,e = .Call (.Attribute (.Name d.1.1 q) d.1.2.1 d.1.2.2) d.2.1 [] d.2.2) e i (fun f es ks q _ hh =>ite_el (show (if ks.isEmpty = true then (attrOf f).map fun a =>(a,es,q) else Option.none) = some d from hh) fun h1 h2 =>map_el h2 fun x h3 e =>by
  subst e
  obtain ⟨p,rfl⟩:=attrOf_some h3
  rw [List.isEmpty_iff.mp h1]
  exact ⟨p,rfl⟩) i h2
theorem tupOf_some {e : Expr} {ts : List Expr} (h : tupOf e = some ts) : ∃ k p,e = .Tuple ts k p:=dt_el h nS fun c h2 =>Expr.Tuple.elim (motive_1:=fun e =>∀ c,Expr.Tuple.elim (motive_1:=fun _ =>Option (List Expr)) e c _ = _ → ∃ k p,e = .Tuple ts k p) e c (fun a k p _ hh =>⟨k,p,congrArg (Expr.Tuple · k p) (Option.some.inj hh)⟩) c h2
theorem addOf_some {e : Expr} {ab : Expr × Expr} (h : addOf e = some ab) : ∃ p,e = .BinOp ab.1 .Add ab.2 p:=dt_el h nS fun c h2 =>Expr.BinOp.elim (motive_1:=fun e =>∀ c,Expr.BinOp.elim (motive_1:=fun _ =>Option (Expr × Expr)) e c _ = _ → ∃ p,e = .BinOp ab.1 .Add ab.2 p) e c (fun a o b p _ hh =>itep_el (show (if o = .Add then some (a,b) else Option.none) = some ab from hh) fun e1 e2 =>⟨p,by rw [e1,← Option.some.inj e2]⟩) c h2
theorem isNilL_true {e : Expr} (h : isNilL e = true) : ∃ p,e = .List [] p:=dt_el h nF fun c h2 =>Expr.List.elim (motive_1:=fun e =>∀ c,Expr.List.elim (motive_1:=fun _ =>Bool) e c _ = _ → ∃ p,e = .List [] p) e c (fun a p _ hh =>⟨p,congrArg (Expr.List · p) (List.isEmpty_iff.mp hh)⟩) c h2
theorem intsV_inv : ∀ {vs : List V} {ns : List Int},intsV vs = some ns → vs = ns.map .int
 | [],ns,e =>by obtain rfl:=Option.some.inj e; rfl
 | v :: r,ns,e =>by
  cases v with
  | int i =>
   refine map_el e fun ms e1 e2 =>?_
   subst e2
   rw [intsV_inv e1]; rfl
  | _ =>exact nS e
end Mine
end
section
namespace Mine
open PySem PySem.W PyProof.Rows PySem.Calls PySem.SeqAt
inductive HT (s s' : Shared) : Prop
 | mk (h' : Heap) (t : Nat) (e : s' = { s with heap:=h',toks:=t }) : HT s s'
inductive RSeq (P : Addr → Array Value → Prop) (R : List Value → Prop) (v : Value) : Prop
 | mk (a : Addr) (us : List Value) (e : v = .ref a) (h : P a us.toArray) (r : R us) : RSeq P R v
inductive RCons (R : Value → Prop) (T : List Value → Prop) (us : List Value) : Prop
 | mk (v : Value) (r : List Value) (e : us = v :: r) (h : R v) (t : T r) : RCons R T us
mutual
noncomputable def Rep (h : Heap) : V → Value → Prop
 | .none,v =>v = .none
 | .bool b,v =>v = .bool b
 | .int i,v =>∃ t,v = .int i t
 | .str x,v =>∃ t,v = .str x t
 | .bytes ks,v =>∃ b t,v = .bytes b t ∧ KBw.bInts b = ks
 | .list xs,v =>RSeq h.IsList (Reps h xs) v
 | .tup xs,v =>RSeq (IsTup h) (Reps h xs) v
noncomputable def Reps (h : Heap) : List V → List Value → Prop
 | [],us =>us = []
 | x :: xs,us =>RCons (Rep h x) (Reps h xs) us
end
noncomputable def SeqKeep (h h' : Heap) : Prop:=∀ b o,h.get? b = some o → (∃ items n,o.data = .seq items n) → h'.get? b = some o
theorem SeqKeep.of {h h' : Heap} (k : ∀ b o,h.get? b = some o → h'.get? b = some o) : SeqKeep h h':=fun b o e _ =>k b o e
theorem SeqKeep.trans {h h' h'' : Heap} (a : SeqKeep h h') (b : SeqKeep h' h'') : SeqKeep h h'':=fun x o e d =>b x o (a x o e d) d
mutual
theorem Rep.mono {h h' : Heap} (k : SeqKeep h h') : ∀ {x : V} {v : Value},Rep h x v → Rep h' x v
 | .none,_,r =>r
 | .bool _,_,r =>r
 | .int _,_,r =>r
 | .str _,_,r =>r
 | .bytes _,_,r =>r
 | .list xs,v,r =>by
  unfold Rep at r ⊢
  refine bc fun hN =>?_
  obtain ⟨a,us,e,⟨o,ho,hc,n,hd⟩,hr⟩:=r
  refine hN ?_; clear hN
  exact ⟨a,us,e,⟨o,k a o ho ⟨_,n,hd⟩,hc,n,hd⟩,Reps.mono k hr⟩
 | .tup xs,v,r =>by
  unfold Rep at r ⊢
  refine bc fun hN =>?_
  obtain ⟨a,us,e,⟨o,ho,hc,n,hd⟩,hr⟩:=r
  refine hN ?_; clear hN
  exact ⟨a,us,e,⟨o,k a o ho ⟨_,n,hd⟩,hc,n,hd⟩,Reps.mono k hr⟩
theorem Reps.mono {h h' : Heap} (k : SeqKeep h h') : ∀ {xs : List V} {us : List Value},Reps h xs us → Reps h' xs us
 | [],_,r =>by unfold Reps at r ⊢; exact r
 | _ :: _,_,r =>by
  unfold Reps at r ⊢
  refine bc fun hN =>?_
  obtain ⟨v,r',e,h1,h2⟩:=r
  refine hN ?_; clear hN
  exact ⟨v,r',e,Rep.mono k h1,Reps.mono k h2⟩
end
theorem Reps.nil {h : Heap} : Reps h [] []:=by unfold Reps; rfl
theorem Reps.cons {h : Heap} {x : V} {v : Value} {xs : List V} {us : List Value} (a : Rep h x v) (b : Reps h xs us) : Reps h (x :: xs) (v :: us):=by unfold Reps; exact ⟨v,us,rfl,a,b⟩
theorem Reps.length {h : Heap} : ∀ {xs : List V} {us : List Value},Reps h xs us → us.length = xs.length
 | [],_,r =>by unfold Reps at r; subst r; rfl
 | _ :: _,_,r =>by
  unfold Reps at r
  obtain ⟨v,r',rfl,_,h2⟩:=r
  simp [Reps.length h2]
theorem Reps.append {h : Heap} : ∀ {xs : List V} {us : List Value} {ys : List V} {ws : List Value},Reps h xs us → Reps h ys ws → Reps h (xs ++ ys) (us ++ ws)
 | [],_,_,_,a,b =>by unfold Reps at a; subst a; exact b
 | _ :: _,_,_,_,a,b =>by
  unfold Reps at a
  refine bc fun hN =>?_
  obtain ⟨v,r',rfl,h1,h2⟩:=a
  refine hN ?_; clear hN
  exact .cons h1 (Reps.append h2 b)
theorem Reps.get {h : Heap} : ∀ {xs : List V} {us : List Value} {i : Nat} {x : V},Reps h xs us → xs[i]? = some x → ∃ v,us[i]? = some v ∧ Rep h x v
 | [],_,_,_,_,e =>by simp at e
 | _ :: _,_,0,_,r,e =>by
  unfold Reps at r
  refine bc fun hN =>?_
  obtain ⟨v,r',rfl,h1,_⟩:=r
  refine hN ?_; clear hN
  simp only [List.getElem?_cons_zero,Option.some.injEq] at e
  subst e
  exact ⟨v,rfl,h1⟩
 | _ :: _,_,i + 1,_,r,e =>by
  unfold Reps at r
  refine bc fun hN =>?_
  obtain ⟨v,r',rfl,_,h2⟩:=r
  refine hN ?_; clear hN
  simp only [List.getElem?_cons_succ] at e ⊢
  exact Reps.get h2 e
theorem Reps.drop {h : Heap} : ∀ {xs : List V} {us : List Value} (n : Nat),Reps h xs us → Reps h (xs.drop n) (us.drop n)
 | _,_,0,r =>r
 | [],_,n + 1,r =>by unfold Reps at r; subst r; exact .nil
 | _ :: _,_,n + 1,r =>by
  unfold Reps at r
  obtain ⟨v,r',rfl,_,h2⟩:=r
  exact Reps.drop n h2
theorem Reps.take {h : Heap} : ∀ {xs : List V} {us : List Value} (n : Nat),Reps h xs us → Reps h (xs.take n) (us.take n)
 | _,_,0,_ =>.nil
 | [],_,n + 1,r =>by unfold Reps at r; subst r; exact .nil
 | _ :: _,_,n + 1,r =>by
  unfold Reps at r
  refine bc fun hN =>?_
  obtain ⟨v,r',rfl,h1,h2⟩:=r
  refine hN ?_; clear hN
  exact .cons h1 (Reps.take n h2)
theorem Reps.reverse {h : Heap} : ∀ {xs : List V} {us : List Value},Reps h xs us → Reps h xs.reverse us.reverse
 | [],_,r =>by unfold Reps at r; subst r; exact .nil
 | _ :: _,_,r =>by
  unfold Reps at r
  refine bc fun hN =>?_
  obtain ⟨v,r',rfl,h1,h2⟩:=r
  refine hN ?_; clear hN
  simp only [List.reverse_cons,List.reverse_cons]
  exact (Reps.reverse h2).append (.cons h1 .nil)
theorem Reps.ints {h : Heap} : ∀ {xs : List V} {us : List Value} {ns : List Int},Reps h xs us → intsV xs = some ns → IntsAre us ns
 | [],_,ns,r,e =>by
  unfold Reps at r; subst r
  obtain rfl:=Option.some.inj e
  exact .nil
 | x :: xs,_,ns,r,e =>by
  unfold Reps at r
  obtain ⟨v,r',rfl,h1,h2⟩:=r
  cases x with
  | int i =>
   unfold Rep at h1
   obtain ⟨t,rfl⟩:=h1
   refine map_el e fun ms e1 e2 =>?_
   subst e2
   exact IntsAre.cons i t (Reps.ints h2 e1)
  | _ =>exact nS e
theorem Reps.of_ints {h : Heap} : ∀ {us : List Value} {ns : List Int},IntsAre us ns → Reps h (ns.map .int) us
 | _,_,.nil =>.nil
 | _,_,IntsAre.cons i t r =>Reps.cons (by unfold Rep; exact ⟨t,rfl⟩) (Reps.of_ints r)
noncomputable def HOk (H : List Addr) (h : Heap) : Prop:=∀ a ∈ H,∃ o,h.get? a = some o
theorem HOk.mono {H : List Addr} {h h' : Heap} (x : HOk H h) (k : ∀ b o,h.get? b = some o → h'.get? b = some o) : HOk H h':=fun a m =>let ⟨o,e⟩:=x a m; ⟨o,k a o e⟩
theorem HOk.fresh {H : List Addr} {h : Heap} (x : HOk H h) : h.objs.size ∉ H:=fun m =>by
 obtain ⟨o,e⟩:=x _ m
 exact absurd (Heap.lt_size e) (Nat.lt_irrefl _)
theorem hide_keep {H : List Addr} {h h' : Heap} (k : ∀ b o,h.get? b = some o → h'.get? b = some o) : ∀ b o,(hideAll h H).get? b = some o → (hideAll h' H).get? b = some o:=fun b o e =>by
 refine hideAll_get H (k b o (of_hideAll H e)) fun m =>?_
 rw [hideAll_none H m] at e; exact nS e
theorem hide_sub {H H' : List Addr} {h : Heap} (k : ∀ a ∈ H',a ∈ H) : ∀ b o,(hideAll h H).get? b = some o → (hideAll h H').get? b = some o:=fun b o e =>by
 refine hideAll_get H' (of_hideAll H e) fun m =>?_
 rw [hideAll_none H (k b m)] at e; exact nS e
theorem hide_off {H : List Addr} {h : Heap} {b : Addr} {o : Obj} (e : (hideAll h H).get? b = some o) : b ∉ H:=fun m =>by
 rw [hideAll_none H m] at e; exact nS e
noncomputable abbrev Kp (s s' : Shared) : Prop:=Keeps s s'
theorem Kp.refl (s : Shared) : Kp s s:=⟨s.heap,s.toks,rfl,fun _ _ e =>e⟩
theorem Kp.trans {s s' s'' : Shared} (a : Kp s s') (b : Kp s' s'') : Kp s s'':=by
 obtain ⟨h,t,rfl,k⟩:=a
 obtain ⟨h',t',rfl,k'⟩:=b
 exact ⟨h',t',rfl,fun x o e =>k' x o (k x o e)⟩
theorem Kp.keep {s s' : Shared} (a : Kp s s') : ∀ b o,s.heap.get? b = some o → s'.heap.get? b = some o:=by
 obtain ⟨h,t,rfl,k⟩:=a
 exact k
theorem Kp.toks {s : Shared} (t : Nat) : Kp s { s with toks:=t }:=⟨s.heap,t,rfl,fun _ _ e =>e⟩
theorem Kp.mk' {s : Shared} {h' : Heap} {t : Nat} (k : ∀ b o,s.heap.get? b = some o → h'.get? b = some o) : Kp s { s with heap:=h',toks:=t }:=⟨h',t,rfl,k⟩
theorem Kp.push {s : Shared} (o : Obj) : Kp s { s with heap:=s.heap.push o }:=⟨s.heap.push o,s.toks,rfl,fun _ _ e =>Heap.get?_push_of_some _ e⟩
theorem Rep.kp {H : List Addr} {s s' : Shared} {x : V} {v : Value} (r : Rep (hideAll s.heap H) x v) (k : Kp s s') : Rep (hideAll s'.heap H) x v:=r.mono (.of (hide_keep k.keep))
theorem Reps.kp {H : List Addr} {s s' : Shared} {x : List V} {v : List Value} (r : Reps (hideAll s.heap H) x v) (k : Kp s s') : Reps (hideAll s'.heap H) x v:=r.mono (.of (hide_keep k.keep))
theorem HOk.kp {H : List Addr} {s s' : Shared} (x : HOk H s.heap) (k : Kp s s') : HOk H s'.heap:=x.mono k.keep
theorem unhide_list {H : List Addr} {h : Heap} {a : Addr} {us : Array Value} (l : (hideAll h H).IsList a us) : h.IsList a us:=let ⟨o,e,r⟩:=l; ⟨o,of_hideAll H e,r⟩
theorem unhide_tup {H : List Addr} {h : Heap} {a : Addr} {us : Array Value} (l : IsTup (hideAll h H) a us) : IsTup h a us:=let ⟨o,e,r⟩:=l; ⟨o,of_hideAll H e,r⟩
theorem rep_new_list {H : List Addr} {s : Shared} {xs : List V} {us : List Value} (ho : HOk H s.heap) (r : Reps (hideAll s.heap H) xs us) :
  Rep (hideAll (s.heap.push { cls:=.type "list",data:=.seq us.toArray }) H) (.list xs) (.ref s.heap.objs.size):=by
 unfold Rep
 exact ⟨_,us,rfl,⟨_,hideAll_get H (Heap.get?_push_size _ rfl) ho.fresh,rfl,_,rfl⟩,Reps.kp r (Kp.push _)⟩
theorem rep_new_tup {H : List Addr} {s : Shared} {xs : List V} {us : List Value} (ho : HOk H s.heap) (r : Reps (hideAll s.heap H) xs us) :
  Rep (hideAll (s.heap.push { cls:=.type "tuple",data:=.seq us.toArray }) H) (.tup xs) (.ref s.heap.objs.size):=by
 unfold Rep
 exact ⟨_,us,rfl,⟨_,hideAll_get H (Heap.get?_push_size _ rfl) ho.fresh,rfl,_,rfl⟩,Reps.kp r (Kp.push _)⟩
structure Room (A : Around) (n : Nat) : Prop where
 hh : A.handled = none
 depth : A.depth + n < 600
 units : A.units + 8 * n < 9000
theorem Room.mono {A : Around} {n m : Nat} (r : Room A n) (h : m ≤ n) : Room A m:=⟨r.hh,by have:=r.depth; lia,by have:=r.units; lia⟩
theorem Room.u {A : Around} {n : Nat} (r : Room A n) : A.units + 64 < cLine:=by have:=r.units; show _ < 9900; lia
theorem Room.u' {A : Around} {n : Nat} (r : Room A n) : A.units < cLine:=by have:=r.units; show _ < 9900; lia
theorem Room.d {A : Around} {n : Nat} (r : Room A n) : A.depth < recursionLimit:=by have:=r.depth; show _ < 1000; lia
noncomputable def Post (H : List Addr) (s : Shared) (x : V) (Q : Value → Shared → Prop) : Prop:=∀ u s',Kp s s' → Rep (hideAll s'.heap H) x u → Q u s'
theorem Post.int {H : List Addr} {s : Shared} {i : Int} {Q : Value → Shared → Prop} (q : Post H s (.int i) Q) (t k : Nat) : Q (.int i t) { s with toks:=k }:=q _ _ (Kp.toks k) (by unfold Rep; exact ⟨t,rfl⟩)
theorem Post.int0 {H : List Addr} {s : Shared} {i : Int} {Q : Value → Shared → Prop} (q : Post H s (.int i) Q) (t : Nat) : Q (.int i t) s:=q _ _ (Kp.refl s) (by unfold Rep; exact ⟨t,rfl⟩)
theorem Post.bool {H : List Addr} {s : Shared} {b : Bool} {Q : Value → Shared → Prop} (q : Post H s (.bool b) Q) : Q (.bool b) s:=q _ _ (Kp.refl s) (by unfold Rep; rfl)
theorem Post.none {H : List Addr} {s : Shared} {Q : Value → Shared → Prop} (q : Post H s .none Q) : Q .none s:=q _ _ (Kp.refl s) (by unfold Rep; rfl)
theorem Post.bytes {H : List Addr} {s : Shared} {ks : List Int} {b : Array UInt8} {Q : Value → Shared → Prop} (q : Post H s (.bytes ks) Q) (e : KBw.bInts b = ks) (t k : Nat) : Q (.bytes b t) { s with toks:=k }:=q _ _ (Kp.toks k) (by unfold Rep; exact ⟨b,t,rfl,e⟩)
theorem Post.str {H : List Addr} {s : Shared} {x : Str} {Q : Value → Shared → Prop} (q : Post H s (.str x) Q) (t k : Nat) : Q (.str x t) { s with toks:=k }:=q _ _ (Kp.toks k) (by unfold Rep; exact ⟨t,rfl⟩)
theorem Post.after {H : List Addr} {s s' : Shared} {x : V} {Q : Value → Shared → Prop} (q : Post H s x Q) (k : Kp s s') : Post H s' x Q:=fun u s'' k' r =>q u s'' (k.trans k') r
theorem lid_le : lid ≤ sizeLine:=by decide
section
variable {prog : Program} {w : World} {A : Around} {E : Value → Shared → Prop} {s : Shared} {H : List Addr} {Q : Value → Shared → Prop}
theorem add_list_ok {xs ys : List V} {u v : Value} (ho : HOk H s.heap) (hx : Rep (hideAll s.heap H) (.list xs) u) (hy : Rep (hideAll s.heap H) (.list ys) v) (hz : xs.length + ys.length ≤ lid)
  (q : Post H s (.list (xs ++ ys)) Q) : wpAny (model prog w) A (binaryOp .Add u v) Q E s:=by
 unfold Rep at hx hy
 refine bc fun hN =>?_
 obtain ⟨l,us,rfl,hl,hr⟩:=hx
 obtain ⟨b,ws,rfl,hb,hr'⟩:=hy
 have hl:=unhide_list hl
 have hb:=unhide_list hb
 obtain ⟨⟨cls,dd,data,sl⟩,h1,hc,n,hd⟩:=id hl
 obtain ⟨⟨cls2,dd2,data2,sl2⟩,h2,hc2,n2,hd2⟩:=id hb
 refine hN ?_; clear hN
 simp only at hc hd hc2 hd2
 subst hc hd hc2 hd2
 have e : us.toArray ++ ws.toArray = (us ++ ws).toArray:=by simp
 have hsz : us.toArray.size + ws.toArray.size ≤ sizeLine:=by
  have:=hr.length; have:=hr'.length; have:=lid_le
  simp only [List.size_toArray]; lia
 refine concat_meets ⟨_,h1,rfl⟩ ⟨_,h2,rfl⟩ noFill_list_add seq_list_add PySem.F.slot_list_add PySem.F.entry_list_add (PySem.F.args_list_add_2 _ _) (list_addW l b us.toArray ws.toArray n n2 dd dd2 sl sl2 hsz) ⟨h1,h2,?_⟩
 rw [e]
 exact q _ _ (Kp.push _) (rep_new_list ho (hr.append hr'))
theorem mul_list_ok {c : Int} {x : Int} {k : Tok} {u : Value} (ho : HOk H s.heap) (hx : Rep (hideAll s.heap H) (.list [.int c]) u) (h0 : 0 ≤ x) (h1 : x ≤ 1)
  (q : Post H s (.list (List.replicate x.toNat (.int c))) Q) : wpAny (model prog w) A (binaryOp .Mult u (.int x k)) Q E s:=by
 unfold Rep at hx
 refine bc fun hN =>?_
 obtain ⟨l,us,rfl,hl,hr⟩:=hx
 have hl:=unhide_list hl
 obtain ⟨⟨cls,d,data,sl⟩,ho1,hcl,n,hd⟩:=id hl
 refine hN ?_; clear hN
 simp only at hcl hd
 subst hcl hd
 have hlen : us.length = 1:=by simpa using hr.length
 have hn : x.toNat ≤ 1:=by lia
 have hsz' : us.toArray.size * x.toNat ≤ 256:=by
  rw [List.size_toArray,hlen]; lia
 have hlong : ¬ Builtin.List.listTooLong (us.toArray.size * x.toNat) = true:=by
  generalize us.toArray.size * x.toNat = N at hsz'
  simp [Builtin.List.listTooLong,sizeLine]
  lia
 refine wpAny_binaryOp_repeat_ref (T:="list") (U:="int") (by decide) ⟨_,ho1,rfl⟩ (fun s' =>typeIs_int s' x k) noFill_list_mul PySem.F.fills_int_mul PySem.F.slot_int_rmul repeat_list PySem.F.slot_int_index.lookup
  (call_meets PySem.F.slot_int_rmul (typeIs_int s x k) PySem.F.entry_int_rmul (PySem.F.args_int_rmul_2 _ _) (lm_int_rmul_list_any x k l us.toArray n d sl)
   ⟨ho1,rfl,⟨_,ho1,rfl⟩,call_meets PySem.F.slot_list_mul ⟨_,ho1,rfl⟩ PySem.F.entry_list_mul (PySem.F.args_list_mul_2 _ _)
    (lm_list_mul_any l us.toArray n d sl x k (by simp [Builtin.List.listFitsIndex]; lia) (by lia) hlong)
    ⟨ho1,?_⟩⟩)
 rw [listMul_foldl_if]
 have hrep : Reps (hideAll s.heap H) (List.replicate x.toNat (.int c)) (List.replicate x.toNat us).flatten:=by
  match hm : x.toNat,hn with
  | 0,_ =>simpa using Reps.nil
  | 1,_ =>simpa using hr
 exact q _ _ (Kp.push _) (rep_new_list ho hrep)
theorem int2_some {a b z : V} {K : Int → Int → Option V} (e : int2 a b K = some z) : ∃ x y,a = .int x ∧ b = .int y ∧ K x y = some z:=by
 refine bc fun hN =>?_
 refine bind_el e fun x hx e =>?_
 refine bind_el e fun y hy e =>?_
 refine hN ?_; clear hN
 exact ⟨x,y,intOf_some hx,intOf_some hy,e⟩
theorem rep_int {h : Heap} {x : Int} {u : Value} (r : Rep h (.int x) u) : ∃ t,u = .int x t:=by unfold Rep at r; exact r
theorem addV_ok {x y z : V} {u v : Value} (e : addV x y = some z) (ho : HOk H s.heap) (hx : Rep (hideAll s.heap H) x u) (hy : Rep (hideAll s.heap H) y v)
  (q : Post H s z Q) : wpAny (model prog w) A (binaryOp .Add u v) Q E s:=by
 cases x with
 | int a =>
  refine bind_el e fun b hb e =>?_
  obtain rfl:=intOf_some hb
  obtain rfl:=Option.some.inj e
  obtain ⟨t,rfl⟩:=rep_int hx
  obtain ⟨t',rfl⟩:=rep_int hy
  exact wpAny_add_int (q.int _ _)
 | bytes a =>
  refine bind_el e fun b hb e =>?_
  obtain rfl:=bytesOf_some hb
  refine itep_el e fun hz e =>?_
  obtain rfl:=Option.some.inj e
  unfold Rep at hx hy
  obtain ⟨b,t,rfl,h1⟩:=hx
  obtain ⟨c,t',rfl,h2⟩:=hy
  exact KBa.add_K h1 h2 (Nat.le_trans hz (by decide)) fun t' k h' =>q.bytes h' t' k
 | list a =>
  refine bind_el e fun b hb e =>?_
  obtain rfl:=listOf_some hb
  refine itep_el e fun hz e =>?_
  obtain rfl:=Option.some.inj e
  exact add_list_ok ho hx hy hz q
 | str a =>
  refine bind_el e fun b hb e =>?_
  obtain rfl:=strOf_some hb
  refine itep_el e fun hz e =>?_
  obtain rfl:=Option.some.inj e
  unfold Rep at hx hy
  obtain ⟨t,rfl⟩:=hx
  obtain ⟨t',rfl⟩:=hy
  exact PyProof.Rows.add_str (fun t' k =>q.str t' k) (Nat.le_trans hz lid_le)
 | _ =>cases e
theorem mulV_ok {x y z : V} {u v : Value} (e : mulV x y = some z) (ho : HOk H s.heap) (hx : Rep (hideAll s.heap H) x u) (hy : Rep (hideAll s.heap H) y v)
  (q : Post H s z Q) : wpAny (model prog w) A (binaryOp .Mult u v) Q E s:=by
 cases x with
 | int a =>
  refine bind_el e fun b hb e =>?_
  obtain rfl:=intOf_some hb
  refine itep_el e fun hz e =>?_
  obtain rfl:=Option.some.inj e
  obtain ⟨t,rfl⟩:=rep_int hx
  obtain ⟨t',rfl⟩:=rep_int hy
  simp only [small,Bool.and_eq_true,decide_eq_true_eq] at hz
  exact PySem.P.mul_int (q.int _ _) (IntMulOk.of_left (intBits_le (by lia)))
 | list a =>
  refine bind_el e fun b hb e =>?_
  obtain rfl:=one_some hb
  refine bind_el e fun c hc e =>?_
  obtain rfl:=intOf_some hc
  refine bind_el e fun d hd e =>?_
  obtain rfl:=intOf_some hd
  refine itep_el e fun hz e =>?_
  obtain rfl:=Option.some.inj e
  obtain ⟨t',rfl⟩:=rep_int hy
  exact mul_list_ok ho hx hz.1 hz.2 q
 | _ =>cases e
theorem binV_ok {op : Operator} {x y z : V} {u v : Value} (e : binV op x y = some z) (ho : HOk H s.heap) (hx : Rep (hideAll s.heap H) x u) (hy : Rep (hideAll s.heap H) y v)
  (q : Post H s z Q) : wpAny (model prog w) A (binaryOp op u v) Q E s:=by
 cases op with
 | Add =>exact addV_ok e ho hx hy q
 | Mult =>exact mulV_ok e ho hx hy q
 | Sub =>
  refine bc fun hN =>?_
  obtain ⟨a,b,rfl,rfl,e⟩:=int2_some e
  obtain ⟨t,rfl⟩:=rep_int hx
  obtain ⟨t',rfl⟩:=rep_int hy
  refine hN ?_; clear hN
  obtain rfl:=Option.some.inj e
  exact PyProof.Rows.sub_int' (q.int _ _)
 | FloorDiv =>
  refine bc fun hN =>?_
  obtain ⟨a,b,rfl,rfl,e⟩:=int2_some e
  obtain ⟨t,rfl⟩:=rep_int hx
  obtain ⟨t',rfl⟩:=rep_int hy
  refine itep_el e fun hz e =>?_
  refine hN ?_; clear hN
  obtain rfl:=Option.some.inj e
  exact PyProof.Rows.floordiv_int hz.1 (q.int _ _) (Or.inl (PyProof.noPylong_small (of_decide_eq_true hz.2)))
 | Mod =>
  refine bc fun hN =>?_
  obtain ⟨a,b,rfl,rfl,e⟩:=int2_some e
  obtain ⟨t,rfl⟩:=rep_int hx
  obtain ⟨t',rfl⟩:=rep_int hy
  refine itep_el e fun hz e =>?_
  refine hN ?_; clear hN
  obtain rfl:=Option.some.inj e
  exact PyProof.Rows.mod_int' hz (q.int _ _)
 | Pow =>
  refine bc fun hN =>?_
  obtain ⟨a,b,rfl,rfl,e⟩:=int2_some e
  obtain ⟨t,rfl⟩:=rep_int hx
  obtain ⟨t',rfl⟩:=rep_int hy
  refine itep_el e fun hz e =>?_
  refine hN ?_; clear hN
  cases e
  have h3:=of_decide_eq_true hz.2.2
  exact PyProof.Rows.pow_int_small hz.1 (by lia) (by lia) (q.int _ _)
 | LShift =>
  refine bc fun hN =>?_
  obtain ⟨a,b,rfl,rfl,e⟩:=int2_some e
  obtain ⟨t,rfl⟩:=rep_int hx
  obtain ⟨t',rfl⟩:=rep_int hy
  refine itep_el e fun hz e =>?_
  refine hN ?_; clear hN
  obtain rfl:=Option.some.inj e
  have h3:=of_decide_eq_true hz.2.2
  exact PyProof.Rows.lshift_int_small hz.1 (by lia) (by lia) (q.int _ _)
 | RShift =>
  refine bc fun hN =>?_
  obtain ⟨a,b,rfl,rfl,e⟩:=int2_some e
  obtain ⟨t,rfl⟩:=rep_int hx
  obtain ⟨t',rfl⟩:=rep_int hy
  refine itep_el e fun hz e =>?_
  refine hN ?_; clear hN
  obtain rfl:=Option.some.inj e
  exact PyProof.Rows.rshift_int hz (q.int _ _)
 | BitAnd =>
  refine bc fun hN =>?_
  obtain ⟨a,b,rfl,rfl,e⟩:=int2_some e
  obtain ⟨t,rfl⟩:=rep_int hx
  obtain ⟨t',rfl⟩:=rep_int hy
  refine hN ?_; clear hN
  obtain rfl:=Option.some.inj e
  exact PyProof.Rows.and_int (q.int _ _)
 | BitOr =>
  refine bc fun hN =>?_
  obtain ⟨a,b,rfl,rfl,e⟩:=int2_some e
  obtain ⟨t,rfl⟩:=rep_int hx
  obtain ⟨t',rfl⟩:=rep_int hy
  refine hN ?_; clear hN
  obtain rfl:=Option.some.inj e
  exact PyProof.Rows.or_int (q.int _ _)
 | _ =>cases e
end
theorem Reps.size {h : Heap} {xs : List V} {us : List Value} (r : Reps h xs us) : us.toArray.size = xs.length:=by rw [List.size_toArray]; exact r.length
theorem bInts_inj {b c : Array UInt8} (h : KBw.bInts b = KBw.bInts c) : b = c:=by
 unfold KBw.bInts at h
 have : b.toList = c.toList:=by
  refine List.map_inj_right (fun x y e =>?_) |>.mp h
  exact UInt8.toNat_inj.mp (Int.ofNat.inj e)
 exact Array.toList_inj.mp this
theorem bInts_beq {b c : Array UInt8} {ks ls : List Int} (h : KBw.bInts b = ks) (h' : KBw.bInts c = ls) : (b.toList == c.toList) = (ks == ls):=by
 subst h h'
 rw [Bool.eq_iff_iff,beq_iff_eq,beq_iff_eq]
 exact ⟨fun e =>by rw [Array.toList_inj.mp e],fun e =>by rw [bInts_inj e]⟩
section
variable {prog : Program} {w : World} {A : Around} {E : Value → Shared → Prop} {s : Shared} {H : List Addr}
theorem eqI_at {h : Heap} {x y : V} {r : Bool} {u v : Value} (e : eqI x y = some r) (hx : Rep h x u) (hy : Rep h y v) : EqAt A s u v r:=by
 cases x with
 | int a =>
  refine map_el e fun b h1 h2 =>?_
  clear e
  obtain rfl:=intOf_some h1
  subst h2
  unfold Rep at hx hy; obtain ⟨t,rfl⟩:=hx; obtain ⟨t',rfl⟩:=hy
  exact EqAt.int_int _ _ _ _
 | str a =>
  refine map_el e fun b h1 h2 =>?_
  clear e
  obtain rfl:=strOf_some h1
  subst h2
  unfold Rep at hx hy; obtain ⟨t,rfl⟩:=hx; obtain ⟨t',rfl⟩:=hy
  exact EqAt.str_str _ _ _ _
 | bytes a =>
  refine map_el e fun b h1 h2 =>?_
  clear e
  obtain rfl:=bytesOf_some h1
  subst h2
  unfold Rep at hx hy; obtain ⟨b,t,rfl,h1⟩:=hx; obtain ⟨c,t',rfl,h2⟩:=hy
  intro prog w E Q hq
  refine eqBool_bytes ?_
  rw [← bInts_beq h1 h2] at hq
  have : decide (b.toList = c.toList) = (b.toList == c.toList):=by rw [Bool.eq_iff_iff]; simp
  rw [this]; exact hq
 | _ =>exact nS e
noncomputable def eAt (xs ys : List V) (j : Nat) : Bool:=match xs[j]?,ys[j]? with
 | some x,some y =>(eqI x y).getD true
 | _,_ =>true
theorem eAt_all : ∀ {xs ys : List V} {r : Bool},xs.length = ys.length → eqVs xs ys = some r → (List.range xs.length).all (eAt xs ys) = r
 | [],[],r,_,e =>by obtain rfl:=Option.some.inj e; rfl
 | x :: xs,y :: ys,r,hl,e =>by
  refine bind_el e fun p h1 e =>?_
  refine bind_el e fun q h2 e =>?_
  obtain rfl:=Option.some.inj e
  have ih:=eAt_all (by simpa using hl) h2
  simp only [List.length_cons,List.range_succ_eq_map,List.all_cons,List.all_map]
  have e0 : eAt (x :: xs) (y :: ys) 0 = p:=by show (eqI x y).getD true = p; rw [h1]; rfl
  have e1 : (eAt (x :: xs) (y :: ys) ∘ Nat.succ) = eAt xs ys:=by
   funext j; rfl
  simp only [e0,e1,ih]
 | [],_ :: _,_,hl,_ =>by simp at hl
 | _ :: _,[],_,hl,_ =>by simp at hl
theorem eqVs_def : ∀ {xs ys : List V} {r : Bool} {j : Nat} {x y : V},eqVs xs ys = some r → xs[j]? = some x → ys[j]? = some y → ∃ b,eqI x y = some b
 | a :: xs,b :: ys,r,0,x,y,e,h1,h2 =>by
  refine bind_el e fun p h3 e =>?_
  obtain rfl:=Option.some.inj h1
  obtain rfl:=Option.some.inj h2
  exact ⟨p,h3⟩
 | a :: xs,b :: ys,r,j + 1,x,y,e,h1,h2 =>by
  refine bind_el e fun p h3 e =>?_
  refine bind_el e fun q h4 e =>?_
  exact eqVs_def h4 h1 h2
 | [],_,_,_,_,_,_,h1,_ =>by simp at h1
 | _ :: _,[],_,_,_,_,_,_,h2 =>by simp at h2
theorem eqVs_at {h : Heap} {xs ys : List V} {us ws : List Value} {r : Bool} (e : eqVs xs ys = some r) (hx : Reps h xs us) (hy : Reps h ys ws) :
  ∀ j (h1 : j < us.toArray.size) (h2 : j < ws.toArray.size),EqAt A s us.toArray[j] ws.toArray[j] (eAt xs ys j):=fun j h1 h2 =>by
 have l1 : j < xs.length:=by have:=hx.length; rw [List.size_toArray] at h1; lia
 have l2 : j < ys.length:=by have:=hy.length; rw [List.size_toArray] at h2; lia
 have g1 : xs[j]? = some xs[j]:=List.getElem?_eq_getElem l1
 have g2 : ys[j]? = some ys[j]:=List.getElem?_eq_getElem l2
 refine bc fun hN =>?_
 obtain ⟨v,e1,r1⟩:=hx.get g1
 obtain ⟨v',e2,r2⟩:=hy.get g2
 obtain ⟨b,eb⟩:=eqVs_def e g1 g2
 refine hN ?_; clear hN
 have : eAt xs ys j = b:=by unfold eAt; rw [g1,g2]; show (eqI _ _).getD true = b; rw [eb]; rfl
 rw [this]
 have u1 : us.toArray[j] = v:=by
  have : us[j]? = some v:=e1
  rw [List.getElem_toArray]
  rw [List.getElem?_eq_getElem (by rw [List.size_toArray] at h1; exact h1)] at this
  exact Option.some.inj this
 have u2 : ws.toArray[j] = v':=by
  have : ws[j]? = some v':=e2
  rw [List.getElem_toArray]
  rw [List.getElem?_eq_getElem (by rw [List.size_toArray] at h2; exact h2)] at this
  exact Option.some.inj this
 simp only [u1,u2]
 exact eqI_at eb r1 r2
variable {Q : Value → Shared → Prop}
theorem eqI_ok {x y : V} {r : Bool} {u v : Value} (e : eqI x y = some r) (hx : Rep (hideAll s.heap H) x u) (hy : Rep (hideAll s.heap H) y v)
  (q : Post H s (.bool r) Q) : wpAny (model prog w) A (compareOp .Eq u v) Q E s:=by
 cases x with
 | int a =>
  refine map_el e fun b h1 h2 =>?_
  clear e
  obtain rfl:=intOf_some h1
  subst h2
  unfold Rep at hx hy; obtain ⟨t,rfl⟩:=hx; obtain ⟨t',rfl⟩:=hy
  exact PySem.P.eq_int q.bool
 | str a =>
  refine map_el e fun b h1 h2 =>?_
  clear e
  obtain rfl:=strOf_some h1
  subst h2
  unfold Rep at hx hy; obtain ⟨t,rfl⟩:=hx; obtain ⟨t',rfl⟩:=hy
  exact PyProof.Rows.eq_str q.bool
 | bytes a =>
  refine map_el e fun b h1 h2 =>?_
  clear e
  obtain rfl:=bytesOf_some h1
  subst h2
  unfold Rep at hx hy; obtain ⟨b,t,rfl,h1⟩:=hx; obtain ⟨c,t',rfl,h2⟩:=hy
  refine eq_bytes ?_
  rw [bInts_beq h1 h2]; exact q.bool
 | _ =>exact nS e
theorem eqV_ok {x y : V} {r : Bool} {u v : Value} (hu : A.units + 64 < cLine) (e : eqV x y = some r) (hx : Rep (hideAll s.heap H) x u) (hy : Rep (hideAll s.heap H) y v)
  (q : Post H s (.bool r) Q) : wpAny (model prog w) A (compareOp .Eq u v) Q E s:=by
 have hu' : A.units < cLine:=by lia
 cases x with
 | list xs =>
  refine bind_el e fun ys hE e2 =>?_
  clear e
  obtain rfl:=listOf_some hE
  unfold Rep at hx hy; obtain ⟨l,us,rfl,hl,hr⟩:=hx; obtain ⟨b,ws,rfl,hb,hr'⟩:=hy
  have hl:=unhide_list hl
  have hb:=unhide_list hb
  have n1:=hr.size
  have n2:=hr'.size
  split at e2
  ·rename_i hlen
   refine eq_listAt hl hb (by simp only [n1,n2,hlen]) hu' (eqVs_at e2 hr hr') ?_
   rw [n1,eAt_all hlen e2]; exact q.bool
  ·rename_i hlen
   obtain rfl:=Option.some.inj e2
   exact eq_list_lengthsAt hl hb (by simpa [n1,n2] using hlen) hu' q.bool
 | tup xs =>
  refine bind_el e fun ys hE e2 =>?_
  clear e
  obtain rfl:=tupV_some hE
  unfold Rep at hx hy; obtain ⟨l,us,rfl,hl,hr⟩:=hx; obtain ⟨b,ws,rfl,hb,hr'⟩:=hy
  have hl:=unhide_tup hl
  have hb:=unhide_tup hb
  have n1:=hr.size
  have n2:=hr'.size
  split at e2
  ·rename_i hlen
   refine eq_tupleAt hl hb hu' (eqVs_at e2 hr hr') ?_
   rw [n1,n2,hlen,Nat.min_self,beq_self_eq_true,Bool.and_true,← hlen,eAt_all hlen e2]; exact q.bool
  ·exact nS e2
 | none =>exact nS e
 | bool b =>exact nS e
 | int i =>exact eqI_ok (x:=.int i) e hx hy q
 | str i =>exact eqI_ok (x:=.str i) e hx hy q
 | bytes i =>exact eqI_ok (x:=.bytes i) e hx hy q
theorem neI_ok {x y : V} {r : Bool} {u v : Value} (e : eqI x y = some r) (hx : Rep (hideAll s.heap H) x u) (hy : Rep (hideAll s.heap H) y v)
  (q : Post H s (.bool (!r)) Q) : wpAny (model prog w) A (compareOp .NotEq u v) Q E s:=by
 cases x with
 | int a =>
  refine map_el e fun b h1 h2 =>?_
  clear e
  obtain rfl:=intOf_some h1
  subst h2
  unfold Rep at hx hy; obtain ⟨t,rfl⟩:=hx; obtain ⟨t',rfl⟩:=hy
  exact PySem.P.ne_int q.bool
 | str a =>
  refine map_el e fun b h1 h2 =>?_
  clear e
  obtain rfl:=strOf_some h1
  subst h2
  unfold Rep at hx hy; obtain ⟨t,rfl⟩:=hx; obtain ⟨t',rfl⟩:=hy
  exact PyProof.Rows.ne_str q.bool
 | bytes a =>
  refine map_el e fun b h1 h2 =>?_
  clear e
  obtain rfl:=bytesOf_some h1
  subst h2
  unfold Rep at hx hy; obtain ⟨b,t,rfl,h1⟩:=hx; obtain ⟨c,t',rfl,h2⟩:=hy
  refine ne_bytes ?_
  have:=bInts_beq h1 h2
  simp only [bne,this]; exact q.bool
 | _ =>exact nS e
theorem neV_ok {x y : V} {r : Bool} {u v : Value} (hu : A.units + 64 < cLine) (e : eqV x y = some r) (hx : Rep (hideAll s.heap H) x u) (hy : Rep (hideAll s.heap H) y v)
  (q : Post H s (.bool (!r)) Q) : wpAny (model prog w) A (compareOp .NotEq u v) Q E s:=by
 have hu' : A.units < cLine:=by lia
 cases x with
 | list xs =>
  refine bind_el e fun ys hE e2 =>?_
  clear e
  obtain rfl:=listOf_some hE
  unfold Rep at hx hy; obtain ⟨l,us,rfl,hl,hr⟩:=hx; obtain ⟨b,ws,rfl,hb,hr'⟩:=hy
  have hl:=unhide_list hl
  have hb:=unhide_list hb
  have n1:=hr.size
  have n2:=hr'.size
  split at e2
  ·rename_i hlen
   refine RcNeAt.lists hl hb (by simp only [n1,n2,hlen]) hu' (eqVs_at e2 hr hr') prog w E Q ?_
   simp only [n1,eAt_all hlen e2]; exact q.bool
  ·rename_i hlen
   obtain rfl:=Option.some.inj e2
   exact RcNeAt.lists_lengths hl hb (by simpa [n1,n2] using hlen) hu' prog w E Q q.bool
 | tup xs =>
  refine bind_el e fun ys hE e2 =>?_
  clear e
  obtain rfl:=tupV_some hE
  unfold Rep at hx hy; obtain ⟨l,us,rfl,hl,hr⟩:=hx; obtain ⟨b,ws,rfl,hb,hr'⟩:=hy
  have hl:=unhide_tup hl
  have hb:=unhide_tup hb
  have n1:=hr.size
  have n2:=hr'.size
  split at e2
  ·rename_i hlen
   refine RcNeAt.tuples hl hb hu' (eqVs_at e2 hr hr') prog w E Q ?_
   rw [n1,n2,hlen,Nat.min_self,beq_self_eq_true,Bool.and_true,← hlen,eAt_all hlen e2]; exact q.bool
  ·exact nS e2
 | none =>exact nS e
 | bool b =>exact nS e
 | int i =>exact neI_ok (x:=.int i) e hx hy q
 | str i =>exact neI_ok (x:=.str i) e hx hy q
 | bytes i =>exact neI_ok (x:=.bytes i) e hx hy q
theorem isNone_rep {h : Heap} {x : V} {u : Value} (hx : Rep h x u) : (u == Value.none) = isNoneV x:=by
 cases x <;> unfold Rep at hx
 ·subst hx; rfl
 ·subst hx; rfl
 ·obtain ⟨t,rfl⟩:=hx; rfl
 ·obtain ⟨t,rfl⟩:=hx; rfl
 ·obtain ⟨b,t,rfl,_⟩:=hx; rfl
 ·obtain ⟨a,us,rfl,_⟩:=hx; rfl
 ·obtain ⟨a,us,rfl,_⟩:=hx; rfl
theorem intB_some {a b : V} {K : Int → Int → Bool} {r : Bool} (e : intB a b K = some r) : ∃ x y,a = .int x ∧ b = .int y ∧ K x y = r:=by
 refine bc fun hN =>?_
 refine bind_el e fun x hx e =>?_
 refine bind_el e fun y hy e =>?_
 refine hN ?_; clear hN
 obtain rfl:=Option.some.inj e
 exact ⟨x,y,intOf_some hx,intOf_some hy,rfl⟩
theorem isNoneV_true {v : V} (h : isNoneV v = true) : v = .none:=by cases v <;> cases h; rfl
theorem cond_some' {α : Type} {c : Bool} {o : Option α} {r : α} (h : cond c o Option.none = some r) : c = true ∧ o = some r:=by
 cases c
 ·exact nS h
 ·exact ⟨rfl,h⟩
theorem cmpV_ok {op : CmpOp} {x y : V} {r : Bool} {u v : Value} (hu : A.units + 64 < cLine) (e : cmpV op x y = some r) (hx : Rep (hideAll s.heap H) x u) (hy : Rep (hideAll s.heap H) y v)
  (q : Post H s (.bool r) Q) : wpAny (model prog w) A (compareOp op u v) Q E s:=by
 cases op with
 | Eq =>exact eqV_ok hu e hx hy q
 | NotEq =>
  refine bc fun hN =>?_
  obtain ⟨b,e1,rfl⟩:=map_some' e
  refine hN ?_; clear hN
  exact neV_ok hu e1 hx hy q
 | Lt =>
  refine bc fun hN =>?_
  obtain ⟨a,b,rfl,rfl,rfl⟩:=intB_some e
  obtain ⟨t,rfl⟩:=rep_int hx
  obtain ⟨t',rfl⟩:=rep_int hy
  refine hN ?_; clear hN
  exact PySem.P.lt_int q.bool
 | LtE =>
  refine bc fun hN =>?_
  obtain ⟨a,b,rfl,rfl,rfl⟩:=intB_some e
  obtain ⟨t,rfl⟩:=rep_int hx
  obtain ⟨t',rfl⟩:=rep_int hy
  refine hN ?_; clear hN
  exact PySem.P.le_int q.bool
 | Gt =>
  refine bc fun hN =>?_
  obtain ⟨a,b,rfl,rfl,rfl⟩:=intB_some e
  obtain ⟨t,rfl⟩:=rep_int hx
  obtain ⟨t',rfl⟩:=rep_int hy
  refine hN ?_; clear hN
  exact PySem.P.gt_int q.bool
 | GtE =>
  refine bc fun hN =>?_
  obtain ⟨a,b,rfl,rfl,rfl⟩:=intB_some e
  obtain ⟨t,rfl⟩:=rep_int hx
  obtain ⟨t',rfl⟩:=rep_int hy
  refine hN ?_; clear hN
  exact PySem.P.ge_int q.bool
 | Is =>
  refine bc fun hN =>?_
  obtain ⟨h,e⟩:=cond_some' e
  refine hN ?_; clear hN
  obtain rfl:=Option.some.inj e
  rw [isNoneV_true h] at hy
  unfold Rep at hy; subst hy
  exact is_none (by rw [isNone_rep hx]; exact q.bool)
 | IsNot =>
  refine bc fun hN =>?_
  obtain ⟨h,e⟩:=cond_some' e
  refine hN ?_; clear hN
  obtain rfl:=Option.some.inj e
  rw [isNoneV_true h] at hy
  unfold Rep at hy; subst hy
  exact isNot_none (by rw [isNone_rep hx]; exact q.bool)
 | _ =>exact nS e
theorem tru_ok {x : V} {b : Bool} {u : Value} {R : Bool → Shared → Prop} {h : Heap} (e : x.tru = some b) (hx : Rep h x u) (q : R b s) : wpAny (model prog w) A (truthy u) R E s:=by
 unfold V.tru at e
 split at e
 ·obtain rfl:=Option.some.inj e; unfold Rep at hx; subst hx
  exact wpAny_truthy_bool q
 ·exact nS e
end
theorem clip_eq (n : Nat) (i : Int) : clip n i = clipAt n i:=by
 unfold clip clipAt
 by_cases h : i < 0
 ·rw [if_pos h,if_pos h,Int.min_eq_left (by have:=Int.add_le_add_right (Int.le_of_lt h) (n : Int); rwa [Int.zero_add] at this)]
  rcases Int.le_total 0 (i + n) with a | a
  ·rw [Int.max_eq_right a]
  ·rw [Int.max_eq_left a,Int.toNat_of_nonpos a]; rfl
 ·rw [if_neg h,if_neg h]
  obtain ⟨k,rfl⟩:=Int.eq_ofNat_of_zero_le (Int.not_lt.mp h)
  show min k n = _
  rcases Nat.le_total k n with h | h
  ·rw [Nat.min_eq_left h,Int.min_eq_left (Int.ofNat_le.mpr h),Int.max_eq_right (Int.natCast_nonneg _)]; rfl
  ·rw [Nat.min_eq_right h,Int.min_eq_right (Int.ofNat_le.mpr h),Int.max_eq_right (Int.natCast_nonneg _)]; rfl
theorem cut_eq {α : Type} (l : List α) (lo hi : Option Int) : cut l lo hi = (l.drop (lo.elim 0 (clipAt l.length))).take (hi.elim l.length (clipAt l.length) - lo.elim 0 (clipAt l.length)):=by
 unfold cut
 have : clip l.length = clipAt l.length:=funext (clip_eq _)
 rw [this]
theorem letTemp_bytes {value : Expr} {b : Array UInt8} {t : Tok} (r : Value) : letTemporaryGo value (.bytes b t) r = pure ():=by cases value <;> rfl
theorem getD_of_itemAt {l : List Int} {i x : Int} (e : itemAt l i = some x) :
  (0 ≤ i ∧ i < l.length ∧ l.getD i.toNat 0 = x) ∨ (i < 0 ∧ -(l.length : Int) ≤ i ∧ l.getD (i + l.length).toNat 0 = x):=by
 unfold itemAt at e
 split at e
 ·rename_i h0
  split at e
  ·rename_i h1
   exact .inl ⟨h0,h1,by simp only [List.getD_eq_getElem?_getD,e]; rfl⟩
  ·exact nS e
 ·rename_i h0
  split at e
  ·rename_i h1
   exact .inr ⟨by lia,h1,by simp only [List.getD_eq_getElem?_getD,e]; rfl⟩
  ·exact nS e
theorem itemAt_get {α : Type} {l : List α} {i : Int} {x : α} (e : itemAt l i = some x) :
  ∃ j,seqIndex? i l.length = some j ∧ l[j]? = some x ∧ -(l.length : Int) ≤ i ∧ i < l.length:=by
 unfold itemAt at e
 split at e
 ·rename_i h0
  split at e
  ·rename_i h1
   refine ⟨i.toNat,?_,e,by lia,h1⟩
   unfold seqIndex?
   simp only [show ¬ i < 0 by lia,if_false]
   simp; lia
  ·exact nS e
 ·rename_i h0
  split at e
  ·rename_i h1
   refine ⟨(i + l.length).toNat,?_,e,h1,by lia⟩
   unfold seqIndex?
   simp only [show i < 0 by lia,if_true]
   simp; lia
  ·exact nS e
section
variable {prog : Program} {w : World} {A : Around} {E : Value → Shared → Prop} {s : Shared} {H : List Addr} {Q : Value → Shared → Prop}
theorem itemV_ok {value slice : Expr} {x z : V} {i : Int} {u : Value} {t : Tok} (e : itemV x (.int i) = some z) (hx : Rep (hideAll s.heap H) x u)
  (hs : subscripted slice false u (.int i t) = operate [u,.int i t] (getItem u (.int i t))) (q : Post H s z Q) :
  wpAny (model prog w) A (subscriptTail value slice u (.int i t)) Q E s:=by
 have hl63 : lid ≤ 1099511627776:=by decide
 have e : itemK x i = some z:=e
 cases x with
 | bytes ks =>
  have e : (if ks.length ≤ lid then (itemAt ks i).map V.int else .none) = some z:=e
  split at e
  ·rename_i hz
   refine bc fun hN =>?_
   refine map_el e fun c ec hEqq2 =>?_
   subst hEqq2
   refine hN ?_; clear hN
   unfold Rep at hx; obtain ⟨b,tb,rfl,hb⟩:=hx
   rcases getD_of_itemAt ec with ⟨h0,h1,h2⟩ | ⟨h0,h1,h2⟩
   ·exact KBw.item_K hb (by lia) h0 h1 (fun t' k _ _ =>by rw [h2]; exact q.int _ _) hs letTemp_bytes
   ·exact KBc.itemR_K hb (by lia) h1 h0 (fun t' k _ _ =>by rw [h2]; exact q.int _ _) hs letTemp_bytes
  ·exact nS e
 | list xs =>
  have e : (if xs.length ≤ lid then itemAt xs i else .none) = some z:=e
  split at e
  ·rename_i hz
   unfold Rep at hx; obtain ⟨l,us,rfl,hl,hr⟩:=hx
   refine bc fun hN =>?_
   obtain ⟨j,ej,ex,h1,h2⟩:=itemAt_get e
   obtain ⟨v,ev,rv⟩:=hr.get ex
   refine hN ?_; clear hN
   have hl:=unhide_list hl
   have hn:=hr.length
   have qv : Q v s:=q _ _ (Kp.refl s) rv
   by_cases h0 : 0 ≤ i
   ·have : j = i.toNat:=by
     unfold seqIndex? at ej
     simp only [show ¬ i < 0 by lia,if_false] at ej
     simp at ej; lia
    refine tail_any hl.typeIs slot_list_getitem.lookup (wpAny_getItem_list hl h0 (by lia) ?_ qv) hs
    rw [← this]; simpa using ev
   ·refine tail_any hl.typeIs slot_list_getitem.lookup (kde_getNeg hl (by lia) (by lia) (by rw [hn]; exact ej) ev qv) hs
  ·cases e
 | tup xs =>
  have e : (if xs.length ≤ lid then itemAt xs i else .none) = some z:=e
  split at e
  ·rename_i hz
   unfold Rep at hx; obtain ⟨l,us,rfl,hl,hr⟩:=hx
   refine bc fun hN =>?_
   obtain ⟨j,ej,ex,h1,h2⟩:=itemAt_get e
   obtain ⟨v,ev,rv⟩:=hr.get ex
   refine hN ?_; clear hN
   have hl:=unhide_tup hl
   have hn:=hr.length
   have qv : Q v s:=q _ _ (Kp.refl s) rv
   exact item_tupleT hl (by lia) (by lia) (by rw [hn]; exact ej) ev qv hs
  ·exact nS e
 | _ =>exact nS e
theorem IsPart.of {l : Option Int} {u : Value} (h : (l = none ∧ u = .none) ∨ ∃ i t,l = some i ∧ u = .int i t) : IsPart u l:=by
 rcases h with ⟨rfl,rfl⟩ | ⟨i,t,rfl,rfl⟩
 ·exact .none
 ·exact .int i t
theorem sliceV_ok {value slice : Expr} {x z : V} {lo hi : Option Int} {u vl vu : Value} (e : sliceV x lo hi = some z) (ho : HOk H s.heap) (hx : Rep (hideAll s.heap H) x u) (pl : IsPart vl lo) (pu : IsPart vu hi)
  (hs : subscripted slice false u (.ref s.heap.objs.size) = operate [.ref s.heap.objs.size,u] (getItem u (.ref s.heap.objs.size))) (q : Post H s z Q) :
  wpAny (model prog w) A (subscriptTail value slice u (.ref s.heap.objs.size)) Q E { s with heap:=s.heap.push { cls:=.type "slice",data:=.fields #[vl,vu,.none] } }:=by
 have kp1 : Kp s { s with heap:=s.heap.push { cls:=.type "slice",data:=.fields #[vl,vu,.none] } }:=Kp.push _
 have hsz : lid ≤ sizeLine:=lid_le
 unfold sliceV at e
 split at e
 ·split at e
  ·rename_i ks _ _ hz
   obtain rfl:=Option.some.inj e
   unfold Rep at hx; obtain ⟨b,t,rfl,hb⟩:=hx
   refine tail_of_ItemOn ⟨"bytes",_,FB.slot_bytes_getitem.lookup,typeIs_bytes _ _ _,getItem_meets (typeIs_bytes _ _ _) (by decide) FB.slot_bytes_getitem FB.entry_bytes_getitem (FB.args_bytes_getitem_2 _ _) (KBc.meets_slice2 b t _ pl pu)
    ⟨Heap.IsSliceOf.new _ _ _ _,Nat.le_trans (KBc.size_picked_le b lo hi) (by simp only [← KBw.ints_length b,hb]; lia),fun t' k =>?_⟩⟩ hs letTemp_bytes
   refine (q.after kp1).bytes ?_ _ _
   simp only [KBc.ints_picked hb lo hi,cut_eq]
  ·exact nS e
 ·split at e
  ·rename_i xs _ _ hz
   obtain rfl:=Option.some.inj e
   unfold Rep at hx; obtain ⟨l,us,rfl,hl,hr⟩:=hx
   have hl':=unhide_list hl
   have n1:=hr.length
   refine tail_any (hl'.push _).typeIs slot_list_getitem.lookup (wpAny_getItem_list_slice (hl'.push _) (Heap.IsSliceOf.new ..) pl pu .none (by simp) ?_ (by rw [List.size_toArray]; lia)) hs
   rw [slicePick_plain]
   refine (q.after kp1) _ _ (Kp.push _) ?_
   refine rep_new_list (ho.kp kp1) ?_
   simp only [List.size_toArray,n1]
   rw [cut_eq]
   exact Reps.take _ (Reps.drop _ (hr.kp kp1))
  ·exact nS e
 ·exact nS e
theorem bytes_rev_eq (b : Array UInt8) : Builtin.Bytes.sliced b ((b.size : Int) - 1) (-1) (-1) = b.toList.reverse.toArray:=by
 unfold Builtin.Bytes.sliced
 simp only [krv_sliceRange,krv_range,List.filterMap_reverse,krv_all]
open Builtin in
theorem meets_rev (b : Array UInt8) (t : Tok) (a : Addr) {tk : Tok} :
  Meets («bytes.__getitem__» ⟨[.bytes b t,.ref a],[]⟩) (fun _ R s =>s.heap.IsSliceOf a .none .none (.int (-1) tk) ∧ b.size ≤ sizeLine ∧ ∀ t' k,R (.ok (.ret (.bytes b.toList.reverse.toArray t'))) { s with toks:=k }):=by
 refine .of_wp fun prog w A R s hS =>?_
 refine bc fun hN =>?_
 obtain ⟨⟨o,ho,hc,hd⟩,hsz,h⟩:=hS
 refine hN ?_; clear hN
 have hT : s.TypeIs (.ref a) "slice":=⟨o,ho,hc⟩
 show wpAny _ _ (Bytes.payload (.bytes b t) >>= fun r =>_) _ _ s
 refine wpAny_bind (wpAny_of_eq (a:=b) rfl ?_)
 show wpAny _ _ (Bytes.subscript? (.ref a) >>= fun r =>_) _ _ s
 refine wpAny_bind ?_
 unfold Bytes.subscript?
 refine wpAny_bind (wpAny_specialOf hT slice_no_index (wpAny_pure ?_))
 refine wpAny_bind (wpAny_typeOf hT ?_)
 show wpAny _ _ (Bytes.sliceParts (.ref a) >>= fun r =>_) _ _ s
 refine wpAny_bind ?_
 unfold Bytes.sliceParts
 refine wpAny_bind (wpAny_field (x:=.int (-1) tk) ho hd rfl ?_)
 kby_int
 refine wpAny_ite (KBy.ite_no (show ¬ ((rawInt (-1) == rawInt 0) = true) from Bool.false_ne_true) ?_)
 refine wpAny_bind (wpAny_field (x:=.none) ho hd rfl ?_)
 kby_none
 refine wpAny_bind (wpAny_field (x:=.none) ho hd rfl ?_)
 kby_none
 refine wpAny_pure ?_
 have go : wpAny (model prog w) A.in1 (sliceIndices (rawPart none) (rawPart none) (rawPart (some (-1))) b.size) (fun r s' =>r = sliceBounds none none (some (-1)) b.size ∧ s' = s) (fun _ _ =>False) s :=
  wpAny_of_eq (sliceIndices_raw none none (some (-1)) b.size (fun e =>nomatch e)) ⟨rfl,rfl⟩
 refine wpAny_bind (wpAny_mono go (fun r s' hr =>?_) fun _ _ e =>e.elim)
 refine bc fun hN =>?_
 obtain ⟨hr1,hr2⟩:=hr
 refine hN ?_; clear hN
 subst hr2
 rw [krv_bounds] at hr1
 subst hr1
 refine wpAny_ite (KBy.ite_no (by simp) ?_)
 rw [bytes_rev_eq]
 exact wpAny_bind (wpAny_mkBytes (wpAny_pure ⟨_,rfl,h _ _⟩) (by simpa using hsz))
theorem revV_ok {value slice : Expr} {x z : V} {u : Value} {tk : Tok} {ops : List Value} (e : revV x = some z) (ho : HOk H s.heap) (hx : Rep (hideAll s.heap H) x u)
  (hs : subscripted slice false u (.ref s.heap.objs.size) = operate ops (getItem u (.ref s.heap.objs.size))) (q : Post H s z Q) :
  wpAny (model prog w) A (subscriptTail value slice u (.ref s.heap.objs.size)) Q E { s with heap:=s.heap.push { cls:=.type "slice",data:=.fields #[.none,.none,.int (-1) tk] } }:=by
 have kp1 : Kp s { s with heap:=s.heap.push { cls:=.type "slice",data:=.fields #[.none,.none,.int (-1) tk] } }:=Kp.push _
 have hsz : lid ≤ sizeLine:=lid_le
 unfold revV at e
 split at e
 ·split at e
  ·rename_i ks hz
   obtain rfl:=Option.some.inj e
   unfold Rep at hx; obtain ⟨b,t,rfl,hb⟩:=hx
   refine tail_of_ItemOn ⟨"bytes",_,FB.slot_bytes_getitem.lookup,typeIs_bytes _ _ _,getItem_meets (typeIs_bytes _ _ _) (by decide) FB.slot_bytes_getitem FB.entry_bytes_getitem (FB.args_bytes_getitem_2 _ _) (meets_rev b t _)
    ⟨Heap.IsSliceOf.new _ _ _ _,by simp only [← KBw.ints_length b,hb]; lia,fun t' k =>?_⟩⟩ hs letTemp_bytes
   refine (q.after kp1).bytes ?_ _ _
   rw [← hb]; simp [KBw.bInts]
  ·exact nS e
 ·split at e
  ·rename_i xs hz
   obtain rfl:=Option.some.inj e
   unfold Rep at hx; obtain ⟨l,us,rfl,hl,hr⟩:=hx
   have hl':=unhide_list hl
   have n1:=hr.length
   refine tail_any (hl'.push _).typeIs slot_list_getitem.lookup (wpAny_getItem_list_slice (hl'.push _) (Heap.IsSliceOf.new ..) .none .none (.int _ _) (by decide) ?_ (by rw [List.size_toArray]; lia)) hs
   rw [krv_pick]
   exact (q.after kp1) _ _ (Kp.push _) (rep_new_list (ho.kp kp1) (hr.kp kp1).reverse)
  ·exact nS e
 ·exact nS e
end
section
variable {prog : Program} {w : World} {A : Around} {E : Value → Shared → Prop} {s : Shared}
theorem hint_bytes {b : Array UInt8} {t : Tok} {Q : Bool → Shared → Prop} (h : Q false s) :
  wpAny (model prog w) A (Builtin.List.listLengthHint (.bytes b t)) Q E s:=by
 unfold Builtin.List.listLengthHint
 refine wpAny_bind (wpAny_specialOf (typeIs_bytes s b t) FB.slot_bytes_len.lookup ?_)
 wp_delta
 refine wpAny_bind (wpAny_isInstance (T:="bytes") (b:=true) (typeIs_bytes s b t) (by rw [isSubtype_type]; kernel_rfl) ?_)
 show wpAny _ _ (typeOf (Value.bytes b t) >>= _) _ _ _
 exact wpAny_bind (wpAny_typeOf (typeIs_bytes s b t) (wpAny_pure h))
theorem extend_bytes {R : Result → Shared → Prop} (hh : A.handled = none) (b : Array UInt8) (t : Tok) (S : Addr) (res : Value) (c₀ : Nat) (hS : s.heap.get? S = some { cls:=.type "list",data:=.seq #[] c₀ })
  (hR : ∀ h' tk acc' c',(∀ b o,b ≠ S → s.heap.get? b = some o → h'.get? b = some o) → h'.get? S = some { cls:=.type "list",dict:=none,data:=.seq acc' c',slots:=#[] } →
   ItemsOf (fun i v =>∃ c u,b[i]? = some c ∧ v = .int (c.toNat : Int) u) acc' b.size → R (.ok (.ret res)) { s with heap:=h',toks:=tk }) (hn : b.size ≤ sizeLine) :
  wpAny (model prog w) A.in1 (Builtin.List.listExtendWith (.ref S) (.bytes b t) res)
   (fun fin s' =>match fin with | .done f =>R (.ok f) s' | .again c' =>c'.quiet = true ∧ codeAny (model prog w) A c' R s') (fun e s' =>R (.error e) s') s:=by
 have hSI : S ≠ s.heap.objs.size:=Nat.ne_of_lt (Heap.lt_size hS)
 have hSf : S ∉ [s.heap.objs.size]:=fun hm =>hSI (List.mem_singleton.mp hm)
 unfold Builtin.List.listExtendWith
 refine wpAny_bind (wpAny_typeOf (typeIs_bytes s b t) ?_)
 have h1 : Builtin.List.listSameRef (.ref S) (.bytes b t) = false:=rfl
 have h2 : (Value.type "bytes" == Value.type "list") = false:=by decide
 have h3 : (Value.type "bytes" == Value.type "tuple") = false:=by decide
 simp only [h1,h2,h3,Bool.or_false,Bool.false_eq_true,if_false]
 refine wpAny_bind (KBw.pyIter_bytes ?_)
 refine wpAny_bind (wpAny_holding (hint_bytes ?_))
 rw [if_neg (by decide)]
 have W:=KBw.walks (prog:=prog) (w:=w) (A:=A.in1) hh s.heap.objs.size b t
 refine wpAny_pure ⟨plainId_quiet PySem.F.plain_extend_loop _,codeAny_extend_loopS W.toS hn _ hSf _ b.size 0 _ _ _ rfl (Nat.zero_le _) ⟨_,Heap.get?_push_size _ rfl,rfl,rfl⟩ (Heap.get?_push_of_some _ hS) (ItemsOf.nil _) fun s' acc' c' hm hS' hacc =>?_⟩
 rw [Moved.eq_with hm]
 refine hR s'.heap s'.toks acc' c' (fun b ob hb e =>hm.heap b ob (fun hmem =>?_) (Heap.get?_push_of_some _ e)) hS' hacc
 rcases List.mem_cons.mp hmem with e' | hmem
 ·exact hb e'
 ·exact absurd (Heap.lt_size e) (by rw [List.mem_singleton.mp hmem]; exact Nat.lt_irrefl _)
theorem list_init_bytes {R : Result → Shared → Prop} (hh : A.handled = none) (b : Array UInt8) (t : Tok) (S : Addr) (hS : s.heap.get? S = some { cls:=.type "list",data:=.seq #[] })
  (hR : ∀ h' tk acc' c',(∀ b o,b ≠ S → s.heap.get? b = some o → h'.get? b = some o) → h'.get? S = some { cls:=.type "list",dict:=none,data:=.seq acc' c',slots:=#[] } →
   ItemsOf (fun i v =>∃ c u,b[i]? = some c ∧ v = .int (c.toNat : Int) u) acc' b.size → R (.ok (.ret .none)) { s with heap:=h',toks:=tk }) (hn : b.size ≤ sizeLine) :
  wpAny (model prog w) A.in1 (Builtin.«list.__init__» ⟨[.ref S,.bytes b t],[]⟩)
   (fun fin s' =>match fin with | .done f =>R (.ok f) s' | .again c' =>c'.quiet = true ∧ codeAny (model prog w) A c' R s') (fun e s' =>R (.error e) s') s:=by
 show wpAny _ _ (do let old ← Builtin.List.listItems (.ref S); Builtin.List.listUpdate (.ref S) (fun _ =>#[]); letGo old.toList.reverse; Builtin.List.listExtendWith (.ref S) (.bytes b t) .none) _ _ s
 refine wpAny_bind ?_
 unfold Builtin.List.listItems
 refine wpAny_bind (wpAny_seqItems hS rfl (wpAny_pure ?_))
 show wpAny _ _ (updateSeq S (fun _ =>#[]) >>= fun _ =>letGo (#[] : Array Value).toList.reverse >>= fun _ =>Builtin.List.listExtendWith (.ref S) (.bytes b t) .none) _ _ s
 refine wpAny_bind (wpAny_updateSeq hS rfl ?_)
 have hS₂:=Heap.get?_update_self (Obj.mapSeq (fun _ =>(#[] : Array Value))) hS rfl
 have oth : ∀ b o,b ≠ S → s.heap.get? b = some o → (s.heap.update S (Obj.mapSeq (fun _ =>(#[] : Array Value)))).get? b = some o :=
  fun b o hb e =>(Heap.get?_update_other _ _ (Ne.symm hb)).trans e
 refine wpAny_bind (wpAny_letGo ?_)
 refine extend_bytes (hn:=hn) hh b t S .none _ hS₂ fun h' tk acc' c' hk hS' hacc =>?_
 exact hR h' tk acc' c' (fun b o hb e =>hk b o hb (oth b o hb e)) hS' hacc
theorem call_list_bytes {Q : Value → Shared → Prop} (hh : A.handled = none) (b : Array UInt8) (t : Tok)
  (hQ : ∀ h' tk acc' c',(∀ b o,s.heap.get? b = some o → h'.get? b = some o) →
   h'.get? s.heap.objs.size = some { cls:=.type "list",dict:=none,data:=.seq acc' c',slots:=#[] } → ItemsOf (fun i v =>∃ c u,b[i]? = some c ∧ v = .int (c.toNat : Int) u) acc' b.size →
    Q (.ref s.heap.objs.size) { s with heap:=h',toks:=tk }) (hn : b.size ≤ sizeLine) :
  wpAny (model prog w) A (call (.type "list") [.bytes b t]) Q E s:=by
 refine callType_codes (Q₁:=fun obj s₁ =>obj = .ref s.heap.objs.size ∧ s₁ = { s with heap:=s.heap.push { cls:=.type "list",data:=.seq #[] } }) PySem.F.called_list (PySem.F.typeCall_list_1 _) PySem.F.entry_list_init
  (code_list_new _ ⟨rfl,rfl⟩) fun obj s₁ h₁ =>?_
 obtain ⟨rfl,rfl⟩:=h₁
 have hS : (s.heap.push { cls:=.type "list",data:=.seq #[] }).get? s.heap.objs.size = some { cls:=.type "list",data:=.seq #[] }:=Heap.get?_push_size _ rfl
 refine ⟨⟨_,hS,rfl⟩,PySem.F.args_list_init_2 _ _,list_init_bytes (A:=A.in1) (hn:=hn) hh b t _ hS fun h' tk acc' c' hk hS' hacc =>?_⟩
 exact ⟨rfl,hQ h' tk acc' c' (fun b o e =>hk b o (Nat.ne_of_lt (Heap.lt_size e)) (Heap.get?_push_of_some _ e)) hS' hacc⟩
end
theorem insI_perm (a : Int) : ∀ l : List Int,(insI a l).Perm (a :: l)
 | [] =>.refl _
 | b :: r =>by
  unfold insI
  split
  ·exact .refl _
  ·exact ((insI_perm a r).cons b).trans (.swap a b r)
theorem sortI_perm : ∀ l : List Int,(sortI l).Perm l
 | [] =>.refl _
 | a :: r =>(insI_perm a _).trans ((sortI_perm r).cons a)
theorem insI_sorted (a : Int) : ∀ {l : List Int},l.Pairwise (· ≤ ·) → (insI a l).Pairwise (· ≤ ·)
 | [],_ =>by simp [insI]
 | b :: r,h =>by
  unfold insI
  split
  ·rename_i hab
   refine List.Pairwise.cons (fun x hx =>?_) h
   rcases List.mem_cons.mp hx with rfl | hx
   ·exact hab
   ·exact Int.le_trans hab (List.rel_of_pairwise_cons h hx)
  ·rename_i hab
   refine List.Pairwise.cons (fun x hx =>?_) (insI_sorted a (List.Pairwise.of_cons h))
   rcases List.mem_cons.mp ((insI_perm a r).mem_iff.mp hx) with rfl | hx
   ·lia
   ·exact List.rel_of_pairwise_cons h hx
theorem sortI_sorted : ∀ l : List Int,(sortI l).Pairwise (· ≤ ·)
 | [] =>.nil
 | a :: r =>insI_sorted a (sortI_sorted r)
theorem sortI_unique {l l' : List Int} (p : l'.Perm l) (h : l'.Pairwise (· ≤ ·)) : l' = sortI l :=
 (p.trans (sortI_perm l).symm).eq_of_pairwise (fun _ _ _ _ a b =>Int.le_antisymm a b) h (sortI_sorted l)
noncomputable def bltVal (f : Str) : Value :=
 if f == "len" then .builtin "len" else if f == "bytes" then .type "bytes" else if f == "list" then .type "list" else if f == "sorted" then .builtin "sorted"
 else if f == "int" then .type "int" else if f == "tuple" then .type "tuple" else if f == "range" then .type "range" else if f == "enumerate" then .type "enumerate" else .none
noncomputable def isBlt (f : Str) : Bool:=(["len","bytes","list","sorted","int","tuple","range","enumerate"] : List Str).contains f
section
variable {prog : Program} {w : World} {A : Around} {E : Value → Shared → Prop} {s : Shared} {H : List Addr} {Q : Value → Shared → Prop}
theorem Reps.one {h : Heap} {x : V} {us : List Value} (r : Reps h [x] us) : ∃ v,us = [v] ∧ Rep h x v:=by
 unfold Reps at r
 refine bc fun hN =>?_
 obtain ⟨v,r',rfl,h1,h2⟩:=r
 refine hN ?_; clear hN
 unfold Reps at h2; subst h2
 exact ⟨v,rfl,h1⟩
theorem Reps.two {h : Heap} {x y : V} {us : List Value} (r : Reps h [x,y] us) : ∃ v w,us = [v,w] ∧ Rep h x v ∧ Rep h y w:=by
 unfold Reps at r
 refine bc fun hN =>?_
 obtain ⟨v,r',rfl,h1,h2⟩:=r
 obtain ⟨w,rfl,h3⟩:=h2.one
 refine hN ?_; clear hN
 exact ⟨v,w,rfl,h1,h3⟩
theorem Reps.three {h : Heap} {x y z : V} {us : List Value} (r : Reps h [x,y,z] us) : ∃ v w u,us = [v,w,u] ∧ Rep h x v ∧ Rep h y w ∧ Rep h z u:=by
 unfold Reps at r
 refine bc fun hN =>?_
 obtain ⟨v,r',rfl,h1,h2⟩:=r
 obtain ⟨w,u,rfl,h3,h4⟩:=h2.two
 refine hN ?_; clear hN
 exact ⟨v,w,u,rfl,h1,h3,h4⟩
theorem byteArr_ints {ns : List Int} (h : ∀ n ∈ ns,0 ≤ n ∧ n < 256) : KBw.bInts (byteArr ns) = ns:=by
 unfold KBw.bInts byteArr
 simp only [List.toList_toArray,List.map_map]
 conv =>rhs; rw [← List.map_id ns]
 refine List.map_congr_left fun n hn =>?_
 obtain ⟨h0,h1⟩:=h n hn
 simp
 lia
theorem rep_made_list {xs : List V} {us : Array Value} {h : Heap} {a : Addr} {n : Nat} (ha : a ∉ H) (e : h.get? a = some { cls:=.type "list",data:=.seq us n }) (r : Reps (hideAll h H) xs us.toList) :
  Rep (hideAll h H) (.list xs) (.ref a):=by
 unfold Rep
 exact ⟨a,us.toList,rfl,⟨_,hideAll_get H e ha,rfl,n,by simp⟩,r⟩
theorem reps_bytes_items {h : Heap} {b : Array UInt8} {acc : Array Value} (I : ItemsOf (fun i v =>∃ c u,b[i]? = some c ∧ v = .int (c.toNat : Int) u) acc b.size) : Reps h ((KBw.bInts b).map .int) acc.toList:=by
 refine bc fun hN =>?_
 obtain ⟨hs,hI⟩:=I
 refine hN ?_; clear hN
 refine Reps.of_ints ?_
 have key : ∀ (l : List Value) (bs : List UInt8),l.length = bs.length → (∀ (j : Nat) (v : Value),l[j]? = some v → ∃ (c : UInt8) (u : Tok),bs[j]? = some c ∧ v = Value.int (c.toNat : Int) u) → IntsAre l (bs.map fun c =>(c.toNat : Int)):=by
  intro l
  induction l with
  | nil =>intro bs hl _; cases bs with
   | nil =>exact .nil
   | cons _ _ =>simp at hl
  | cons v r ih =>intro bs hl hh; cases bs with
   | nil =>simp at hl
   | cons c cs =>
    obtain ⟨c',u,e1,rfl⟩:=hh 0 v rfl
    simp only [List.getElem?_cons_zero,Option.some.injEq] at e1
    subst e1
    exact .cons _ u (ih cs (by simpa using hl) fun j v' hj =>by simpa using hh (j + 1) v' (by simpa using hj))
 exact key acc.toList b.toList (by simp [hs]) fun j v hj =>by simpa using hI j v (by simpa using hj)
theorem bltV_ok {f : Str} {vs : List V} {us : List Value} {r : V} {n : Nat} (e : bltV f vs = some r) (hr : Reps (hideAll s.heap H) vs us) (ho : HOk H s.heap) (hA : Room A n) (q : Post H s r Q) :
  wpAny (model prog w) A (call (bltVal f) us []) Q E s:=by
 have hl1 : lid ≤ sizeLine:=lid_le
 have hl2 : (lid : Int) < 2 ^ 62:=by decide
 unfold bltV at e
 unfold bltVal
 split at e
 ·rename_i hf
  rw [if_pos hf]
  refine bc fun hN =>?_
  refine bind_el e fun v ev e0 =>?_
  clear e
  obtain rfl:=one_some ev
  obtain ⟨w,rfl,hv⟩:=hr.one
  refine map_el e0 fun k ek hEqq2 =>?_
  subst hEqq2
  refine hN ?_; clear hN
  cases v with
  | bytes ks =>
   refine itep_el ek fun hz ek =>?_
   obtain rfl:=Option.some.inj ek
   unfold Rep at hv; obtain ⟨b,t,rfl,hb⟩:=hv
   exact KBw.len_K hb (Nat.le_trans hz (by decide)) (q.int _ _)
  | list xs =>
   refine itep_el ek fun hz ek =>?_
   obtain rfl:=Option.some.inj ek
   unfold Rep at hv; obtain ⟨a,us',rfl,hl,hrr⟩:=hv
   have hn:=hrr.size
   refine call_len_list (unhide_list hl) (by rw [hn]; lia) ?_
   rw [hn]; exact q.int _ _
  | _ =>exact nS ek
 rename_i hf; rw [if_neg hf]
 split at e
 ·rename_i hf
  rw [if_pos hf]
  refine bc fun hN =>?_
  refine bind_el e fun v ev e0 =>?_
  clear e
  obtain rfl:=one_some ev
  obtain ⟨w,rfl,hv⟩:=hr.one
  refine bind_el e0 fun xs ex e3 =>?_
  clear e0
  obtain rfl:=listOf_some ex
  refine bind_el e3 fun ns e1 e2 =>?_
  refine itep_el e2 fun hz e2 =>?_
  refine hN ?_; clear hN
  obtain rfl:=Option.some.inj e2
  unfold Rep at hv; obtain ⟨a,us',rfl,hl,hrr⟩:=hv
  have hi:=hrr.ints e1
  have hn:=hi.length
  refine call_bytes_ints (unhide_list hl) hi hz.2 (by lia) hA.hh fun h' t k hk =>?_
  exact (q.after (Kp.mk' (t:=k) hk)).bytes (byteArr_ints hz.2) t k
 rename_i hf; rw [if_neg hf]
 split at e
 ·rename_i hf
  rw [if_pos hf]
  refine bc fun hN =>?_
  refine bind_el e fun v ev e0 =>?_
  clear e
  obtain rfl:=one_some ev
  obtain ⟨w,rfl,hv⟩:=hr.one
  refine hN ?_; clear hN
  unfold listV at e0
  cases hL : listOf v with
  | some xs =>
   rw [hL] at e0
   obtain rfl:=listOf_some hL
   refine itep_el e0 fun hz e0 =>?_
   obtain rfl:=Option.some.inj e0
   unfold Rep at hv
   refine bc fun hN =>?_
   obtain ⟨a,us',rfl,hl,hrr⟩:=hv
   obtain ⟨o,h1,hc,n1,hd⟩:=unhide_list hl
   refine hN ?_; clear hN
   have hn:=hrr.size
   refine call_list_seq a (.inl rfl) h1 hc hd (fun h' c' hk hS =>?_) (by lia)
   have kp : Kp s { s with heap:=h' }:=Kp.mk' hk
   exact q _ _ kp (rep_made_list ho.fresh hS (hrr.kp kp))
  | none =>
   rw [hL] at e0
   refine bind_el e0 fun ks ek e3 =>?_
   clear e0 hL
   obtain rfl:=bytesOf_some ek
   refine itep_el e3 fun hz e0 =>?_
   obtain rfl:=Option.some.inj e0
   unfold Rep at hv; obtain ⟨b,t,rfl,hb⟩:=hv
   refine call_list_bytes hA.hh b t (fun h' tk acc' c' hk hS hI =>?_) (by simp only [← KBw.ints_length,hb]; lia)
   refine q _ _ (Kp.mk' hk) (rep_made_list ho.fresh hS ?_)
   rw [← hb]; exact reps_bytes_items hI
 rename_i hf; rw [if_neg hf]
 split at e
 ·rename_i hf
  rw [if_pos hf]
  refine bind_el e fun v ev e0 =>?_
  clear e
  obtain rfl:=one_some ev
  obtain ⟨w,rfl,hv⟩:=hr.one
  refine bind_el e0 fun xs ex e3 =>?_
  clear e0
  obtain rfl:=listOf_some ex
  refine bind_el e3 fun ns e1 e2 =>?_
  refine itep_el e2 fun hz e2 =>?_
  obtain rfl:=Option.some.inj e2
  unfold Rep at hv; obtain ⟨a,us',rfl,hl,hrr⟩:=hv
  have hi:=hrr.ints e1
  have hn:=hi.length
  refine PyProof.Rows.sorted_ints (unhide_list hl) hi (by lia) fun out ns' i1 i2 i3 =>?_
  obtain rfl:=sortI_unique i2 i3
  obtain ⟨ee,he⟩:=sortedAll_at s.heap us' out
  refine q _ _ (Kp.mk' fun _ _ =>sortedAll_old) (rep_made_list ?_ he (Reps.of_ints i1))
  intro hm
  obtain ⟨o,e0⟩:=ho _ hm
  have:=Heap.lt_size e0
  exact absurd (Nat.lt_of_succ_lt this) (Nat.lt_irrefl _)
 rename_i hf; rw [if_neg hf]
 split at e
 ·rename_i hf
  rw [if_pos hf]
  refine bind_el e fun v ev e0 =>?_
  clear e
  obtain rfl:=one_some ev
  obtain ⟨w,rfl,hv⟩:=hr.one
  refine map_el e0 fun i ei e3 =>?_
  clear e0
  obtain rfl:=intOf_some ei
  subst e3
  unfold Rep at hv; obtain ⟨t,rfl⟩:=hv
  exact call_int_int (q.int0 t)
 rename_i hf; rw [if_neg hf]
 split at e
 ·rename_i hf
  rw [if_pos hf]
  refine bind_el e fun v ev e0 =>?_
  clear e
  obtain rfl:=one_some ev
  obtain ⟨w,rfl,hv⟩:=hr.one
  refine map_el e0 fun i ei e3 =>?_
  clear e0
  obtain rfl:=tupV_some ei
  subst e3
  have hv':=hv
  unfold Rep at hv; obtain ⟨a,us',rfl,hl,hrr⟩:=hv
  exact call_tuple_tup (unhide_tup hl) (q _ _ (Kp.refl s) hv')
 ·cases e
end
noncomputable abbrev Sub (h h' : Heap) : Prop:=∀ b o,h.get? b = some o → h'.get? b = some o
structure Gx where
 prog : Program
 w : World
 K : Frag
 B0 : Heap
 mg : Str → Option Value
 mb : Str → Option Value
 kin : K.In B0
 g : B0.Ns mainGlobals mg
 b : B0.Ns builtinsNs mb
 lim : B0.NoLimit
 bl : ∀ f,isBlt f = true → mg f = none ∧ mb f = some (bltVal f)
 clsA : Str → Option Addr
 sv : Option (Addr × Addr)
 pn : List Addr
noncomputable def At (env : Env) (h : Heap) (m : Str → Option Value) (x : Str) (u : Value) : Prop :=
 (env.kindOf x = some .local ∧ m x = some u) ∨ ((env.kindOf x = some .cell ∨ env.kindOf x = some .free) ∧ ∃ c,env.cells.lookup x = some c ∧ h.IsCell c (some u))
inductive FldsC (R : Value → Prop) (f : Str) (T : List DictEntry → Prop) (es : List DictEntry) : Prop
 | mk (hs : Int) (t : Nat) (u : Value) (r : List DictEntry) (e : es = ⟨hs,.str f t,u⟩ :: r) (h : R u) (k : T r) : FldsC R f T es
noncomputable def Flds (h : Heap) : List (Str × V) → List DictEntry → Prop
 | [],es =>es = []
 | (f,v) :: fl,es =>FldsC (Rep h v) f (Flds h fl) es
noncomputable def IsOwn (h : Heap) (a : Addr) (us : Array Value) : Prop:=∃ o,h.get? a = some o ∧ o.cls = .type "list" ∧ o.dict = none ∧ ∃ n,o.data = .seq us n
theorem IsOwn.isList {h : Heap} {a : Addr} {us : Array Value} (x : IsOwn h a us) : h.IsList a us:=let ⟨o,e,c,_,d⟩:=x; ⟨o,e,c,d⟩
inductive HVal (env : Env) (H : List Addr) (h : Heap) (m : Str → Option Value) (x : Str) (v : V) : Prop
 | mk (u : Value) (a : At env h m x u) (r : Rep (hideAll h H) v u) : HVal env H h m x v
inductive HOwn (env : Env) (H Mu : List Addr) (h : Heap) (m : Str → Option Value) (a : Addr) (x : Str) (xs : List V) : Prop
 | mk (us : List Value) (e1 : env.kindOf x = some .local) (e2 : m x = some (.ref a)) (e3 : IsOwn h a us.toArray) (e4 : a ∈ H) (e5 : a ∈ Mu) (r : Reps (hideAll h H) xs us) : HOwn env H Mu h m a x xs
inductive HInst (K : Option Addr) (env : Env) (H Mu : List Addr) (h : Heap) (P : Value → Prop) (a : Addr) (fl : List (Str × V)) : Prop
 | mk (ix Ca : Addr) (es : List DictEntry) (n : Nat) (e1 : P (.ref ix)) (e2 : K = some Ca) (e3 : h.get? ix = some (instObj Ca a)) (e4 : h.get? a = some (dictOf es n)) (e5 : a ∈ Mu) (e6 : a ∉ H) (e7 : ix ∉ Mu) (e8 : a ≠ env.locals) (r : Flds (hideAll h H) fl es) : HInst K env H Mu h P a fl
noncomputable def Held (X : Gx) (env : Env) (H Mu : List Addr) (h : Heap) (m : Str → Option Value) (a : Addr) (x : Str) : AV → Prop
 | .val v =>HVal env H h m x v
 | .own xs =>HOwn env H Mu h m a x xs
 | .inst C fl =>HInst (X.clsA C) env H Mu h (At env h m x) a fl
structure KindsOk (sc : Scope) (env : Env) : Prop where
 loc : ∀ x,sc.names.lookup x = some .local → env.kindOf x = some .local
 cel : ∀ x,sc.names.lookup x = some .cell → env.kindOf x = some .cell
 fre : ∀ x,sc.names.lookup x = some .free → env.kindOf x = some .cell ∨ env.kindOf x = some .free
 glo : ∀ x,sc.names.lookup x = some .globalImplicit → env.kindOf x = some .globalImplicit
 has : ∀ x,sc.names.lookup x = some .cell ∨ sc.names.lookup x = some .free → (env.cells.lookup x).isSome = true
noncomputable def isCore : Option AV → Prop
 | some (.own _) =>True
 | some (.inst _ _) =>True
 | _ =>False
noncomputable def Side (X : Gx) (sc : Scope) (g : Gam) (m : Str → Option Value) (ad : Str → Addr) : Prop :=
 (sc.names.lookup ("self" : Str) = some .local → ∀ ix dx,X.sv = some (ix,dx) → m ("self" : Str) = some (.ref ix) ∧ ad ("self" : Str) = dx) ∧
 ∀ y,isLoc sc y = true → isCore (g.lookup y) → ad y ∉ X.pn
inductive HAll (X : Gx) (sc : Scope) (env : Env) (H Mu : List Addr) (g : Gam) (h : Heap) : Prop
 | mk (m : Str → Option Value) (ad : Str → Addr) (n : h.Ns env.locals m) (hd : ∀ x av,isLoc sc x = true → g.lookup x = some av → Held X env H Mu h m (ad x) x av)
  (inj : ∀ x y,isLoc sc x = true → isLoc sc y = true → isCore (g.lookup x) → isCore (g.lookup y) → ad x = ad y → x = y) (side : Side X sc g m ad) : HAll X sc env H Mu g h
structure St (X : Gx) (sc : Scope) (env : Env) (H Mu : List Addr) (g : Gam) (s : Shared) : Prop where
 base : Sub X.B0 s.heap
 kind : env.scope.kind = .function
 glob : env.globals = mainGlobals
 blt : env.builtins = builtinsNs
 kinds : KindsOk sc env
 ho : HOk H s.heap
 held : HAll X sc env H Mu g s.heap
theorem Flds.mono {h h' : Heap} (k : SeqKeep h h') : ∀ {fl : List (Str × V)} {es : List DictEntry},Flds h fl es → Flds h' fl es
 | [],_,r =>by unfold Flds at r ⊢; exact r
 | (f,v) :: fl,_,r =>by
  unfold Flds at r ⊢
  refine bc fun hN =>?_
  obtain ⟨hs,t,u,r',e,h1,h2⟩:=r
  refine hN ?_; clear hN
  exact ⟨hs,t,u,r',e,h1.mono k,Flds.mono k h2⟩
theorem At.keep {env : Env} {h h' : Heap} {m : Str → Option Value} {x : Str} {u : Value} (a : At env h m x u) (k : Sub h h') : At env h' m x u:=by
 rcases a with a | ⟨b,c,e,o,ho,hd⟩
 ·exact .inl a
 ·exact .inr ⟨b,c,e,o,k _ _ ho,hd⟩
theorem Held.keep {X : Gx} {env : Env} {H Mu : List Addr} {h h' : Heap} {m : Str → Option Value} {a : Addr} {x : Str} (k : Sub h h') : ∀ {av : AV},Held X env H Mu h m a x av → Held X env H Mu h' m a x av
 | .val _,⟨u,a,r⟩ =>⟨u,a.keep k,r.mono (.of (hide_keep k))⟩
 | .own _,⟨us,e1,e2,⟨o,ho,r1⟩,e4,e5,r⟩ =>⟨us,e1,e2,⟨o,k _ _ ho,r1⟩,e4,e5,r.mono (.of (hide_keep k))⟩
 | .inst _ _,⟨ix,Ca,es,n,e1,e2,e3,e4,e5,e6,e7,e8,r⟩ =>⟨ix,Ca,es,n,e1.keep k,e2,k _ _ e3,k _ _ e4,e5,e6,e7,e8,r.mono (.of (hide_keep k))⟩
theorem St.kp {X : Gx} {sc : Scope} {env : Env} {H Mu : List Addr} {g : Gam} {s s' : Shared} (S : St X sc env H Mu g s) (k : Kp s s') : St X sc env H Mu g s':=by
 refine bc fun hN =>?_
 obtain ⟨m,ad,n,hd,inj,hside⟩:=S.held
 refine hN ?_; clear hN
 exact ⟨fun b o e =>k.keep b o (S.base b o e),S.kind,S.glob,S.blt,S.kinds,S.ho.kp k,m,ad,n.keeps k.keep,fun x av hx hl =>(hd x av hx hl).keep k.keep,inj,hside⟩
section
variable {X : Gx} {sc : Scope} {env : Env} {H Mu : List Addr} {g : Gam} {s : Shared} {A : Around} {E : Value → Shared → Prop} {Q : Value → Shared → Prop}
theorem isLoc_dbg {x : Str} (h : isLoc sc x = true) : (x == ("__debug__" : Str)) = false ∧ (x == ("__classdict__" : Str)) = false:=by
 unfold isLoc dbg at h
 simp only [Bool.and_eq_true,Bool.not_eq_true',Bool.or_eq_false_iff] at h
 exact h.1.1
theorem isLoc_not0 {x : Str} (h : isLoc sc x = true) : (x == (".0" : Str)) = false:=by
 unfold isLoc dbg at h
 simp only [Bool.and_eq_true,Bool.not_eq_true',Bool.or_eq_false_iff] at h
 exact h.1.2
theorem isGlo_dbg {x : Str} (h : isGlo sc x = true) : (x == ("__debug__" : Str)) = false:=by
 unfold isGlo dbg at h
 simp only [Bool.and_eq_true,Bool.not_eq_true',Bool.or_eq_false_iff] at h
 exact h.1.1.1
theorem isGlo_kind {x : Str} (h : isGlo sc x = true) : sc.names.lookup x = some .globalImplicit:=by
 unfold isGlo at h
 simp only [Bool.and_eq_true] at h
 exact beq_iff_eq.mp h.2
theorem load_at {m : Str → Option Value} {x : Str} {p : Pos} {u : Value} (hk : env.scope.kind = .function) (hd : (x == ("__debug__" : Str)) = false ∧ (x == ("__classdict__" : Str)) = false) (hn : s.heap.Ns env.locals m) (a : At env s.heap m x u) (q : Q u s) :
  wpAny (model X.prog X.w) A (eval (.Name x p) env) Q E s:=by
 refine wpAny_Name ?_ hd.1
 rcases a with ⟨e1,e2⟩ | ⟨e1,c,e2,e3⟩
 ·exact wpAny_loadName_local hk e1 hn e2 q
 ·rcases e1 with e1 | e1
  ·exact wpAny_loadName_cell hk e1 e2 e3 q
  ·exact wpAny_loadName_free hk e1 e2 e3 q hd.2
theorem load_ok {x : Str} {p : Pos} {v : V} (S : St X sc env H Mu g s) (hx : isLoc sc x = true) (hl : g.lookup x = some (.val v)) (q : Post H s v Q) :
  wpAny (model X.prog X.w) A (eval (.Name x p) env) Q E s:=by
 refine bc fun hN =>?_
 obtain ⟨m,ad,n,hd,_⟩:=S.held
 obtain ⟨u,a,r⟩:=hd x _ hx hl
 refine hN ?_; clear hN
 exact load_at S.kind (isLoc_dbg hx) n a (q _ _ (Kp.refl s) r)
theorem load_own {x : Str} {p : Pos} {xs : List V} (S : St X sc env H Mu g s) (hx : isLoc sc x = true) (hl : g.lookup x = some (.own xs)) (q : ∀ a us,s.heap.IsList a us.toArray → Reps (hideAll s.heap H) xs us → Q (.ref a) s) :
  wpAny (model X.prog X.w) A (eval (.Name x p) env) Q E s:=by
 refine bc fun hN =>?_
 obtain ⟨m,ad,n,hd,_⟩:=S.held
 obtain ⟨us,e1,e2,e3,_,_,r⟩:=hd x _ hx hl
 refine hN ?_; clear hN
 exact load_at S.kind (isLoc_dbg hx) n (.inl ⟨e1,e2⟩) (q _ _ e3.isList r)
theorem load_glob {x : Str} {p : Pos} {u : Value} (S : St X sc env H Mu g s) (hx : isGlo sc x = true) (hl : X.mg x = some u) (q : Q u s) :
  wpAny (model X.prog X.w) A (eval (.Name x p) env) Q E s :=
 Name_function_global S.kind (S.kinds.glo _ (isGlo_kind hx)) (loadGlobal_global (by rw [S.glob]; exact X.g.keeps S.base) hl q) (isGlo_dbg hx)
theorem load_blt {x : Str} {p : Pos} (S : St X sc env H Mu g s) (hx : isGlo sc x = true) (hl : isBlt x = true) (q : Q (bltVal x) s) :
  wpAny (model X.prog X.w) A (eval (.Name x p) env) Q E s :=
 Name_function_global S.kind (S.kinds.glo _ (isGlo_kind hx)) (loadGlobal_builtin (by rw [S.glob]; exact X.g.keeps S.base) (X.bl x hl).1 (by rw [S.blt]; exact X.b.keeps S.base) (X.bl x hl).2 q) (isGlo_dbg hx)
end
noncomputable def FnSpec (X : Gx) (N : Nat) (f : Value) (vs : List V) (kvs : List (Str × V)) (r : V) : Prop :=
 ∀ (A : Around) (s : Shared) (H : List Addr) (us kus : List Value) (Q E : Value → Shared → Prop),Room A N → Sub X.B0 s.heap → HOk H s.heap → Reps (hideAll s.heap H) vs us → Reps (hideAll s.heap H) (kvs.map (·.2)) kus → Post H s r Q →
  wpAny (model X.prog X.w) A (call f us ((kvs.map (·.1)).zip kus)) Q E s
noncomputable def PmSpec (X : Gx) (N : Nat) (C : Addr) (f : Addr) (vs : List V) (r : V) : Prop :=
 ∀ (A : Around) (s : Shared) (H : List Addr) (ix dx : Addr) (us : List Value) (Q E : Value → Shared → Prop),Room A N → Sub X.B0 s.heap → HOk H s.heap → s.heap.get? ix = some (instObj C dx) → Reps (hideAll s.heap H) vs us → Post H s r Q →
  wpAny (model X.prog X.w) A (call (.ref f) (.ref ix :: us)) Q E s
structure MethAt (X : Gx) (C : Addr) (m : Str) (f : Addr) : Prop where
 get : plainGet X.K C m = true
 find : findIn X.K (.ref C) m = some (some (.ref f))
 fn : isFn X.K (.ref f) = true
 keep : keepIn X.K (.ref f) = true
structure FieldAt (X : Gx) (C : Addr) (f : Str) : Prop where
 get : plainGet X.K C f = true
 has : hasDictIn X.K C = true
 find : findIn X.K (.ref C) f = some none
structure GOk (X : Gx) (G : Ge) (N : Nat) : Prop where
 cst : ∀ x v,G.cst x = some v → ∃ u,X.mg x = some u ∧ ∀ h,Rep h v u
 fn : ∀ f vs kvs r,G.fn f vs kvs = some r → ∃ a,X.mg f = some (.ref a) ∧ keepIn X.K (.ref a) = true ∧ FnSpec X N (.ref a) vs kvs r
 pm : ∀ C m vs r Ca,G.pm C m vs = some r → X.clsA C = some Ca → ∃ f,MethAt X Ca m f ∧ PmSpec X N Ca f vs r
 flds : ∀ C f Ca,f ∈ G.flds C → X.clsA C = some Ca → FieldAt X Ca f
section
variable (X : Gx) (G : Ge) (N : Nat)
noncomputable def EvOK (n : Nat) : Prop:=∀ (sc : Scope) (env : Env) (H Mu : List Addr) (g : Gam) (s : Shared) (A : Around) (E Q : Value → Shared → Prop) (e : Expr) (v : V),
 St X sc env H Mu g s → Room A (N + n) → ev n G sc g e = some v → Post H s v Q → wpAny (model X.prog X.w) A (eval e env) Q E s
noncomputable def EvTOK (n : Nat) : Prop:=∀ (sc : Scope) (env : Env) (H Mu : List Addr) (g : Gam) (s : Shared) (A : Around) (E : Value → Shared → Prop) (Q : Bool → Shared → Prop) (e : Expr) (b : Bool),
 St X sc env H Mu g s → Room A (N + n) → evT n G sc g e = some b → (∀ s',Kp s s' → Q b s') → wpAny (model X.prog X.w) A (isTrue e env (eval e env)) Q E s
noncomputable def EvBOK (n : Nat) : Prop:=∀ (sc : Scope) (env : Env) (H Mu : List Addr) (g : Gam) (s : Shared) (A : Around) (E Q : Value → Shared → Prop) (op : BoolOp) (es : List Expr) (p : Pos) (v : V),
 St X sc env H Mu g s → Room A (N + n) → evB n G sc g op es = some v → Post H s v Q → wpAny (model X.prog X.w) A (eval (.BoolOp op es p) env) Q E s
noncomputable def EvAOK (n : Nat) : Prop:=∀ (sc : Scope) (env : Env) (H Mu : List Addr) (g : Gam) (s : Shared) (A : Around) (E : Value → Shared → Prop) (Q : Bool → Shared → Prop) (op : BoolOp) (es : List Expr) (b : Bool),
 St X sc env H Mu g s → Room A (N + n) → evA n G sc g op es = some b → (∀ s',Kp s s' → Q b s') → wpAny (model X.prog X.w) A (allTrue op es env) Q E s
noncomputable def EvCOK (n : Nat) : Prop:=∀ (sc : Scope) (env : Env) (H Mu : List Addr) (g : Gam) (s : Shared) (A : Around) (E : Value → Shared → Prop) (x : V) (u : Value) (ops : List CmpOp) (es : List Expr) (b : Bool) (p : Pos),
 St X sc env H Mu g s → Room A (N + n) → evC n G sc g x ops es = some b → Rep (hideAll s.heap H) x u →
  (∀ Q : Value → Shared → Prop,Post H s (.bool b) Q → wpAny (model X.prog X.w) A (compareChain p u ops (evalEach es env)) Q E s) ∧
  (∀ Q : Bool → Shared → Prop,(∀ s',Kp s s' → Q b s') → wpAny (model X.prog X.w) A (testChain p u ops (evalEach es env)) Q E s)
noncomputable def EvOOK (n : Nat) : Prop:=∀ (sc : Scope) (env : Env) (H Mu : List Addr) (g : Gam) (s : Shared) (A : Around) (E Q : Value → Shared → Prop) (o : Option Expr) (r : Option Int),
 St X sc env H Mu g s → Room A (N + n) → evO n G sc g o = some r → (∀ u s',Kp s s' → IsPart u r → Q u s') → wpAny (model X.prog X.w) A (evalPart o env) Q E s
end
section
variable {X : Gx} {G : Ge} {N n : Nat}
theorem Room.up {A : Around} {n : Nat} (r : Room A (N + (n + 1))) : Room A (N + n):=r.mono (by lia)
theorem const_ok {c : Const} {v : V} {env : Env} {H : List Addr} {s : Shared} {A : Around} {E Q : Value → Shared → Prop} {k : Nat} {p : Pos} (e : constV c = some v) (q : Post H s v Q) :
  wpAny (model X.prog X.w) A (eval (.Constant c k p) env) Q E s:=by
 cases c with
 | none =>obtain rfl:=Option.some.inj e; exact wpAny_Constant_none q.none
 | bool b =>obtain rfl:=Option.some.inj e; exact wpAny_Constant_bool q.bool
 | int i =>obtain rfl:=Option.some.inj e; exact wpAny_Constant_int (q.int _ _)
 | str x =>obtain rfl:=Option.some.inj e; exact wpAny_Constant_str (q.str _ _)
 | bytes b =>obtain rfl:=Option.some.inj e; exact Constant_bytes (q.bytes (by simp [KBw.bInts]) _ _)
 | _ =>exact nS e
theorem starEach_plain {e : Expr} {es : List Expr} {env : Env} {sc : Scope} {g : Gam} {v : V} (h : ev n G sc g e = some v) : starEach (e :: es) env = (false,eval e env) :: starEach es env:=by
 cases e
 case Starred =>cases n <;> exact nomatch (show (Option.none : Option V) = some v from h)
 all_goals rfl
theorem spliced_ok (I : EvOK X G N n) {sc : Scope} {env : Env} {H Mu : List Addr} {g : Gam} {A : Around} {E : Value → Shared → Prop} {p : Pos} (hA : Room A (N + n)) :
  ∀ {es : List Expr} {vs : List V} {s : Shared} {Q : List Value → Shared → Prop},St X sc env H Mu g s → mapO (ev n G sc g) es = some vs →
   (∀ us s',Kp s s' → Reps (hideAll s'.heap H) vs us → Q us s') → wpAny (model X.prog X.w) A (spliced (backTo p (starEach es env))) Q E s
 | [],vs,s,Q,S,e,q =>by
  simp only [mapO,Option.some.injEq] at e; subst e
  exact spliced_nil (q [] s (Kp.refl s) .nil)
 | e :: es,vs,s,Q,S,he,q =>by
  unfold mapO at he
  split at he
  ·rename_i v hv
   refine map_el he fun ws hw hEqq2 =>?_
   subst hEqq2
   rw [starEach_plain hv]
   refine spliced_cons (I _ _ _ _ _ _ _ _ _ _ _ S hA hv fun u s' k r =>?_)
   exact spliced_ok I hA (S.kp k) hw fun us s'' k' rs =>q _ _ (k.trans k') (.cons (r.kp k') rs)
  ·exact nS he
theorem backTo_any {p : Pos} {env : Env} {sc : Scope} {g : Gam} : ∀ {es : List Expr} {vs : List V},mapO (ev n G sc g) es = some vs → (backTo p (starEach es env)).any (·.1) = false
 | [],_,_ =>rfl
 | e :: es,vs,he =>by
  unfold mapO at he
  split at he
  ·rename_i v hv
   refine map_el he fun ws hw hEqq2 =>?_
   subst hEqq2
   rw [starEach_plain hv]
   show (false || (backTo p (starEach es env)).any (·.1)) = false
   rw [backTo_any hw]; rfl
  ·exact nS he
theorem evalArgs_ok (I : EvOK X G N n) {sc : Scope} {env : Env} {H Mu : List Addr} {g : Gam} {A : Around} {E : Value → Shared → Prop} {p : Pos} {f : Value} (hA : Room A (N + n))
  {es : List Expr} {vs : List V} {s : Shared} {Q : Args → Shared → Prop} (S : St X sc env H Mu g s) (e : mapO (ev n G sc g) es = some vs)
  (q : ∀ us s',Kp s s' → Reps (hideAll s'.heap H) vs us → Q ⟨us,[]⟩ s') : wpAny (model X.prog X.w) A (evalArgs f true (backTo p (starEach es env)) []) Q E s:=by
 have h:=spliced_ok (p:=p) (E:=E) I hA S e (Q:=fun us s' =>Q ⟨us,[]⟩ s') q
 cases es with
 | nil =>
  simp only [mapO,Option.some.injEq] at e; subst e
  exact evalArgs_nil3 (q [] s (Kp.refl s) .nil)
 | cons e1 es =>
  unfold mapO at e
  split at e
  ·rename_i v hv
   rw [starEach_plain hv] at h ⊢
   exact evalArgs_plain h
  ·exact nS e
theorem partV_int {v : V} {r : Option Int} (e : partV (some v) = some r) : ∃ i,v = .int i ∧ r = some i:=by
 cases v with
 | int i =>obtain ⟨_,e⟩:=ite_somep e; obtain rfl:=Option.some.inj e; exact ⟨i,rfl,rfl⟩
 | _ =>exact nS e
theorem evO_ok (I : EvOK X G N n) : EvOOK X G N (n + 1):=by
 intro sc env H Mu g s A E Q o r S hA e q
 cases o with
 | none =>
  cases (show some Option.none = some r from e)
  rw [evalPart_none]; exact wpAny_pure (q _ _ (Kp.refl s) .none)
 | some ex =>
  refine bc fun hN =>?_
  refine bind_el (show (ev n G sc g ex).bind (fun v =>partV (some v)) = some r from e) fun v hv e =>?_
  obtain ⟨i,rfl,rfl⟩:=partV_int e
  refine hN ?_; clear hN
  rw [evalPart_some]
  refine I _ _ _ _ _ _ _ _ _ _ _ S hA.up hv fun u s' k rr =>q u s' k ?_
  refine bc fun hN =>?_
  obtain ⟨t,rfl⟩:=rep_int rr
  refine hN ?_; clear hN
  exact .int _ _
theorem evB_ok (I : EvOK X G N n) (IB : EvBOK X G N n) : EvBOK X G N (n + 1):=by
 intro sc env H Mu g s A E Q op es p v S hA e q
 cases es with
 | nil =>exact nS (show (Option.none : Option V) = some v from e)
 | cons e1 r =>
  cases r with
  | nil =>exact BoolOp_one (I _ _ _ _ _ _ _ _ _ _ _ S hA.up e q)
  | cons e2 r =>
   cases op with
   | And =>
    refine bc fun hN =>?_
    refine bind_el (show ((ev n G sc g e1).bind fun v =>v.tru.bind fun b =>cond b (evB n G sc g .And (e2 :: r)) (some v)) = some v from e) fun v1 hv1 e =>?_
    refine bind_el e fun b hb e =>?_
    refine hN ?_; clear hN
    refine BoolOp_and (I _ _ _ _ _ _ _ _ _ _ _ S hA.up hv1 fun u s' k rr =>tru_ok hb rr ?_)
    cases b with
    | true =>exact IB _ _ _ _ _ _ _ _ _ _ _ _ _ (S.kp k) hA.up e (q.after k)
    | false =>obtain rfl:=Option.some.inj e; exact q u s' k rr
   | Or =>
    refine bc fun hN =>?_
    refine bind_el (show ((ev n G sc g e1).bind fun v =>v.tru.bind fun b =>cond b (some v) (evB n G sc g .Or (e2 :: r))) = some v from e) fun v1 hv1 e =>?_
    refine bind_el e fun b hb e =>?_
    refine hN ?_; clear hN
    refine BoolOp_or (I _ _ _ _ _ _ _ _ _ _ _ S hA.up hv1 fun u s' k rr =>tru_ok hb rr ?_)
    cases b with
    | true =>obtain rfl:=Option.some.inj e; exact q u s' k rr
    | false =>exact IB _ _ _ _ _ _ _ _ _ _ _ _ _ (S.kp k) hA.up e (q.after k)
theorem evA_ok (IT : EvTOK X G N n) (IA : EvAOK X G N n) : EvAOK X G N (n + 1):=by
 intro sc env H Mu g s A E Q op es b S hA e q
 cases es with
 | nil =>
  cases (show some (op == .And) = some b from e)
  cases op with
  | And =>exact wpAny_allTrue_And_nil (q s (Kp.refl s))
  | Or =>exact wpAny_allTrue_Or_nil (q s (Kp.refl s))
 | cons e1 r =>
  cases op with
  | And =>
   refine bind_el (show ((evT n G sc g e1).bind fun b =>cond b (evA n G sc g .And r) (some false)) = some b from e) fun c hc e =>?_
   refine wpAny_allTrue_And_cons (IT _ _ _ _ _ _ _ _ _ _ _ S hA.up hc fun s' k =>?_)
   cases c with
   | true =>exact IA _ _ _ _ _ _ _ _ _ _ _ _ (S.kp k) hA.up e fun s'' k' =>q s'' (k.trans k')
   | false =>obtain rfl:=Option.some.inj e; exact q s' k
  | Or =>
   refine bind_el (show ((evT n G sc g e1).bind fun b =>cond b (some true) (evA n G sc g .Or r)) = some b from e) fun c hc e =>?_
   refine wpAny_allTrue_Or_cons (IT _ _ _ _ _ _ _ _ _ _ _ S hA.up hc fun s' k =>?_)
   cases c with
   | true =>obtain rfl:=Option.some.inj e; exact q s' k
   | false =>exact IA _ _ _ _ _ _ _ _ _ _ _ _ (S.kp k) hA.up e fun s'' k' =>q s'' (k.trans k')
theorem rep_bool {h : Heap} {c : Bool} {u : Value} (r : Rep h (.bool c) u) : u = .bool c:=by unfold Rep at r; exact r
theorem evC_ok (I : EvOK X G N n) (IC : EvCOK X G N n) : EvCOK X G N (n + 1):=by
 intro sc env H Mu g s A E x u ops es b p S hA e hx
 cases ops with
 | nil =>exact nS (show (Option.none : Option Bool) = some b from e)
 | cons op ops =>
  cases es with
  | nil =>exact nS (show (Option.none : Option Bool) = some b from e)
  | cons e1 es =>
   obtain ⟨y,hy,e⟩:=bind_some' (show ((ev n G sc g e1).bind fun y =>(cmpV op x y).bind fun b =>(match (generalizing:=false) ops with
    | [] =>(match (generalizing:=false) es with
     | [] =>some b
     | _ :: _ =>.none)
    | _ :: _ =>(match (generalizing:=false) es with
     | [] =>.none
     | _ :: _ =>cond b (evC n G sc g y ops es) (some false)))) = some b from e)
   refine bc fun hN =>?_
   refine bind_el e fun c hc e =>?_
   refine hN ?_; clear hN
   cases ops with
   | nil =>
    cases es with
    | cons _ _ =>exact nS e
    | nil =>
     obtain rfl:=Option.some.inj e
     exact ⟨fun Q q =>chain_last (I _ _ _ _ _ _ _ _ _ _ _ S hA.up hy fun v s' k r =>cmpV_ok hA.u hc (hx.kp k) r (q.after k)),fun Q q =>test_last (I _ _ _ _ _ _ _ _ _ _ _ S hA.up hy fun v s' k r =>cmpV_ok hA.u hc (hx.kp k) r fun c s'' k' rr =>rep_bool rr ▸ wpAny_truthy_bool (q s'' (k.trans k')))⟩
   | cons op2 ops =>
    cases es with
    | nil =>cases e
    | cons e2 es =>
     refine ⟨fun Q q =>chain_link (I _ _ _ _ _ _ _ _ _ _ _ S hA.up hy fun v s' k r =>cmpV_ok hA.u hc (hx.kp k) r fun c' s'' k' rr =>rep_bool rr ▸ wpAny_truthy_bool ?_),fun Q q =>test_link (I _ _ _ _ _ _ _ _ _ _ _ S hA.up hy fun v s' k r =>cmpV_ok hA.u hc (hx.kp k) r fun c' s'' k' rr =>rep_bool rr ▸ wpAny_truthy_bool ?_)⟩
     ·cases c with
      | true =>exact (IC _ _ _ _ _ _ A E _ _ _ _ _ p (S.kp (k.trans k')) hA.up e (r.kp k')).1 Q (q.after (k.trans k'))
      | false =>cases e; exact (q.after (k.trans k')).bool
     ·cases c with
      | true =>exact (IC _ _ _ _ _ _ A E _ _ _ _ _ p (S.kp (k.trans k')) hA.up e (r.kp k')).2 Q fun s3 k3 =>q s3 ((k.trans k').trans k3)
      | false =>cases e; exact q s'' (k.trans k')
end
noncomputable def IsSeq (o : Obj) : Prop:=∃ items n,o.data = .seq items n
inductive Itr (X : Gx) (A : Around) (H : List Addr) (s : Shared) (xs : List V) (it : Value) (s₂ : Shared) : Prop
 | mk (I : Addr) (fp wr : List Addr) (P : Nat → Value → Prop) (S : Nat → Heap → Prop) (e : it = .ref I) (W : Walks X.prog X.w A I fp wr xs.length P S) (hS : S 0 s₂.heap)
  (hw : ∀ b ∈ wr,s.heap.get? b = none ∧ b < s₂.heap.objs.size)
  (hf : ∀ b ∈ fp,(b ∈ wr ∧ s.heap.get? b = none ∧ b < s₂.heap.objs.size) ∨ ∃ o,s.heap.get? b = some o ∧ b ∉ H ∧ IsSeq o)
  (hP : ∀ i u,P i u → ∃ x,xs[i]? = some x ∧ Rep (hideAll s.heap H) x u)
  (hn : ∀ (i : Nat) (h : Heap),S i h → ∀ b ∈ wr,(∃ o,h.get? b = some o) ∧ ∀ o,h.get? b = some o → ¬ IsSeq o ∧ o.data ≠ .plain)
  (hl : ∀ (i : Nat) (u : Value) (s' : Shared) (tgt : Expr) (Q : Unit → Shared → Prop) (E : Value → Shared → Prop),S (i + 1) s'.heap → Q () s' → wpAny (model X.prog X.w) A (letOwnedTupleGo tgt (.ref I) u) Q E s') : Itr X A H s xs it s₂
theorem go_of {M : Model} {A : Around} {I : Addr} {u : Value} {s' : Shared} {tgt : Expr} {Q : Unit → Shared → Prop} {E : Value → Shared → Prop} {o : Obj} {n : String} (ho : s'.heap.get? I = some o) (hc : o.cls = .type n)
  (hn : (["enumerate","zip","dict_itemiterator","dict_reverseitemiterator","odict_iterator","itertools.zip_longest","itertools.pairwise"].contains n) = false) (q : Q () s') : wpAny M A (letOwnedTupleGo tgt (.ref I) u) Q E s':=by
 cases tgt
 case Tuple =>
  unfold letOwnedTupleGo
  cases u <;> try exact wpAny_pure q
  refine wpAny_bind (wpAny_load ho ?_)
  rw [hc]
  split
  ·rename_i n' vs e1 e2
   cases e1
   rw [hn,Bool.false_and,if_neg (by decide)]
   exact wpAny_pure q
  ·exact wpAny_pure q
 case List =>
  unfold letOwnedTupleGo
  cases u <;> try exact wpAny_pure q
  refine wpAny_bind (wpAny_load ho ?_)
  rw [hc]
  split
  ·rename_i n' vs e1 e2
   cases e1
   rw [hn,Bool.false_and,if_neg (by decide)]
   exact wpAny_pure q
  ·exact wpAny_pure q
 all_goals exact wpAny_pure q
section
variable (X : Gx) (G : Ge) (N : Nat)
noncomputable def EvIOK (n : Nat) : Prop:=∀ (sc : Scope) (env : Env) (H Mu : List Addr) (g : Gam) (s : Shared) (A : Around) (E : Value → Shared → Prop) (Q : Value → Shared → Prop) (e : Expr) (xs : List V),
 St X sc env H Mu g s → Room A (N + n) → evI n G sc g e = some xs → (∀ it s₁ s₂,Kp s s₁ → Kp s₁ s₂ → Itr X A H s₁ xs it s₂ → Q it s₂) →
  wpAny (model X.prog X.w) A (eval e env) (fun xv s₁ =>wpAny (model X.prog X.w) A (pyIter xv) Q E s₁) E s
end
section
variable {X : Gx} {G : Ge} {N n : Nat}
theorem get_none_of_kp {s s' : Shared} (k : Kp s s') {b : Addr} (h : s'.heap.get? b = none) : s.heap.get? b = none:=by
 cases e : s.heap.get? b with
 | none =>rfl
 | some o =>rw [k.keep b o e] at h; cases h
theorem get_size {h : Heap} : h.get? h.objs.size = none:=by
 cases e : h.get? h.objs.size with
 | none =>rfl
 | some o =>exact absurd (Heap.lt_size e) (Nat.lt_irrefl _)
theorem size_fresh {s s' : Shared} (k : Kp s s') : s.heap.get? s'.heap.objs.size = none:=get_none_of_kp k get_size
theorem items_ok {A : Around} {H : List Addr} {s₁ : Shared} {v : V} {u : Value} {xs : List V} {E Q : Value → Shared → Prop} (hh : A.handled = none) (e : itemsV v = some xs) (r : Rep (hideAll s₁.heap H) v u) (q : ∀ it s₂,Kp s₁ s₂ → Itr X A H s₁ xs it s₂ → Q it s₂) :
  wpAny (model X.prog X.w) A (pyIter u) Q E s₁:=by
 have old : ∀ (o : Obj),s₁.heap.objs.size < (s₁.heap.push o).objs.size:=fun o =>by rw [Heap.size_push]; exact Nat.lt_succ_self _
 have seqOf : ∀ {a : Addr} {o : Obj},(hideAll s₁.heap H).get? a = some o → IsSeq o → ∃ o,s₁.heap.get? a = some o ∧ a ∉ H ∧ IsSeq o:=fun {a o} ho hs =>⟨_,of_hideAll H ho,hide_off ho,hs⟩
 unfold itemsV at e
 split at e
 ·split at e
  ·cases e
   unfold Rep at r; obtain ⟨a,us,rfl,hl,hr⟩:=r
   refine bc fun hN =>?_
   obtain ⟨o,ho,hc,m,hd⟩:=id hl
   refine hN ?_; clear hN
   have hl':=unhide_list hl
   have hne : a ≠ s₁.heap.objs.size:=Nat.ne_of_lt (Heap.lt_size (of_hideAll H ho))
   refine wpAny_pyIter_list hl' (q _ _ (Kp.push _) ⟨_,_,_,_,_,rfl,by rw [← hr.size]; exact Walks.list hh _ a hne us.toArray,?_,?_,?_,?_,?_,?_⟩)
   ·exact ⟨⟨_,Heap.get?_push_size _ rfl,rfl,rfl⟩,⟨_,Heap.get?_push_of_some _ (of_hideAll H ho),hc,m,hd⟩⟩
   ·intro b hb; rw [List.mem_singleton.mp hb]; exact ⟨get_size,old _⟩
   ·intro b hb
    rcases List.mem_cons.mp hb with rfl | hb
    ·exact .inl ⟨.head _,get_size,old _⟩
    ·rw [List.mem_singleton.mp hb]; exact .inr (seqOf ho ⟨_,_,hd⟩)
   ·intro i u hi
    have hi' : us[i]? = some u:=by simpa using hi
    have hlt : i < xs.length:=by have:=hr.length; have:=(List.getElem?_eq_some_iff.mp hi').1; lia
    refine bc fun hN =>?_
    obtain ⟨v,e1,rv⟩:=hr.get (List.getElem?_eq_getElem hlt)
    refine hN ?_; clear hN
    rw [hi'] at e1; cases e1
    exact ⟨_,List.getElem?_eq_getElem hlt,rv⟩
   ·intro i h hS b hb
    refine bc fun hN =>?_
    obtain ⟨⟨o',ho',hc',hd'⟩,_⟩:=hS
    refine hN ?_; clear hN
    refine ⟨⟨o',by rw [List.mem_singleton.mp hb]; exact ho'⟩,fun o ho =>?_⟩
    rw [List.mem_singleton.mp hb] at ho
    rw [ho] at ho'; cases ho'
    exact ⟨fun ⟨_,_,hq⟩ =>(by rw [hd'] at hq; cases hq),fun hq =>by rw [hd'] at hq; cases hq⟩
   ·intro i u s' tgt Q' E' hS q'
    refine bc fun hN =>?_
    obtain ⟨⟨o',ho',hc',_⟩,_⟩:=hS
    refine hN ?_; clear hN
    exact go_of ho' hc' (by decide) q'
  ·exact nS e
 ·split at e
  ·cases e
   unfold Rep at r; obtain ⟨a,us,rfl,hl,hr⟩:=r
   refine bc fun hN =>?_
   obtain ⟨o,ho,hc,m,hd⟩:=id hl
   refine hN ?_; clear hN
   have hl' : s₁.heap.IsTuple a us.toArray:=unhide_tup hl
   have hne : a ≠ s₁.heap.objs.size:=Nat.ne_of_lt (Heap.lt_size (of_hideAll H ho))
   refine wpAny_pyIter_tuple hl' (q _ _ (Kp.push _) ⟨_,_,_,_,_,rfl,by rw [← hr.size]; exact Walks.tuple hh _ a hne us.toArray,?_,?_,?_,?_,?_,?_⟩)
   ·exact ⟨⟨_,Heap.get?_push_size _ rfl,rfl,rfl⟩,⟨_,Heap.get?_push_of_some _ (of_hideAll H ho),hc,m,hd⟩⟩
   ·intro b hb; rw [List.mem_singleton.mp hb]; exact ⟨get_size,old _⟩
   ·intro b hb
    rcases List.mem_cons.mp hb with rfl | hb
    ·exact .inl ⟨.head _,get_size,old _⟩
    ·rw [List.mem_singleton.mp hb]; exact .inr (seqOf ho ⟨_,_,hd⟩)
   ·intro i u hi
    have hi' : us[i]? = some u:=by simpa using hi
    have hlt : i < xs.length:=by have:=hr.length; have:=(List.getElem?_eq_some_iff.mp hi').1; lia
    refine bc fun hN =>?_
    obtain ⟨v,e1,rv⟩:=hr.get (List.getElem?_eq_getElem hlt)
    refine hN ?_; clear hN
    rw [hi'] at e1; cases e1
    exact ⟨_,List.getElem?_eq_getElem hlt,rv⟩
   ·intro i h hS b hb
    refine bc fun hN =>?_
    obtain ⟨⟨o',ho',hc',hd'⟩,_⟩:=hS
    refine hN ?_; clear hN
    refine ⟨⟨o',by rw [List.mem_singleton.mp hb]; exact ho'⟩,fun o ho =>?_⟩
    rw [List.mem_singleton.mp hb] at ho
    rw [ho] at ho'; cases ho'
    exact ⟨fun ⟨_,_,hq⟩ =>(by rw [hd'] at hq; cases hq),fun hq =>by rw [hd'] at hq; cases hq⟩
   ·intro i u s' tgt Q' E' hS q'
    refine bc fun hN =>?_
    obtain ⟨⟨o',ho',hc',_⟩,_⟩:=hS
    refine hN ?_; clear hN
    exact go_of ho' hc' (by decide) q'
  ·cases e
 ·split at e
  ·obtain rfl:=Option.some.inj e
   rename_i ks hz
   unfold Rep at r; obtain ⟨b,t,rfl,rfl⟩:=r
   have hl : ((KBw.bInts b).map V.int).length = b.size:=by simp [KBw.bInts]
   refine KBw.pyIter_bytes (q _ _ (Kp.push _) ⟨_,_,_,_,_,rfl,by rw [hl]; exact KBw.walks hh _ b t,?_,?_,?_,?_,?_,?_⟩)
   ·exact ⟨_,Heap.get?_push_size _ rfl,rfl,rfl⟩
   ·intro b hb; rw [List.mem_singleton.mp hb]; exact ⟨get_size,old _⟩
   ·intro b hb; rw [List.mem_singleton.mp hb]; exact .inl ⟨.head _,get_size,old _⟩
   ·rintro i u ⟨c,t',hc,rfl⟩
    refine ⟨.int (c.toNat : Int),?_,by unfold Rep; exact ⟨t',rfl⟩⟩
    have : b.toList[i]? = some c:=by simpa using hc
    simp [KBw.bInts,this]
   ·intro i h hS b hb
    refine bc fun hN =>?_
    obtain ⟨o',ho',hc',hd'⟩:=hS
    refine hN ?_; clear hN
    refine ⟨⟨o',by rw [List.mem_singleton.mp hb]; exact ho'⟩,fun o ho =>?_⟩
    rw [List.mem_singleton.mp hb] at ho
    rw [ho] at ho'; obtain rfl:=Option.some.inj ho'
    exact ⟨fun ⟨_,_,hq⟩ =>(by rw [hd'] at hq; cases hq),fun hq =>by rw [hd'] at hq; cases hq⟩
   ·intro i u s' tgt Q' E' hS q'
    refine bc fun hN =>?_
    obtain ⟨o',ho',hc',_⟩:=hS
    refine hN ?_; clear hN
    exact go_of ho' hc' (by decide) q'
  ·cases e
 ·cases e
theorem range_ok {A : Around} {H : List Addr} {s s₁ : Shared} {r : Addr} {a b c : Int} {t u v : Tok} {xs : List V} {E Q : Value → Shared → Prop} (hh : A.handled = none) (k : Kp s s₁) (hr : IsRange s₁.heap r a b c t u v) (ha : a.natAbs < 1073741824) (hb : b.natAbs < 1073741824) (hc1 : 1 ≤ c) (hc2 : c ≤ 64)
  (hn : Builtin.Range.rangeSize a b c = (xs.length : Int)) (hx : ∀ i,i < xs.length → xs[i]? = some (.int (a + i * c))) (q : ∀ it s₂,Kp s s₂ → Itr X A H s xs it s₂ → Q it s₂) :
  wpAny (model X.prog X.w) A (pyIter (.ref r)) Q E s₁:=by
 have old : ∀ (o : Obj),s₁.heap.objs.size < (s₁.heap.push o).objs.size:=fun o =>by rw [Heap.size_push]; exact Nat.lt_succ_self _
 have hsz : (xs.length : Int) ≤ 4294967296:=by
  rw [← hn]; unfold Builtin.Range.rangeSize
  rw [if_pos (by lia)]
  split
  ·have : (b - a - 1) / c ≤ (b - a - 1):=Int.ediv_le_self _ (by lia)
   omega
  ·lia
 have fit : ∀ {x : Int},-4294967296 ≤ x → x ≤ 4294967296 → Builtin.Range.rangeFitsLong x = true:=fun h1 h2 =>by
  unfold Builtin.Range.rangeFitsLong
  rw [Bool.and_eq_true,decide_eq_true_eq,decide_eq_true_eq]
  exact ⟨Int.le_trans (by decide) h1,Int.lt_of_le_of_lt h2 (by decide)⟩
 have hb' : -1073741824 ≤ b ∧ b ≤ 1073741824:=by lia
 have hsm : Builtin.Range.small a b c = true:=by
  unfold Builtin.Range.small
  rw [hn,fit (x:=a) (by lia) (by lia),fit (x:=b) (by lia) (by lia),fit (x:=c) (by lia) (by lia),fit (x:=xs.length) (by lia) hsz,if_pos (by lia),fit (x:=b + (c - 1)) (by lia) (by lia)]
  simp
 refine wpAny_pyIter_range hr hsm (q _ _ (k.trans (Kp.push _)) ⟨_,_,_,_,_,rfl,(Walks.range hh _ a c xs.length).bound,?_,?_,?_,?_,?_,?_⟩)
 ·show Heap.get? _ _ = _
  rw [hn]
  simpa using Heap.get?_push_size _ rfl
 ·intro b hb; rw [List.mem_singleton.mp hb]; exact ⟨size_fresh k,old _⟩
 ·intro b hb; rw [List.mem_singleton.mp hb]; exact .inl ⟨.head _,size_fresh k,old _⟩
 ·rintro i u ⟨hi,t',rfl⟩
  exact ⟨_,hx i hi,by unfold Rep; exact ⟨t',rfl⟩⟩
 ·intro i h hS b hb
  have hS' : h.get? _ = some _:=hS
  refine ⟨⟨_,by rw [List.mem_singleton.mp hb]; exact hS'⟩,fun o ho =>?_⟩
  rw [List.mem_singleton.mp hb] at ho
  rw [ho] at hS'; obtain rfl:=Option.some.inj hS'
  exact ⟨fun ⟨_,_,hq⟩ =>(by cases hq),fun hq =>by cases hq⟩
 ·intro i u s' tgt Q' E' hS q'
  exact go_of hS rfl (by decide) q'
theorem iterV_ok {A : Around} {H : List Addr} {s s₁ : Shared} {f : Str} {vs : List V} {us : List Value} {xs : List V} {E Q : Value → Shared → Prop} (hh : A.handled = none) (k : Kp s s₁) (e : iterV f vs = some xs) (hr : Reps (hideAll s₁.heap H) vs us) (q : ∀ it s₂,Kp s s₂ → Itr X A H s xs it s₂ → Q it s₂) :
  wpAny (model X.prog X.w) A (call (bltVal f) us []) (fun xv s' =>wpAny (model X.prog X.w) A (pyIter xv) Q E s') E s₁:=by
 unfold iterV at e
 split at e
 ·rename_i hf
  have : f = ("range" : Str):=beq_iff_eq.mp hf
  subst this
  show wpAny (model X.prog X.w) A (call (.type "range") us []) _ E s₁
  refine bind_el e fun ns en er =>?_
  clear e
  obtain rfl:=intsV_inv en
  clear en
  cases ns with
  | nil =>exact nS er
  | cons a ns =>
  cases ns with
  | nil =>
   refine ite_el er fun hz er =>?_
   obtain rfl:=Option.some.inj er
   simp only [small,Bool.and_eq_true,decide_eq_true_eq] at hz
   obtain ⟨v,rfl,h1⟩:=hr.one
   unfold Rep at h1; obtain ⟨t,rfl⟩:=h1
   refine call_range_1 (range_ok hh (k.trans (Kp.mk' (fun _ _ e =>Heap.get?_push_of_some _ e))) (Heap.get?_push_size _ rfl) (by decide) hz.2 (by lia) (by lia) ?_ ?_ q)
   ·simp only [rangeL,List.length_map,List.length_range,Builtin.Range.rangeSize]
    rw [if_pos (by lia)]
    split <;> lia
   ·intro i hi
    simp only [rangeL,List.length_map,List.length_range] at hi
    have hi' : i < a.toNat:=by lia
    simp [rangeL,hi']
  | cons b ns =>
  cases ns with
  | nil =>
   refine ite_el er fun hz er =>?_
   obtain rfl:=Option.some.inj er
   simp only [small,Bool.and_eq_true,decide_eq_true_eq] at hz
   obtain ⟨v,w,rfl,h1,h2⟩:=hr.two
   unfold Rep at h1 h2; obtain ⟨t,rfl⟩:=h1; obtain ⟨t',rfl⟩:=h2
   refine call_range_2 (range_ok hh (k.trans (Kp.mk' (fun _ _ e =>Heap.get?_push_of_some _ e))) (Heap.get?_push_size _ rfl) hz.1.1 hz.2 (by lia) (by lia) ?_ ?_ q)
   ·simp only [rangeL,List.length_map,List.length_range,Builtin.Range.rangeSize]
    rw [if_pos (by lia)]
    split <;> lia
   ·intro i hi
    simp only [rangeL,List.length_map,List.length_range] at hi
    simp [rangeL,hi]
  | cons c ns =>
  cases ns with
  | cons _ _ =>exact nS er
  | nil =>
   refine ite_el er fun hz er =>?_
   obtain rfl:=Option.some.inj er
   simp only [small,Bool.and_eq_true,decide_eq_true_eq] at hz
   obtain ⟨v,w,z,rfl,h1,h2,h3⟩:=hr.three
   unfold Rep at h1 h2 h3; obtain ⟨t,rfl⟩:=h1; obtain ⟨t',rfl⟩:=h2; obtain ⟨t'',rfl⟩:=h3
   refine call_range_3 (by omega) (range_ok hh (k.trans (Kp.mk' (fun _ _ e =>Heap.get?_push_of_some _ e))) (Heap.get?_push_size _ rfl) hz.1.1.1.1 hz.1.1.2 hz.1.2 hz.2 ?_ ?_ q)
   ·simp only [rangeL3,List.length_map,List.length_range,Builtin.Range.rangeSize]
    rw [if_pos (by omega)]
    split
    ·have : 0 ≤ (b - a - 1) / c:=Int.ediv_nonneg (by lia) (by omega)
     omega
    ·lia
   ·intro i hi
    simp only [rangeL3,List.length_map,List.length_range] at hi
    simp [rangeL3,hi]
 ·exact nS e
end
structure CompOk (sc csc : Scope) (x : Str) : Prop where
 kind : csc.kind = .function
 nocell : ∀ p ∈ csc.names,p.2 ≠ .cell
 loc : ∀ p ∈ csc.names,p.2 = .local → (p.1 = x ∨ p.1 = (".0" : Str)) ∧ csc.names.lookup p.1 = some .local
 fre : ∀ p ∈ csc.names,p.2 = .free → sc.names.lookup p.1 = some .cell ∨ sc.names.lookup p.1 = some .free
 tgt : csc.names.lookup x = some .local
 nself : x ≠ ("self" : Str)
theorem compOk_of {sc csc : Scope} {x : Str} (h : compOk sc csc x = true) : CompOk sc csc x:=by
 unfold compOk at h
 simp only [Bool.and_eq_true,List.all_eq_true,Bool.or_eq_true,bne_iff_ne,beq_iff_eq] at h
 refine bc fun hN =>?_
 obtain ⟨⟨⟨h1,h4⟩,h2⟩,h3⟩:=h
 refine hN ?_; clear hN
 refine ⟨h1,fun p hp =>(h2 p hp).1.1,fun p hp hl =>?_,fun p hp hf =>?_,h3,h4⟩
 ·rcases (h2 p hp).1.2 with a | a
  ·exact absurd hl a
  ·exact a
 ·rcases (h2 p hp).2 with (a | a) | a
  ·exact absurd hf a
  ·exact .inl a
  ·exact .inr a
theorem lookup_mem {α : Type} {l : List (Str × α)} {x : Str} {k : α} (h : l.lookup x = some k) : (x,k) ∈ l:=by
 induction l with
 | nil =>simp at h
 | cons p r ih =>
  obtain ⟨n,k'⟩:=p
  rw [List.lookup_cons] at h
  cases e : x == n with
  | true =>rw [e] at h; obtain rfl:=Option.some.inj h; rw [beq_iff_eq.mp e]; exact .head _
  | false =>rw [e] at h; exact .tail _ (ih h)
theorem closure_ok {env : Env} : ∀ {names : List (Str × NameKind)},(∀ p ∈ names,p.2 = .free → (env.cells.lookup p.1).isSome = true) →
  ∀ (acc : List (Str × Addr)) (f : Str × NameKind → List (Str × Addr) → Sem (ForInStep (List (Str × Addr)))),
   (∀ p cs,f p cs = if (p.2 == .free) = true then (do let c ← cellOf env p.1; pure (.yield ((p.1,c) :: cs))) else pure (.yield cs)) →
   (∀ x c,acc.lookup x = some c → env.cells.lookup x = some c) →
   ∃ cl,forIn names acc f = pure cl ∧ (∀ x c,cl.lookup x = some c → env.cells.lookup x = some c) ∧ (∀ x c,acc.lookup x = some c → cl.lookup x = some c) ∧ ∀ x,(x,NameKind.free) ∈ names → (cl.lookup x).isSome = true
 | [],_,acc,f,hf,ha =>⟨acc,by simp,ha,fun _ _ h =>h,fun _ h =>by cases h⟩
 | (n,k) :: r,h,acc,f,hf,ha =>by
  simp only [List.forIn_cons,hf]
  have hr : ∀ p ∈ r,p.2 = .free → (env.cells.lookup p.1).isSome = true:=fun p hp =>h p (.tail _ hp)
  cases hk : k == NameKind.free with
  | true =>
   have hk' : k = .free:=beq_iff_eq.mp hk
   subst hk'
   refine bc fun hN =>?_
   obtain ⟨c,hc⟩:=Option.isSome_iff_exists.mp (h (n,.free) (.head _) rfl)
   have e1 : cellOf env n = pure c:=by unfold cellOf; rw [hc]
   have ha' : ∀ x c',List.lookup x ((n,c) :: acc) = some c' → env.cells.lookup x = some c':=fun x c' hx =>by
    rw [List.lookup_cons] at hx
    cases e : x == n with
    | true =>rw [e] at hx; obtain rfl:=Option.some.inj hx; simp only [beq_iff_eq.mp e,hc]
    | false =>rw [e] at hx; exact ha x c' hx
   obtain ⟨cl,h1,h2,h3,h4⟩:=closure_ok hr ((n,c) :: acc) f hf ha'
   refine hN ?_; clear hN
   have hh : (cl.lookup n).isSome = true:=by rw [h3 n c (by simp)]; rfl
   refine ⟨cl,?_,h2,fun x c' hx =>?_,fun x hm =>?_⟩
   ·simp only [e1,pure_bind]; exact h1
   ·cases e : x == n with
    | true =>rw [beq_iff_eq.mp e] at hx ⊢; simp only [h3 n c (by simp),← hc,ha _ _ hx]
    | false =>exact h3 x c' (by simp only [List.lookup_cons,e]; exact hx)
   ·rcases List.mem_cons.mp hm with e | hm
    ·cases e; exact hh
    ·exact h4 x hm
  | false =>
   refine bc fun hN =>?_
   obtain ⟨cl,h1,h2,h3,h4⟩:=closure_ok hr acc f hf ha
   refine hN ?_; clear hN
   refine ⟨cl,?_,h2,h3,fun x hm =>?_⟩
   ·simp only [hk,Bool.false_eq_true,if_false,pure_bind]; exact h1
   ·rcases List.mem_cons.mp hm with e | hm
    ·cases e; cases hk
    ·exact h4 x hm
theorem closureFor_ok {env : Env} {csc : Scope} (h : ∀ p ∈ csc.names,p.2 = .free → (env.cells.lookup p.1).isSome = true) :
  ∃ cl,closureFor csc env = pure cl ∧ (∀ x c,cl.lookup x = some c → env.cells.lookup x = some c) ∧ ∀ x,(x,NameKind.free) ∈ csc.names → (cl.lookup x).isSome = true:=by
 unfold closureFor
 refine bc fun hN =>?_
 obtain ⟨cl,h1,h2,_,h4⟩:=closure_ok h [] _ (fun p cs =>rfl) (fun _ _ h =>by simp at h)
 refine hN ?_; clear hN
 refine ⟨cl,?_,h2,h4⟩
 exact (congrArg (· >>= pure) h1).trans rfl
theorem look_relabel {env : Env} : ∀ {names : List (Str × NameKind)} {x : Str} {k : NameKind},names.lookup x = some k →
  (names.map fun (n,k) =>if (k == NameKind.free && env.scope.kind == .function && env.kindOf n == some .cell) then (n,NameKind.cell) else (n,k)).lookup x = some (if (k == NameKind.free && env.scope.kind == .function && env.kindOf x == some .cell) then .cell else k)
 | [],x,k,h =>by simp at h
 | (n,k') :: r,x,k,h =>by
  show List.lookup x ((if (k' == NameKind.free && env.scope.kind == .function && env.kindOf n == some .cell) = true then (n,NameKind.cell) else (n,k')) :: _) = _
  cases hx : x == n with
  | true =>
   simp only [List.lookup_cons,hx] at h
   obtain rfl:=Option.some.inj h
   have:=beq_iff_eq.mp hx; subst this
   split <;> simp [List.lookup_cons]
  | false =>
   simp only [List.lookup_cons,hx] at h
   have ih:=look_relabel (env:=env) h
   split <;> simp only [List.lookup_cons,hx] <;> exact ih
theorem comp_kinds {env : Env} {csc : Scope} {cl : List (Str × Addr)} {C : Addr} (hf : ∀ x,(x,NameKind.free) ∈ csc.names → (cl.lookup x).isSome = true) (hc : ∀ p ∈ csc.names,p.2 ≠ .cell) : KindsOk csc (compEnvC csc cl C env) where
 loc x h:=lookup_relabel_local h
 cel x h:=absurd rfl (hc _ (lookup_mem h))
 fre x h:=by
  have:=look_relabel (env:=env) h
  show List.lookup x _ = _ ∨ List.lookup x _ = _
  rw [show (compEnvC csc cl C env).scope.names = (csc.names.map fun (n,k) =>if (k == NameKind.free && env.scope.kind == .function && env.kindOf n == some .cell) then (n,NameKind.cell) else (n,k)) from rfl,this]
  split
  ·exact .inl rfl
  ·exact .inr rfl
 glo x h:=by
  have:=look_relabel (env:=env) h
  show List.lookup x _ = _
  rw [show (compEnvC csc cl C env).scope.names = (csc.names.map fun (n,k) =>if (k == NameKind.free && env.scope.kind == .function && env.kindOf n == some .cell) then (n,NameKind.cell) else (n,k)) from rfl,this]
  rfl
 has x h:=by
  rcases h with h | h
  ·exact absurd rfl (hc _ (lookup_mem h))
  ·exact hf x (lookup_mem h)
theorem setL_lookup {α : Type} {x y : Str} {a : α} : ∀ {g : List (Str × α)},(setL x a g).lookup y = if y = x then some a else g.lookup y
 | [] =>by
  simp only [setL,List.lookup_cons,List.lookup_nil]
  by_cases h : y = x
  ·subst h; simp
  ·have : (y == x) = false:=by simpa using h
   simp only [this,if_neg h]
 | (z,b) :: r =>by
  unfold setL
  cases hz : z == x with
  | true =>
   have:=beq_iff_eq.mp hz; subst this
   simp only [if_true,List.lookup_cons]
   by_cases h : y = z
   ·subst h; simp
   ·have : (y == z) = false:=by simpa using h
    rw [this,if_neg h]
  | false =>
   simp only [Bool.false_eq_true,if_false,List.lookup_cons]
   have hzx : ¬ z = x:=by simpa using hz
   by_cases h : y = z
   ·subst h; simp [hzx]
   ·have : (y == z) = false:=by simpa using h
    rw [this]; exact setL_lookup
theorem CompOk.up {sc csc : Scope} {y : Str} (c : CompOk sc csc y) {z : Str} (hz : isLoc csc z = true) (hzy : z ≠ y) : isLoc sc z = true ∧ csc.names.lookup z = some .free:=by
 have hnl : csc.names.lookup z ≠ some .local:=fun e =>by
  rcases (c.loc _ (lookup_mem e) rfl).1 with a | a
  ·exact hzy a
  ·have:=isLoc_not0 hz; rw [show z = (".0" : Str) from a] at this; simp at this
 have hnc : csc.names.lookup z ≠ some .cell:=fun e =>c.nocell _ (lookup_mem e) rfl
 have hfr : csc.names.lookup z = some .free:=by
  unfold isLoc at hz
  simp only [Bool.and_eq_true,Bool.or_eq_true,beq_iff_eq] at hz
  rcases hz.2 with (a | a) | a
  ·exact absurd a hnl
  ·exact absurd a hnc
  ·exact a
 have hsc:=c.fre _ (lookup_mem hfr) rfl
 refine ⟨?_,hfr⟩
 unfold isLoc at hz ⊢
 simp only [Bool.and_eq_true,Bool.or_eq_true,beq_iff_eq] at hz ⊢
 exact ⟨hz.1,by rcases hsc with a | a <;> simp [a]⟩
theorem hide_fresh {H H' : List Addr} {h h' : Heap} (kh : ∀ a ∈ H',a ∈ H ∨ h.get? a = none) (k : Sub h h') : Sub (hideAll h H) (hideAll h' H'):=fun b o e =>by
 refine hideAll_get H' (k b o (of_hideAll H e)) fun hm =>?_
 rcases kh b hm with a | a
 ·exact hide_off e a
 ·rw [of_hideAll H e] at a; cases a
theorem notSeq_ns {h : Heap} {a : Addr} {m : Str → Option Value} {o : Obj} (n : h.Ns a m) (e : h.get? a = some o) : ¬ IsSeq o:=fun ⟨_,_,hq⟩ =>by
 obtain ⟨o',es,ep,ho,hd,_⟩:=n
 rw [e] at ho; obtain rfl:=Option.some.inj ho
 rw [hd] at hq; cases hq
theorem St.comp {X : Gx} {sc csc : Scope} {env : Env} {H H' Mu : List Addr} {g : Gam} {s s' : Shared} {y : Str} {x : V} {u : Value} {C : Addr} {cl : List (Str × Addr)} {m : Str → Option Value}
  (S : St X sc env H Mu g s) (c : CompOk sc csc y) (h1 : ∀ x c,cl.lookup x = some c → env.cells.lookup x = some c) (h2 : ∀ x,(x,NameKind.free) ∈ csc.names → (cl.lookup x).isSome = true)
  (k : Sub s.heap s'.heap) (hCl : s.heap.get? C = none) (kh : ∀ a ∈ H',a ∈ H ∨ s.heap.get? a = none) (ho : HOk H' s'.heap) (hn : s'.heap.Ns C m) (hm : m y = some u) (r : Rep (hideAll s'.heap H') x u) : St X csc (compEnvC csc cl C env) H' Mu (setL y (.val x) g) s' where
 base b o e:=k b o (S.base b o e)
 kind:=c.kind
 glob:=S.glob
 blt:=S.blt
 kinds:=comp_kinds h2 c.nocell
 ho:=ho
 held:=by
  have ks:=hide_fresh kh k
  refine bc fun hN =>?_
  obtain ⟨m0,ad,n0,hd,inj,hside⟩:=S.held
  refine hN ?_; clear hN
  refine ⟨m,ad,hn,fun z av hz hl =>?_,fun z1 z2 hz1 hz2 c1 c2 e =>?_,fun hs =>?_,fun z1 hz1 c1 =>?_⟩
  rotate_left 2
  ·rcases (c.loc _ (lookup_mem hs) rfl).1 with a | a
   ·exact absurd a.symm c.nself
   ·exact absurd a (by decide)
  ·rw [setL_lookup] at c1
   by_cases h1 : z1 = y
   ·subst h1; rw [if_pos rfl] at c1; exact c1.elim
   ·rw [if_neg h1] at c1
    exact hside.2 z1 (c.up hz1 h1).1 c1
  all_goals rw [setL_lookup] at *
  ·by_cases hzy : z = y
   ·subst hzy
    rw [if_pos rfl] at hl; obtain rfl:=Option.some.inj hl
    exact ⟨u,.inl ⟨lookup_relabel_local c.tgt,hm⟩,r⟩
   ·rw [if_neg hzy] at hl
    refine bc fun hN =>?_
    obtain ⟨hzsc,hfr⟩:=c.up hz hzy
    have hsc:=c.fre _ (lookup_mem hfr) rfl
    have hd':=hd z av hzsc hl
    have hkc:=(comp_kinds (env:=env) (C:=C) h2 c.nocell).fre z hfr
    obtain ⟨c1,hc1⟩:=Option.isSome_iff_exists.mp (h2 z (lookup_mem hfr))
    refine hN ?_; clear hN
    have hek : env.kindOf z ≠ some .local:=fun e =>by
     rcases hsc with a | a
     ·rw [S.kinds.cel z a] at e; cases e
     ·rcases S.kinds.fre z a with b | b <;> (rw [b] at e; cases e)
    have at' : ∀ {u : Value},At env s.heap m0 z u → At (compEnvC csc cl C env) s'.heap m z u:=fun {u} a =>by
     rcases a with ⟨a,_⟩ | ⟨_,c2,hc2,hi⟩
     ·exact absurd a hek
     ·refine .inr ⟨hkc,c1,hc1,?_⟩
      have:=h1 z c1 hc1
      rw [hc2] at this; obtain rfl:=Option.some.inj this; exact hi.keeps k
    cases av with
    | val v =>obtain ⟨u,a,r⟩:=hd'; exact ⟨u,at' a,r.mono (.of ks)⟩
    | own xs =>obtain ⟨us,a,_⟩:=hd'; exact absurd a hek
    | inst C' fl =>
     refine bc fun hN =>?_
     obtain ⟨ix,Ca,es,n,a,e2,e3,e4,e5,e6,e7,e8,r⟩:=hd'
     refine hN ?_; clear hN
     refine ⟨ix,Ca,es,n,at' a,e2,k _ _ e3,k _ _ e4,e5,fun hm =>?_,e7,fun hC =>?_,r.mono (.of ks)⟩
     rotate_left 1
     ·rw [show C = ad z from hC.symm,e4] at hCl; cases hCl
     rcases kh _ hm with b | b
     ·exact e6 b
     ·rw [e4] at b; cases b
  ·by_cases h1 : z1 = y
   ·subst h1; rw [if_pos rfl] at c1; exact c1.elim
   ·by_cases h2 : z2 = y
    ·subst h2; rw [if_pos rfl] at c2; exact c2.elim
    ·rw [if_neg h1] at c1; rw [if_neg h2] at c2
     exact inj z1 z2 (c.up hz1 h1).1 (c.up hz2 h2).1 c1 c2 e
section
variable (X : Gx) (G : Ge) (N : Nat)
noncomputable def EvFOK (n : Nat) : Prop:=∀ (sc : Scope) (env : Env) (H Mu : List Addr) (g : Gam) (s : Shared) (A : Around) (E : Value → Shared → Prop) (Q : Bool → Shared → Prop) (es : List Expr) (b : Bool),
 St X sc env H Mu g s → Room A (N + n) → evIfs n G sc g es = some b → (∀ s',Kp s s' → Q b s') →
  wpAny (model X.prog X.w) A (forIn es true fun c r =>if r = true then do let ok ← isTrue c env (eval c env); pure (ForInStep.yield ok) else pure (ForInStep.yield r)) Q E s
end
section
variable {X : Gx} {G : Ge} {N n : Nat}
theorem evF_ok (IT : EvTOK X G N n) : EvFOK X G N (n + 1):=by
 intro sc env H Mu g s A E Q es b S hA e q
 cases es with
 | nil =>cases (show some true = some b from e); exact wpAny_tests_nil (q s (Kp.refl s))
 | cons c r =>
  cases r with
  | nil =>exact wpAny_tests_one (IT _ _ _ _ _ _ _ _ _ _ _ S hA.up e q)
  | cons _ _ =>exact nomatch (show (Option.none : Option Bool) = some b from e)
noncomputable def compF (n : Nat) (G : Ge) (csc : Scope) (g : Gam) (y : Str) (ifs : List Expr) (elt : Expr) (x : V) : Option (Option V):=(evIfs n G csc (setL y (.val x) g) ifs).bind fun b =>cond b ((ev n G csc (setL y (.val x) g) elt).map some) (some .none)
inductive CI (F : V → Option (Option V)) (H : List Addr) (D C : Addr) (wr : List Addr) (T : Nat → Heap → Prop) (xs tot : List V) (s₂ : Shared) (k : Nat) (s' : Shared) : Prop
 | mk (i : Nat) (us : List Value) (ys zs : List V) (m : Str → Option Value) (hi : i ≤ xs.length) (e : k = xs.length - i) (ht : HT s₂ s') (hT : T i s'.heap) (hl : s'.heap.IsList D us.toArray) (hn : s'.heap.Ns C m) (hr : Reps (hideAll s'.heap (D :: H)) ys us)
  (hz : compV F (xs.drop i) = some zs) (htot : ys ++ zs = tot) (hyl : ys.length ≤ i) (hk : ∀ b o,b ∉ wr → s₂.heap.get? b = some o → s'.heap.get? b = some o) : CI F H D C wr T xs tot s₂ k s'
theorem comp_loop (I : EvOK X G N n) (IF : EvFOK X G N n) {sc csc : Scope} {env : Env} {H Mu : List Addr} {g : Gam} {s₁ s₂ s₄ : Shared} {A : Around} {y : Str} {py : Pos} {ifs : List Expr} {elt iter : Expr} {pos : Pos}
  {xs tot : List V} {C D : Addr} {cl : List (Str × Addr)} {J : Addr} {fp wr : List Addr} {P : Nat → Value → Prop} {T : Nat → Heap → Prop} {R : Result → Shared → Prop} {m : Str → Option Value}
  (S : St X sc env H Mu g s₁) (hA : Room A (N + n)) (c : CompOk sc csc y) (h1 : ∀ x c,cl.lookup x = some c → env.cells.lookup x = some c) (h2 : ∀ x,(x,NameKind.free) ∈ csc.names → (cl.lookup x).isSome = true)
  (W : Walks X.prog X.w A J fp wr xs.length P T) (k2 : Kp s₁ s₂) (hw : ∀ b ∈ wr,s₁.heap.get? b = none) (hP : ∀ i u,P i u → ∃ x,xs[i]? = some x ∧ Rep (hideAll s₁.heap H) x u)
  (hns : ∀ (i : Nat) (h : Heap),T i h → ∀ b ∈ wr,∀ o,h.get? b = some o → ¬ IsSeq o ∧ o.data ≠ .plain)
  (hD : s₂.heap.get? D = none) (hC : s₂.heap.get? C = none) (hDC : D ≠ C) (hDf : D ∉ fp) (hCf : C ∉ fp) (hlen : xs.length ≤ lid)
  (e : compV (compF n G csc g y ifs elt) xs = some tot)
  (k4 : Kp s₂ s₄) (hl4 : s₄.heap.IsList D #[]) (hn4 : s₄.heap.Ns C m) (hT4 : T 0 s₄.heap)
  (hR : ∀ s' us m',HT s₂ s' → (∀ b o,b ∉ wr → s₂.heap.get? b = some o → s'.heap.get? b = some o) → s'.heap.IsList D us.toArray → Reps (hideAll s'.heap (D :: H)) tot us → s'.heap.Ns C m' → R (.ok .next) s') :
  codeAny (model X.prog X.w) A (.compLoop (.ListComp elt [⟨.Name y py,iter,ifs,0⟩] csc pos) 0 (.ref J) (.ref D) (compEnvC csc cl C env)) R s₄:=by
 have hpl : ((compEnvC csc cl C env).scope.kind == .class || ((compEnvC csc cl C env).scope.kind == .module && (compEnvC csc cl C env).locals != (compEnvC csc cl C env).globals)) = false:=by
  have : (compEnvC csc cl C env).scope.kind = .function:=c.kind
  simp [this]
 have Dw : D ∉ wr:=fun h =>hDf (W.sub D h)
 have Cw : C ∉ wr:=fun h =>hCf (W.sub C h)
 have kh : ∀ a ∈ D :: H,a ∈ H ∨ s₁.heap.get? a = none:=fun a ha =>by
  rcases List.mem_cons.mp ha with rfl | ha
  ·exact .inr (get_none_of_kp k2 hD)
  ·exact .inl ha
 refine codeAny_compLoop_tests
  (CI (compF n G csc g y ifs elt) H D C wr T xs tot s₂) ?_ xs.length
  ⟨0,[],[],tot,m,Nat.zero_le _,rfl,(let ⟨h',t,e,_⟩:=k4; ⟨h',t,e⟩),hT4,hl4,hn4,.nil,by simpa using e,by simp,by simp,fun b o _ e =>k4.keep b o e⟩
 rintro q s' ⟨i,us,ys,zs,m',hi,rfl,⟨h',t',hs'⟩,hT,hl,hn,hr,hz,htot,hyl,hk⟩
 have kb : ∀ b o,s₁.heap.get? b = some o → s'.heap.get? b = some o:=fun b o e =>hk b o (fun hm =>by rw [hw b hm] at e; exact nS e) (k2.keep b o e)
 rcases Nat.lt_or_ge i xs.length with hlt | hge
 ·have hx : xs.drop i = xs[i] :: xs.drop (i + 1):=List.drop_eq_getElem_cons hlt
  rw [hx] at hz
  refine W.item i s' _ _ hlt hT fun v h1' tk1 hPv hT1 hk1 =>?_
  refine bc fun hN =>?_
  obtain ⟨x,ex,rx⟩:=hP i v hPv
  refine hN ?_; clear hN
  rw [List.getElem?_eq_getElem hlt] at ex; obtain rfl:=Option.some.inj ex
  have hn1 : Heap.Ns h1' C m':=hn.at' fun o e =>hk1 C o Cw e
  have hkC : (compEnvC csc cl C env).kindOf y = some .local:=lookup_relabel_local c.tgt
  refine wpAny_assign_Name (wpAny_storeName_local hkC hn1 (fun h2' hn2 hs2 =>?_) hpl)
  have hs2C : Heap.SameBut C h1' h2':=hs2
  have k12 : ∀ b o,b ∉ wr → b ≠ C → s'.heap.get? b = some o → h2'.get? b = some o:=fun b o hb hbC e =>hs2C.extBut b o hbC (hk1 b o hb e)
  have kb2 : Sub s₁.heap h2':=fun b o e =>k12 b o (fun hm =>by rw [hw b hm] at e; exact nS e) (fun hbC =>by subst hbC; rw [get_none_of_kp k2 hC] at e; exact nS e) (kb b o e)
  let s3 : Shared:={ s' with heap:=h2',toks:=tk1 + 1 }
  have hl2 : h2'.IsList D us.toArray:=hl.at fun o e =>k12 D o Dw hDC e
  have ho2 : HOk (D :: H) h2':=fun a ha =>by
   rcases List.mem_cons.mp ha with rfl | ha
   ·obtain ⟨o,ho,_⟩:=hl2; exact ⟨o,ho⟩
   ·obtain ⟨o,ho⟩:=S.ho a ha; exact ⟨o,kb2 _ _ ho⟩
  have S3 : St X csc (compEnvC csc cl C env) (D :: H) Mu (setL y (.val xs[i]) g) s3:=S.comp c h1 h2 kb2 (get_none_of_kp k2 hC) kh ho2 hn2 (by simp) (rx.mono (.of (hide_fresh kh kb2)))
  have hT2 : T (i + 1) h2':=W.frame _ _ _ hT1 fun b hb o e =>hs2C.extBut b o (fun h =>hCf (by rw [← h]; exact hb)) e
  have hr2 : Reps (hideAll h2' (D :: H)) ys us:=hr.mono fun b o e hseq =>by
   refine hideAll_get (D :: H) (k12 b o (fun hm =>?_) (fun hbC =>?_) (of_hideAll (D :: H) e)) (hide_off e)
   ·exact (hns i _ hT b hm o (of_hideAll (D :: H) e)).1 hseq
   ·subst hbC; exact notSeq_ns hn (of_hideAll (D :: H) e) hseq
  unfold compV at hz
  have fin : ∀ (s5 : Shared) (h5 : Heap) (t5 : Nat) (us' : List Value) (ys' zs' : List V) (m5 : Str → Option Value),s5 = { s₂ with heap:=h5,toks:=t5 } → T (i + 1) h5 → h5.IsList D us'.toArray → h5.Ns C m5 → Reps (hideAll h5 (D :: H)) ys' us' → compV (compF n G csc g y ifs elt) (xs.drop (i + 1)) = some zs' →
    ys' ++ zs' = tot → ys'.length ≤ i + 1 → (∀ b o,b ∉ wr → s₂.heap.get? b = some o → h5.get? b = some o) →
    ∃ q',q' < xs.length - i ∧ CI (compF n G csc g y ifs elt) H D C wr T xs tot s₂ q' s5:=by
   rintro s5 h5 t5 us' ys' zs' m5 rfl a1 a2 a3 a4 a5 a6 a7 a8
   exact ⟨xs.length - (i + 1),Nat.sub_lt_sub_left hlt (Nat.lt_succ_self i),i + 1,us',ys',zs',m5,hlt,rfl,⟨h5,t5,rfl⟩,a1,a2,a3,a4,a5,a6,a7,a8⟩
  have old2 : ∀ b o,b ∉ wr → s₂.heap.get? b = some o → h2'.get? b = some o:=fun b o hb e =>k12 b o hb (fun hbC =>by subst hbC; rw [hC] at e; exact nS e) (hk b o hb e)
  split at hz
  ·rename_i w hw
   refine bind_el hw fun b ht hw =>?_
   cases b with
   | false =>cases hw
   | true =>
    refine bc fun hN =>?_
    refine map_el hw fun w' hw' ew =>?_
    refine hN ?_; clear hN
    cases ew
    refine bc fun hN =>?_
    refine map_el hz fun zs' hz' hEqq2 =>?_
    subst hEqq2
    refine hN ?_; clear hN
    refine IF _ _ _ _ _ _ _ _ _ _ _ S3 hA ht fun s5 k5 =>?_
    rw [if_pos rfl]
    refine I _ _ _ _ _ _ _ _ _ _ _ (S3.kp k5) hA hw' fun u s6 k6 r6 =>?_
    have k56:=k5.trans k6
    have hl6 : s6.heap.IsList D us.toArray:=hl2.at fun o e =>k56.keep _ _ e
    have hyl' : us.length = ys.length:=hr.length
    refine wpAny_list_append (hsz:=by have:=lid_le; rw [List.size_toArray]; lia) hl6 fun h7 hl7 hs7 =>?_
    have k67 : ∀ b o,b ≠ D → h2'.get? b = some o → h7.get? b = some o:=fun b o hb e =>hs7.extBut b o hb (k56.keep b o e)
    refine bc fun hN =>?_
    obtain ⟨h6,t6,e6,_⟩:=k56
    refine hN ?_; clear hN
    refine fin _ h7 t6 (us ++ [u]) (ys ++ [w]) zs' _ (by rw [e6]; subst hs'; rfl) ?_ (by simpa using hl7) (hn2.at' fun o e =>k67 _ o (Ne.symm hDC) e) ?_ hz' (by simp [← htot]) (by simp; lia) fun b o hb e =>k67 b o (fun hbD =>by subst hbD; rw [hD] at e; cases e) (old2 b o hb e)
    ·exact W.frame _ _ _ hT2 fun b hb o e =>k67 b o (fun h =>hDf (by rw [← h]; exact hb)) e
    ·refine Reps.append (hr2.mono fun b o e _ =>?_) (Reps.cons (r6.mono fun b o e _ =>?_) .nil)
     ·have hb:=hide_off e
      exact hideAll_get (D :: H) (k67 b o (fun h =>hb (by rw [h]; exact .head _)) (of_hideAll (D :: H) e)) hb
     ·have hb:=hide_off e
      exact hideAll_get (D :: H) (hs7.extBut b o (fun h =>hb (by rw [h]; exact .head _)) (of_hideAll (D :: H) e)) hb
  ·rename_i hw
   refine bc fun hN =>?_
   refine bind_el hw fun b hf hw =>?_
   refine hN ?_; clear hN
   cases b with
   | true =>obtain ⟨_,_,ew⟩:=map_some' hw; cases ew
   | false =>
    refine IF _ _ _ _ _ _ _ _ _ _ _ S3 hA hf fun s5 k5 =>?_
    rw [if_neg (by decide)]
    refine bc fun hN =>?_
    obtain ⟨h5,t5,e5,_⟩:=id k5
    refine hN ?_; clear hN
    refine fin _ s5.heap t5 us ys zs _ (by rw [e5]; subst hs'; rfl) (W.frame _ _ _ hT2 fun b _ o e =>k5.keep b o e) (hl2.at fun o e =>k5.keep _ _ e) (hn2.at' fun o e =>k5.keep _ _ e) (hr2.kp k5) hz htot (by lia) fun b o hb e =>k5.keep b o (old2 b o hb e)
  ·cases hz
 ·have hie : i = xs.length:=Nat.le_antisymm hi hge
  subst hie
  rw [List.drop_length] at hz
  simp only [compV,Option.some.injEq] at hz; subst hz
  rw [List.append_nil] at htot; subst htot
  refine W.done s' _ _ hT fun h1' tk1 hk1 =>?_
  have hr1 : Reps (hideAll h1' (D :: H)) ys us:=hr.mono fun b o e hseq =>by
   refine hideAll_get (D :: H) (hk1 b o (fun hm =>?_) (of_hideAll (D :: H) e)) (hide_off e)
   exact (hns _ _ hT b hm o (of_hideAll (D :: H) e)).1 hseq
  exact hR _ us m' ⟨h1',tk1,by subst hs'; rfl⟩ (fun b o hb e =>hk1 b o hb (hk b o hb e)) (hl.at fun o e =>hk1 D o Dw e) hr1 (hn.at' fun o e =>hk1 C o Cw e)
end
section
variable {X : Gx} {G : Ge} {N n : Nat}
theorem comp_ok (I : EvOK X G N n) (II : EvIOK X G N n) (IF : EvFOK X G N n) {sc csc : Scope} {env : Env} {H Mu : List Addr} {g : Gam} {s : Shared} {A : Around} {y : Str} {py : Pos} {ifs : List Expr} {elt iter : Expr} {pos pos' : Pos}
  {xs tot : List V} {use : Option (Value → Sem Unit)} {E Q : Value → Shared → Prop}
  (S : St X sc env H Mu g s) (hA : Room A (N + n)) (c : CompOk sc csc y) (hi : evI n G sc g iter = some xs) (hlen : xs.length ≤ lid)
  (e : compV (compF n G csc g y ifs elt) xs = some tot) (hs : ∀ x,foldedSetIterable iter env x = pure x)
  (q : match use with
   | none =>∀ u s',Kp s s' → Rep (hideAll s'.heap H) (.list tot) u → Q u s'
   | some f =>∀ u s' C,Kp s s' → Rep (hideAll s'.heap H) (.list tot) u → s.heap.get? C = none → (∃ m,s'.heap.Ns C m) →
     wpAny (model X.prog X.w) A (f u) (fun _ s'' =>(∀ m,s'.heap.Ns C m → s''.heap.Ns C m) ∧ ∀ h',Heap.SameBut C s''.heap h' → Q .none { s'' with heap:=h' }) E s') :
  wpAny (model X.prog X.w) A (comprehension (.ListComp elt [⟨.Name y py,iter,ifs,0⟩] csc pos) csc env pos' (newList []) false (eval iter env) use) Q E s:=by
 have hcells : ∀ p ∈ csc.names,p.2 = .free → (env.cells.lookup p.1).isSome = true:=fun p hp hf =>S.kinds.has p.1 (c.fre p hp hf)
 refine bc fun hN =>?_
 obtain ⟨cl,hcl,h1,h2⟩:=closureFor_ok hcells
 refine hN ?_; clear hN
 have hnames : ∀ x ∈ csc.names,x.2 = .local → csc.names.lookup x.1 = some .local:=fun p hp hl =>(c.loc p hp hl).2
 refine wpAny_comprehension_free rfl hs hcl c.kind hnames (II _ _ _ _ _ _ _ _ _ _ _ S hA hi fun it s₁ s₂ k1 k2 IT =>?_)
 refine bc fun hN =>?_
 obtain ⟨J,fp,wr,P,T,rfl,W,hT0,hw,hfp,hP,hns,_⟩:=IT
 refine hN ?_; clear hN
 have S1:=S.kp k1
 refine wpAny_newObj_type (wpAny_newFunctionEnv c.nocell (by intro y hy; simp at hy) (fun h3 hn3 hs3 =>?_) c.kind)
 dsimp only at hn3 hs3 ⊢
 generalize hH2 : s₂.heap.push { cls:=.type "list",dict:=none,data:=.seq ([] : List Value).toArray } = H2 at hn3 hs3 ⊢
 have hC : H2.objs.size = s₂.heap.objs.size + 1:=by simp only [← hH2,Heap.size_push]
 have hDC : s₂.heap.objs.size ≠ H2.objs.size:=by rw [hC]; exact Nat.ne_of_lt (Nat.lt_succ_self _)
 have fresh : ∀ a,s₂.heap.objs.size ≤ a → s₂.heap.get? a = none:=fun a ha =>by
  cases e : s₂.heap.get? a with
  | none =>rfl
  | some o' =>exact absurd (Heap.lt_size e) (Nat.not_lt.mpr ha)
 have hfl : ∀ b ∈ fp,b < s₂.heap.objs.size:=fun b hb =>by
  rcases hfp b hb with a | ⟨o,a,_⟩
  ·exact a.2.2
  ·exact Heap.lt_size (k2.keep b o a)
 have old : ∀ b o,s₂.heap.get? b = some o → h3.get? b = some o:=fun b o e =>hs3.extBut b o (by rw [hC]; exact Nat.ne_of_lt (Nat.lt_succ_of_lt (Heap.lt_size e))) (Heap.get?_push_of_some _ (hH2 ▸ Heap.get?_push_of_some _ e))
 have hacc : h3.IsList s₂.heap.objs.size #[]:=⟨_,hs3.extBut _ _ hDC (Heap.get?_push_of_some _ (hH2 ▸ Heap.get?_push_size _ rfl)),rfl,_,rfl⟩
 have fC : s₂.heap.get? H2.objs.size = none:=fresh _ (by rw [hC]; exact Nat.le_succ _)
 have fD : s₂.heap.get? s₂.heap.objs.size = none:=fresh _ (Nat.le_refl _)
 have hT3 : T 0 h3:=W.frame _ _ _ hT0 fun b _ o e =>old b o e
 have loop : ∀ s₃ : Shared,s₃ = { s₂ with heap:=h3,toks:=s₂.toks + ([] : List (Str × Value)).length } →
   codeAny (model X.prog X.w) A (.compLoop (.ListComp elt [⟨.Name y py,iter,ifs,0⟩] csc pos) 0 (.ref J) (.ref s₂.heap.objs.size) (compEnvC csc cl H2.objs.size env))
    (compPost (model X.prog X.w) A E use Q (.ref s₂.heap.objs.size) H2.objs.size) s₃:=by
  rintro s₃ rfl
  refine comp_loop I IF S1 hA c h1 h2 W k2 (fun b hb =>(hw b hb).1) hP (fun i h hT b hb =>(hns i h hT b hb).2) fD fC hDC (fun h =>Nat.lt_irrefl _ (hfl _ h)) (fun h =>by have:=hfl _ h; rw [hC] at this; exact Nat.lt_irrefl _ (Nat.lt_of_succ_lt this)) hlen e (Kp.mk' old) hacc hn3 hT3 ?_
  intro s' us m' hs' hk hl hr hn'
  refine bc fun hN =>?_
  obtain ⟨h',t',rfl⟩:=hs'
  refine hN ?_; clear hN
  have kp' : Kp s { s₂ with heap:=h',toks:=t' }:=by
   refine bc fun hN =>?_
   obtain ⟨ha,ta,rfl,ka⟩:=k1
   obtain ⟨hb,tb,rfl,kb⟩:=k2
   refine hN ?_; clear hN
   refine ⟨h',t',rfl,fun b o e =>hk b o (fun hm =>?_) (kb b o (ka b o e))⟩
   have:=(hw b hm).1
   simp only [show ({ s with heap:=ha,toks:=ta } : Shared).heap.get? b = _ from ka b o e] at this; cases this
  have rep : ∀ h'',Sub (hideAll h' H) (hideAll h'' H) → Heap.IsList h'' s₂.heap.objs.size us.toArray → s₂.heap.objs.size ∉ H → Rep (hideAll h'' H) (.list tot) (.ref s₂.heap.objs.size):=fun h'' ks hl'' hni =>by
   unfold Rep
   refine bc fun hN =>?_
   obtain ⟨o,ho,r⟩:=hl''
   refine hN ?_; clear hN
   refine ⟨_,us,rfl,⟨o,hideAll_get H ho hni,r⟩,(hr.mono (.of (hide_sub (H':=H) fun a ha =>.tail _ ha))).mono (.of ks)⟩
  have hDH : s₂.heap.objs.size ∉ H:=fun hm =>by
   refine bc fun hN =>?_
   obtain ⟨o,ho⟩:=S1.ho _ hm
   refine hN ?_; clear hN
   exact absurd (Heap.lt_size (k2.keep _ o ho)) (Nat.lt_irrefl _)
  have fCs : s.heap.get? H2.objs.size = none:=get_none_of_kp (k1.trans k2) fC
  have sk : ∀ h'',Heap.SameBut H2.objs.size h' h'' → SeqKeep (hideAll h' H) (hideAll h'' H):=fun h'' hs'' b o e hq =>by
   refine hideAll_get H (hs''.extBut b o (fun hb =>?_) (of_hideAll H e)) (hide_off e)
   subst hb; exact notSeq_ns hn' (of_hideAll H e) hq
  have rp : Rep (hideAll h' H) (.list tot) (.ref s₂.heap.objs.size):=rep h' (fun _ _ e =>e) hl hDH
  cases use with
  | none =>
   refine ⟨m',hn',fun h'' hs'' =>q _ _ ?_ (rp.mono (sk h'' hs''))⟩
   refine bc fun hN =>?_
   obtain ⟨ha,ta,ea,ka⟩:=kp'
   refine hN ?_; clear hN
   refine ⟨h'',t',?_,fun b o e =>hs''.extBut b o (fun hb =>by subst hb; rw [fCs] at e; exact nS e) ?_⟩
   ·have:=congrArg (fun z : Shared =>{ z with heap:=h'',toks:=t' }) ea
    exact this
   ·have:=ka b o e
    rw [show ha = h' from (congrArg Shared.heap ea).symm] at this
    exact this
  | some f =>
   refine wpAny_mono (q _ _ H2.objs.size kp' rp fCs ⟨m',hn'⟩) (fun _ s'' hq =>?_) fun _ _ e =>e
   exact ⟨m',hq.1 m' hn',hq.2⟩
 exact codeAny_compStart_list (loop _ rfl) (W.self 0 _ _ _ hT3 (loop _ rfl))
theorem listComp_ok (I : EvOK X G N n) (II : EvIOK X G N n) (IF : EvFOK X G N n) {sc csc : Scope} {env : Env} {H Mu : List Addr} {g : Gam} {s : Shared} {A : Around} {y : Str} {py : Pos} {ifs : List Expr} {elt iter : Expr} {pos : Pos}
  {xs tot : List V} {E Q : Value → Shared → Prop}
  (S : St X sc env H Mu g s) (hA : Room A (N + n)) (c : CompOk sc csc y) (hi : evI n G sc g iter = some xs) (hlen : xs.length ≤ lid)
  (e : compV (compF n G csc g y ifs elt) xs = some tot) (hs : ∀ x,foldedSetIterable iter env x = pure x) (q : Post H s (.list tot) Q) :
  wpAny (model X.prog X.w) A (eval (.ListComp elt [⟨.Name y py,iter,ifs,0⟩] csc pos) env) Q E s:=by
 rw [eval_ListComp]
 exact comp_ok (use:=none) I II IF S hA c hi hlen e hs q
theorem folded_of {iter : Expr} {env : Env} {sc : Scope} {g : Gam} {xs : List V} (hi : evI n G sc g iter = some xs) : ∀ x,foldedSetIterable iter env x = pure x:=by
 cases iter <;> try (intro x; rfl)
 cases n with
 | zero =>exact nomatch (show (Option.none : Option (List V)) = some xs from hi)
 | succ n =>cases n <;> exact nomatch (show (Option.none : Option (List V)) = some xs from hi)
end
theorem isStr_str (f x : Str) (t : Tok) : (Value.str f t).isStr x = (f == x):=by simp [Value.isStr]
theorem flds_get {h : Heap} : ∀ {fl : List (Str × V)} {es : List DictEntry} {f : Str} {v : V},Flds h fl es → fl.lookup f = some v → ∃ u,getL f es = some (some u) ∧ Rep h v u
 | [],_,f,v,_,e =>by simp at e
 | (x,w) :: fl,es,f,v,r,e =>by
  unfold Flds at r
  refine bc fun hN =>?_
  obtain ⟨hs,t,u,r',rfl,h1,h2⟩:=r
  refine hN ?_; clear hN
  rw [List.lookup_cons] at e
  unfold getL
  rw [List.find?_cons]
  cases hx : f == x with
  | true =>
   rw [hx] at e; obtain rfl:=Option.some.inj e
   have : x = f:=(beq_iff_eq.mp hx).symm
   subst this
   simp only [isStr_str,beq_self_eq_true]
   exact ⟨u,rfl,h1⟩
  | false =>
   rw [hx] at e
   have hx' : (x == f) = false:=by
    cases q : x == f with
    | false =>rfl
    | true =>rw [beq_iff_eq.mp q] at hx; simp at hx
   simp only [isStr_str,hx']
   refine bc fun hN =>?_
   obtain ⟨u',g1,g2⟩:=flds_get h2 e
   refine hN ?_; clear hN
   refine ⟨u',?_,g2⟩
   unfold getL at g1
   rw [List.any_cons]
   have : (DictEntry.refKey ⟨hs,.str x t,u⟩) = false:=by rfl
   rw [this,Bool.false_or]
   exact g1
theorem flds_none {h : Heap} : ∀ {fl : List (Str × V)} {es : List DictEntry} {f : Str},Flds h fl es → fl.lookup f = none → getL f es = some none
 | [],_,f,r,_ =>by unfold Flds at r; subst r; rfl
 | (x,w) :: fl,es,f,r,e =>by
  unfold Flds at r
  obtain ⟨hs,t,u,r',rfl,h1,h2⟩:=r
  rw [List.lookup_cons] at e
  unfold getL
  rw [List.find?_cons]
  cases hx : f == x with
  | true =>rw [hx] at e; cases e
  | false =>
   rw [hx] at e
   have hx' : (x == f) = false:=by
    cases q : x == f with
    | false =>rfl
    | true =>rw [beq_iff_eq.mp q] at hx; simp at hx
   simp only [isStr_str,hx']
   have g1:=flds_none h2 e
   unfold getL at g1
   rw [List.any_cons]
   have : (DictEntry.refKey ⟨hs,.str x t,u⟩) = false:=by rfl
   simp only [this,Bool.false_or]
   exact g1
theorem handedIn_rep {h : Heap} {v : V} {u : Value} (r : Rep h v u) : handedIn u = true:=by
 cases v <;> unfold Rep at r
 ·subst r; rfl
 ·subst r; rfl
 ·obtain ⟨t,rfl⟩:=r; rfl
 ·obtain ⟨t,rfl⟩:=r; rfl
 ·obtain ⟨b,t,rfl,_⟩:=r; rfl
 ·obtain ⟨a,us,rfl,_⟩:=r; rfl
 ·obtain ⟨a,us,rfl,_⟩:=r; rfl
section
variable {X : Gx} {G : Ge} {N n : Nat} {sc : Scope} {env : Env} {H Mu : List Addr} {g : Gam} {s : Shared} {A : Around} {E Q : Value → Shared → Prop}
theorem inst_at {h : Heap} {ix dx Ca : Addr} {es : List DictEntry} {k : Nat} (h1 : h.get? ix = some (instObj Ca dx)) (h2 : h.get? dx = some (dictOf es k)) : InstAt h ix (instObj Ca dx) Ca (some (dictOf es k)):=⟨h1,rfl,rfl,h2⟩
theorem kin_of_base {h : Heap} (S : Sub X.B0 h) : X.K.In h:=X.kin.keeps S
theorem attr_ok (hG : GOk X G N) {x f : Str} {p pa : Pos} {C : Str} {fl : List (Str × V)} {v : V} (S : St X sc env H Mu g s) (hx : isLoc sc x = true) (hl : g.lookup x = some (.inst C fl)) (hf : fl.lookup f = some v) (hF : f ∈ G.flds C) (q : Post H s v Q) :
  wpAny (model X.prog X.w) A (eval (.Attribute (.Name x p) f pa) env) Q E s:=by
 refine bc fun hN =>?_
 obtain ⟨m,ad,n,hd,_⟩:=S.held
 obtain ⟨ix,Ca,es,k,a,e2,e3,e4,_,_,_,_,r⟩:=hd x _ hx hl
 obtain ⟨u,e5,ru⟩:=flds_get r hf
 refine hN ?_; clear hN
 have F:=hG.flds C f Ca hF e2
 refine Attribute_name (load_at S.kind (isLoc_dbg hx) n a (get_value (kin_of_base S.base) (inst_at e3 e4) (plainGet_of F.get).1 (findObj_own F.has F.find rfl (by rw [lookIn_dict]; exact e5)) (handedIn_rep ru) (q u _ (Kp.toks _) ru)))
theorem subscripted_plain {i : Expr} {o v : Value} (h : ∀ a b c p,i ≠ .Slice a b c p) : subscripted i false o v = operate [o,v] (getItem o v):=by
 cases i <;> first | rfl | exact absurd rfl (h _ _ _ _)
theorem ev_noSlice {i : Expr} {v : V} (h : ev n G sc g i = some v) : ∀ a b c p,i ≠ .Slice a b c p:=by
 intro a b c p e
 subst e
 cases n <;> exact nomatch (show (Option.none : Option V) = some v from h)
theorem itemV_int {x j z : V} (e : itemV x j = some z) : ∃ i,j = .int i:=by
 exact bind_el e fun i h _ =>⟨i,intOf_some h⟩
theorem sub_ok (I : EvOK X G N n) {a i : Expr} {p : Pos} {x j z : V} (S : St X sc env H Mu g s) (hA : Room A (N + n)) (hx : ev n G sc g a = some x) (hi : ev n G sc g i = some j) (e : itemV x j = some z) (q : Post H s z Q) :
  wpAny (model X.prog X.w) A (eval (.Subscript a i p) env) Q E s:=by
 refine bc fun hN =>?_
 obtain ⟨j,rfl⟩:=itemV_int e
 refine hN ?_; clear hN
 refine Subscript_ (I _ _ _ _ _ _ _ _ _ _ _ S hA hx fun u s₁ k₁ r₁ =>I _ _ _ _ _ _ _ _ _ _ _ (S.kp k₁) hA hi fun v s₂ k₂ r₂ =>?_)
 unfold Rep at r₂; obtain ⟨t,rfl⟩:=r₂
 exact itemV_ok e (r₁.kp k₂) (subscripted_plain (ev_noSlice hi)) (q.after (k₁.trans k₂))
theorem own_item {value slice : Expr} {xs : List V} {z : V} {i : Int} {l : Addr} {us : List Value} {t : Tok} {prog : Program} {w : World} (e : itemV (.list xs) (.int i) = some z) (hl : s.heap.IsList l us.toArray) (hr : Reps (hideAll s.heap H) xs us)
  (hs : subscripted slice false (.ref l) (.int i t) = operate [.ref l,.int i t] (getItem (.ref l) (.int i t))) (q : Post H s z Q) :
  wpAny (model prog w) A (subscriptTail value slice (.ref l) (.int i t)) Q E s:=by
 have hl63 : lid ≤ 1099511627776:=by decide
 have e : (if xs.length ≤ lid then itemAt xs i else .none) = some z:=e
 split at e
 ·rename_i hz
  refine bc fun hN =>?_
  obtain ⟨j,ej,ex,h1,h2⟩:=itemAt_get e
  obtain ⟨v,ev,rv⟩:=hr.get ex
  refine hN ?_; clear hN
  have hn:=hr.length
  have qv : Q v s:=q _ _ (Kp.refl s) rv
  by_cases h0 : 0 ≤ i
  ·have : j = i.toNat:=by
    unfold seqIndex? at ej
    simp only [show ¬ i < 0 by lia,if_false] at ej
    simp at ej; lia
   refine tail_any hl.typeIs slot_list_getitem.lookup (wpAny_getItem_list hl h0 (by lia) ?_ qv) hs
   rw [← this]; simpa using ev
  ·refine tail_any hl.typeIs slot_list_getitem.lookup (kde_getNeg hl (by lia) (by lia) (by rw [hn]; exact ej) ev qv) hs
 ·exact nS e
theorem subOwn_ok (I : EvOK X G N n) {x : Str} {i : Expr} {p px : Pos} {xs : List V} {j z : V} (S : St X sc env H Mu g s) (hA : Room A (N + n)) (hx : isLoc sc x = true) (hl : g.lookup x = some (.own xs)) (hi : ev n G sc g i = some j) (e : itemV (.list xs) j = some z) (q : Post H s z Q) :
  wpAny (model X.prog X.w) A (eval (.Subscript (.Name x px) i p) env) Q E s:=by
 refine bc fun hN =>?_
 obtain ⟨j,rfl⟩:=itemV_int e
 refine hN ?_; clear hN
 refine Subscript_ (load_own S hx hl fun a us hla hr =>I _ _ _ _ _ _ _ _ _ _ _ S hA hi fun v s₂ k₂ r₂ =>?_)
 unfold Rep at r₂; obtain ⟨t,rfl⟩:=r₂
 exact own_item e (hla.at fun o e =>k₂.keep _ o e) (hr.kp k₂) (subscripted_plain (ev_noSlice hi)) (q.after k₂)
theorem slice_ok (I : EvOK X G N n) (IO : EvOOK X G N n) {a : Expr} {lo hi : Option Expr} {p ps : Pos} {x z : V} {l h : Option Int} (S : St X sc env H Mu g s) (hA : Room A (N + n)) (hx : ev n G sc g a = some x) (hlo : evO n G sc g lo = some l) (hhi : evO n G sc g hi = some h) (e : sliceV x l h = some z) (q : Post H s z Q) :
  wpAny (model X.prog X.w) A (eval (.Subscript a (.Slice lo hi .none ps) p) env) Q E s:=by
 refine Subscript_ (I _ _ _ _ _ _ _ _ _ _ _ S hA hx fun u s₁ k₁ r₁ =>wpAny_Slice (IO _ _ _ _ _ _ _ _ _ _ _ (S.kp k₁) hA hlo fun v s₂ k₂ p₂ =>IO _ _ _ _ _ _ _ _ _ _ _ (S.kp (k₁.trans k₂)) hA hhi fun w s₃ k₃ p₃ =>?_))
 rw [evalPart_none]
 have k:=k₁.trans (k₂.trans k₃)
 exact wpAny_pure (sliceV_ok e (S.ho.kp k) (r₁.kp (k₂.trans k₃)) p₂ p₃ rfl (q.after k))
theorem rev_ok (I : EvOK X G N n) {a : Expr} {p ps pu pc : Pos} {kk : Nat} {x z : V} (S : St X sc env H Mu g s) (hA : Room A (N + n)) (hx : ev n G sc g a = some x) (e : revV x = some z) (q : Post H s z Q) :
  wpAny (model X.prog X.w) A (eval (.Subscript a (.Slice .none .none (some (.UnaryOp .USub (.Constant (.int 1) kk pc) pu)) ps) p) env) Q E s:=by
 refine Subscript_ (I _ _ _ _ _ _ _ _ _ _ _ S hA hx fun u s₁ k₁ r₁ =>wpAny_Slice ?_)
 rw [evalPart_none]
 refine wpAny_pure (wpAny_pure ?_)
 rw [evalPart_some]
 refine wpAny_UnaryOp (wpAny_Constant_int (PyProof.Rows.neg_int ?_))
 have k : Kp s₁ { s₁ with toks:=s₁.toks + 1 + 1 }:=Kp.toks _
 exact revV_ok (s:={ s₁ with toks:=s₁.toks + 1 + 1 }) (ops:=_) e (S.ho.kp (k₁.trans k)) (r₁.kp k) rfl (q.after (k₁.trans k))
end
theorem bltVal_machine {f : Str} (h : ∀ a,bltVal f ≠ .ref a) (M : Model) (hp : Heap) : ∃ k,(k = Keeper.frame ∨ k = Keeper.machine ∨ k = Keeper.boundFrame) ∧ Looks M hp (keeperOf (bltVal f)) k:=by
 refine ⟨.machine,.inr (.inl rfl),?_⟩
 generalize bltVal f = v at h
 cases v <;> first | exact Looks.of_pure rfl | exact absurd rfl (h _)
theorem bltVal_noref (f : Str) : ∀ a,bltVal f ≠ .ref a:=by
 intro a
 unfold bltVal
 repeat (split; · intro h; cases h)
 intro h; cases h
theorem bltV_isBlt {f : Str} {vs : List V} {r : V} (e : bltV f vs = some r) : isBlt f = true:=by
 unfold bltV at e
 unfold isBlt
 repeat (split at e; · rename_i hf; rw [beq_iff_eq.mp hf]; decide)
 exact nS e
theorem iterV_isBlt {f : Str} {vs : List V} {r : List V} (e : iterV f vs = some r) : isBlt f = true:=by
 unfold iterV at e
 split at e
 ·rename_i hf; rw [beq_iff_eq.mp hf]; decide
 ·exact nS e
section
variable {X : Gx} {G : Ge} {N n : Nat} {sc : Scope} {env : Env} {H Mu : List Addr} {g : Gam} {s : Shared} {A : Around} {E Q : Value → Shared → Prop}
theorem kws_all {p : Pos} : ∀ {ks : List Keyword} {kes : List (Str × Expr)},kwV ks = some kes → (backToKw p (keywordEach ks env)).all (·.1.isSome) = true ∧ (backToKw p (keywordEach ks env)).filterMap (·.1) = kes.map (·.1) ∧ (backToKw p (keywordEach ks env)).any (·.1.isNone) = false
 | [],kes,e =>by
  obtain rfl:=Option.some.inj e
  exact ⟨rfl,rfl,rfl⟩
 | ⟨none,v,q⟩ :: r,kes,e =>nS e
 | ⟨some x,v,q⟩ :: r,kes,e =>by
  refine bc fun hN =>?_
  refine map_el (show (kwV r).map ((x,v) :: ·) = some kes from e) fun ks' h1 h2 =>?_
  subst h2
  obtain ⟨a,b,c⟩:=kws_all (p:=p) h1
  refine hN ?_; clear hN
  refine ⟨?_,?_,?_⟩
  ·rw [arm_keywordEach_cons]; simpa [backToKw] using a
  ·rw [arm_keywordEach_cons]; simpa [backToKw] using b
  ·rw [arm_keywordEach_cons]; simpa [backToKw] using c
theorem kws_eval (I : EvOK X G N n) (hA : Room A (N + n)) {p : Pos} : ∀ {ks : List Keyword} {kes : List (Str × Expr)} {kvs : List (Str × V)} {s : Shared} {Q : List Value → Shared → Prop},St X sc env H Mu g s → kwV ks = some kes →
  mapO (fun (p : Str × Expr) =>(ev n G sc g p.2).map fun v =>(p.1,v)) kes = some kvs → (∀ us s',Kp s s' → Reps (hideAll s'.heap H) (kvs.map (·.2)) us → kes.map (·.1) = kvs.map (·.1) → Q us s') → wpAny (model X.prog X.w) A (evalAll ((backToKw p (keywordEach ks env)).map (·.2))) Q E s
 | [],kes,kvs,s,Q,S,e,h,q =>by
  obtain rfl:=Option.some.inj e
  simp only [mapO,Option.some.injEq] at h; subst h
  exact wpAny_evalAll_nil (q [] s (Kp.refl s) .nil rfl)
 | ⟨none,v,q⟩ :: r,kes,kvs,s,Q,S,e,h,_ =>nS e
 | ⟨some x,v,q'⟩ :: r,kes,kvs,s,Q,S,e,h,q =>by
  refine bc fun hN =>?_
  refine map_el (show (kwV r).map ((x,v) :: ·) = some kes from e) fun ks' h1 h2 =>?_
  subst h2
  refine hN ?_; clear hN
  unfold mapO at h
  split at h
  ·rename_i b hb
   refine bc fun hN =>?_
   refine map_el hb fun w hw hEqq2 =>?_
   subst hEqq2
   refine map_el h fun ws hws hEqq2 =>?_
   subst hEqq2
   refine hN ?_; clear hN
   refine wpAny_evalAll_cons (x:=do let v ← eval v env; standAt p; pure v) (wpAny_bind (wpAny_mono (I _ _ _ _ _ _ _ _ _ _ _ S hA hw fun u s₁ k₁ r₁ =>?_) (fun _ _ h =>h) fun _ _ h =>h)) (Q:=Q) (rest:=(backToKw p (keywordEach r env)).map (·.2))
   refine wpAny_bind (wpAny_standAt (wpAny_pure (kws_eval I hA (S.kp k₁) h1 hws fun us s₂ k₂ r₂ hk =>?_)))
   exact q _ _ (k₁.trans k₂) (.cons (r₁.kp k₂) r₂) (by simp [hk])
  ·exact nS h
theorem evalArgsKw_ok (I : EvOK X G N n) (hA : Room A (N + n)) {p p' : Pos} {f : Value} {es : List Expr} {vs : List V} {ks : List Keyword} {kes : List (Str × Expr)} {kvs : List (Str × V)} {Q : Args → Shared → Prop} (S : St X sc env H Mu g s) (e : mapO (ev n G sc g) es = some vs)
  (hk : kwV ks = some kes) (hv : mapO (fun (p : Str × Expr) =>(ev n G sc g p.2).map fun v =>(p.1,v)) kes = some kvs)
  (q : ∀ us kus s',Kp s s' → Reps (hideAll s'.heap H) vs us → Reps (hideAll s'.heap H) (kvs.map (·.2)) kus → Q ⟨us,(kvs.map (·.1)).zip kus⟩ s') : wpAny (model X.prog X.w) A (evalArgs f true (backTo p (starEach es env)) (backToKw p' (keywordEach ks env))) Q E s:=by
 refine bc fun hN =>?_
 obtain ⟨h1,h2,_⟩:=kws_all (env:=env) (p:=p') hk
 refine hN ?_; clear hN
 have h:=spliced_ok (p:=p) (E:=E) I hA S e (Q:=fun us s₁ =>wpAny (model X.prog X.w) A (evalAll ((backToKw p' (keywordEach ks env)).map (·.2))) (fun kus s₂ =>Q ⟨us,((backToKw p' (keywordEach ks env)).filterMap (·.1)).zip kus⟩ s₂) E s₁) fun us s₁ k₁ r₁ =>
  kws_eval I hA (S.kp k₁) hk hv fun kus s₂ k₂ r₂ hn =>by simp only [h2,hn]; exact q us kus s₂ (k₁.trans k₂) (r₁.kp k₂) r₂
 cases es with
 | nil =>
  refine evalArgs_kw_nil h1 ?_
  simp only [mapO,Option.some.injEq] at e; subst e
  exact kws_eval I hA S hk hv fun kus s₂ k₂ r₂ hn =>by simp only [h2,hn]; exact q [] kus s₂ k₂ .nil r₂
 | cons e1 es =>
  unfold mapO at e
  split at e
  ·rename_i v hv1
   rw [starEach_plain hv1] at h ⊢
   exact evalArgs_kw h1 h
  ·exact nS e
theorem callFn_ok (hG : GOk X G N) (I : EvOK X G N n) (hA : Room A (N + n)) {f : Str} {pf p : Pos} {es : List Expr} {vs : List V} {ks : List Keyword} {kes : List (Str × Expr)} {kvs : List (Str × V)} {r : V} (S : St X sc env H Mu g s) (hf : isGlo sc f = true)
  (e : mapO (ev n G sc g) es = some vs) (hk : kwV ks = some kes) (hv : mapO (fun (p : Str × Expr) =>(ev n G sc g p.2).map fun v =>(p.1,v)) kes = some kvs) (hr : G.fn f vs kvs = some r) (q : Post H s r Q) :
  wpAny (model X.prog X.w) A (eval (.Call (.Name f pf) es ks p) env) Q E s:=by
 refine bc fun hN =>?_
 obtain ⟨a,hm,hkp,F⟩:=hG.fn f vs kvs r hr
 obtain ⟨_,_,h3⟩:=kws_all (env:=env) (p:=p) hk
 refine hN ?_; clear hN
 refine wpAny_Call_Name_kw (load_glob S hf hm ?_)
 refine callWith_of (P:=fun h =>X.K.In h) (by simp only [backTo_any e,h3]; rfl) (keeps_K hkp) (evalArgsKw_ok I hA S e hk hv fun us kus s' k r1 r2 =>⟨kin_of_base (S.kp k).base,?_⟩)
 exact F A s' H us kus Q E (hA.mono (by lia)) (S.kp k).base (S.kp k).ho r1 r2 (q.after k)
theorem callBlt_ok (I : EvOK X G N n) (hA : Room A (N + n)) {f : Str} {pf p : Pos} {es : List Expr} {vs : List V} {r : V} (S : St X sc env H Mu g s) (hf : isGlo sc f = true)
  (e : mapO (ev n G sc g) es = some vs) (hr : bltV f vs = some r) (q : Post H s r Q) :
  wpAny (model X.prog X.w) A (eval (.Call (.Name f pf) es [] p) env) Q E s:=by
 refine wpAny_Call_Name_kw (load_blt S hf (bltV_isBlt hr) ?_)
 refine callWith_of (P:=fun _ =>True) (by rw [backTo_any e]; rfl) (fun h _ =>bltVal_machine (bltVal_noref f) _ h) (evalArgs_ok I hA S e fun us s' k r1 =>⟨trivial,?_⟩)
 exact bltV_ok hr r1 (S.kp k).ho hA (q.after k)
theorem lenOwn_ok (hA : Room A (N + n)) {x : Str} {px pf p : Pos} {xs : List V} {k : Nat} (S : St X sc env H Mu g s) (hf : isGlo sc "len" = true) (hx : isLoc sc x = true) (hl : g.lookup x = some (.own xs)) (e : lenV (.list xs) = some k) (q : Post H s (.int k) Q) :
  wpAny (model X.prog X.w) A (eval (.Call (.Name "len" pf) [.Name x px] [] p) env) Q E s:=by
 refine wpAny_Call_Name_kw (load_blt S hf (by decide) ?_)
 refine callWith_of (P:=fun _ =>True) rfl (fun h _ =>bltVal_machine (bltVal_noref _) _ h) ?_
 refine evalArgs_plain (x:=eval (.Name x px) env) (rest:=[]) (spliced_cons (load_own S hx hl fun a us hla hr =>spliced_nil ⟨trivial,?_⟩))
 simp only [lenV] at e
 split at e
 ·obtain rfl:=Option.some.inj e
  have hn:=hr.size
  have hl2 : (lid : Int) < 2 ^ 62:=by decide
  show wpAny _ _ (call (.builtin "len") [.ref a] []) _ _ _
  refine call_len_list hla (by rw [hn]; lia) ?_
  rw [hn]; exact q.int _ _
 ·exact nS e
theorem evI_ok (I : EvOK X G N n) : EvIOK X G N (n + 1):=by
 intro sc env H Mu g s A E Q e xs S hA hi q
 have plain : ∀ {e' : Expr},(ev n G sc g e').bind itemsV = some xs → wpAny (model X.prog X.w) A (eval e' env) (fun xv s₁ =>wpAny (model X.prog X.w) A (pyIter xv) Q E s₁) E s:=fun {e'} h =>by
  refine bc fun hN =>?_
  refine bind_el h fun v h1 h2 =>?_
  refine hN ?_; clear hN
  exact I _ _ _ _ _ _ _ _ _ _ _ S hA.up h1 fun u s₁ k₁ r₁ =>items_ok hA.hh h2 r₁ fun it s₂ k₂ IT =>q it s₁ s₂ k₁ k₂ IT
 have h2 : (match callOf e with
  | some c =>if (isGlo sc c.1 && c.1 == ("range" : Str)) = true then (mapO (ev n G sc g) c.2).bind (iterV c.1) else (ev n G sc g e).bind itemsV
  | .none =>(ev n G sc g e).bind itemsV) = some xs:=hi
 cases hc : callOf e with
 | none =>rw [hc] at h2; exact plain h2
 | some c =>
  rw [hc] at h2
  dsimp only at h2
  split at h2
  ·rename_i hf
   rw [Bool.and_eq_true] at hf
   refine bc fun hN =>?_
   obtain ⟨p,q',rfl⟩:=callOf_some hc
   refine bind_el h2 fun vs hvs h2 =>?_
   refine hN ?_; clear hN
   have hb:=iterV_isBlt h2
   refine wpAny_Call_Name_kw (load_blt S hf.1 hb ?_)
   refine callWith_of (P:=fun _ =>True) (by rw [backTo_any hvs]; rfl) (fun h _ =>bltVal_machine (bltVal_noref _) _ h) (evalArgs_ok I hA.up S hvs fun us s' k r1 =>⟨trivial,?_⟩)
   exact iterV_ok hA.hh (Kp.refl s') h2 r1 fun it s₂ k₂ IT =>q it s' s₂ k k₂ IT
  ·exact plain h2
theorem noCall_base {x : Str} {px : Pos} {m : Str} {env : Env} : attributeBase (.Name x px) m env (eval (.Name x px) env) = eval (.Name x px) env:=rfl
theorem meth_call (I : EvOK X G N n) (hA : Room A (N + n)) {x m : Str} {px pa p : Pos} {es : List Expr} {vs : List V} {ix Ca dx f : Addr} {ds : List DictEntry} {k0 : Nat} {mm : Str → Option Value} {Q : Value → Shared → Prop}
  (S : St X sc env H Mu g s) (hx : isLoc sc x = true) (hn : s.heap.Ns env.locals mm) (ha : At env s.heap mm x (.ref ix)) (h3 : s.heap.get? ix = some (instObj Ca dx)) (h4 : s.heap.get? dx = some (dictOf ds k0)) (hg : getL m ds = some none)
  (M : MethAt X Ca m f) (hline : lineOk pa p = true) (hsz : es.length < 20) (e : mapO (ev n G sc g) es = some vs)
  (q : ∀ us s',Kp s s' → Reps (hideAll s'.heap H) vs us → wpAny (model X.prog X.w) A (call (.ref f) (.ref ix :: us)) Q E s') :
  wpAny (model X.prog X.w) A (eval (.Call (.Attribute (.Name x px) m pa) es [] p) env) Q E s:=by
 have hpl:=backTo_any (p:=p) (env:=env) e
 have hall : (backTo p (starEach es env)).all (fun x =>!x.1) = true:=by
  rw [List.all_eq_true]
  intro y hy
  rw [List.any_eq_false] at hpl
  simpa using hpl y hy
 have hform : methodCallForm (es.length + ([] : List Keyword).length) (backTo p (starEach es env)) (backToKw p (keywordEach [] env)) = true:=by
  unfold methodCallForm
  have : es.length < 30:=by lia
  rw [hall,arm_keywordEach_nil]; simp [backToKw,this]
 have hpos : methodCallPos true (.Name x px) env pa p = pure p:=by
  have : (pa.endLine == p.line) = true:=hline
  unfold methodCallPos; simp [this]
 simp only [arm_eval_Call,noCall_base]
 refine wpAny_bind (load_at S.kind (isLoc_dbg hx) hn ha (wpAny_bind (wpAny_standAt ?_)))
 unfold methodCall
 rw [hform]
 refine wpAny_bind (wpAny_holding (method_fn (kin_of_base S.base) (inst_at h3 h4) (plainGet_of M.get).1 (plainGet_of M.get).2 M.find (beq_iff_eq.mp M.fn) (by show (lookIn m (dictOf ds k0)).map _ = _; simp only [lookIn_dict,hg]; rfl) ?_))
 refine wpAny_bind (wpAny_of_eq hpos ?_)
 exact callWith_of (P:=fun h =>X.K.In h) (by rw [hpl]; rfl) (keeps_K M.keep) (evalArgs_ok I hA S e fun us s' k r1 =>⟨kin_of_base (S.kp k).base,q us s' k r1⟩)
theorem callPm_ok (hG : GOk X G N) (I : EvOK X G N n) (hA : Room A (N + n)) {x m : Str} {px pa p : Pos} {es : List Expr} {vs : List V} {C : Str} {fl : List (Str × V)} {r : V} (S : St X sc env H Mu g s) (hx : isLoc sc x = true) (hl : g.lookup x = some (.inst C fl))
  (hm : fl.lookup m = none) (hline : lineOk pa p = true) (hsz : es.length < 20) (e : mapO (ev n G sc g) es = some vs) (hr : G.pm C m vs = some r) (q : Post H s r Q) :
  wpAny (model X.prog X.w) A (eval (.Call (.Attribute (.Name x px) m pa) es [] p) env) Q E s:=by
 refine bc fun hN =>?_
 obtain ⟨mm,ad,hn,hd,_⟩:=S.held
 obtain ⟨ix,Ca,ds,k0,a,e2,e3,e4,_,_,_,_,rf⟩:=hd x _ hx hl
 obtain ⟨f,M,F⟩:=hG.pm C m vs r Ca hr e2
 refine hN ?_; clear hN
 refine meth_call I hA S hx hn a e3 e4 (flds_none rf hm) M hline hsz e fun us s' k r1 =>?_
 exact F A s' H ix (ad x) us Q E (hA.mono (by lia)) (S.kp k).base (S.kp k).ho (k.keep _ _ e3) r1 (q.after k)
end
end Mine
end
section
namespace Mine
open PySem PySem.W PyProof.Rows PySem.Calls PySem.SeqAt
open Builtin
theorem slot_bytes_join : Slot "bytes" "join" "bytes.join" :=
 .of (owner:="bytes") (n:="join") (by rw [typeLookup_type,builtinLookup_eq_fast]; kernel_rfl) (by decide +kernel) (by decide +kernel) (by decide +kernel)
  (by first | exact .inl (by decide +kernel) | exact .inr (by decide +kernel)) (by rw [isSubtype_type]; kernel_rfl)
theorem type_bytes_join : typeOf (.builtin "bytes.join") = pure (.type "method_descriptor"):=by show builtinType _ = _; rw [builtinType_eq_fast]; kernel_rfl
theorem entry_bytes_join : entryFor table "bytes.join" = some Builtin.«bytes.join»:=entryFor_of_tree (by kernel_rfl)
theorem args_bytes_join_2 (a b : Value) : argsOk "bytes.join" ⟨[a,b],[]⟩:=by
 unfold argsOk; rw [signature?_of (id:="bytes.join") (n:=['n','i','o','j']) (o:=['s','e','t','y','b']) (by kernel_rfl) FB.owner_bytes]; kernel_rfl
theorem take_eq {id : String} {b : Array UInt8} {t : Tok} : Bytes.takeBufferQuiet? id (.bytes b t) 0 = pure (some (b,none)):=by
 unfold Bytes.takeBufferQuiet? Bytes.takeBuffer?
 rw [KBy.special_eq KBy.look_buffer]
 have e0 : ((0 : Int) == Bytes.fullReadOnly) = false:=by decide
 rw [e0]
 simp only [pure_bind,KBy.own_buffer,KBy.buffer_eq]
 rfl
noncomputable def AreB : List Value → List (Array UInt8) → Prop
 | [],[] =>True
 | u :: us,b :: bs =>(∃ t,u = .bytes b t) ∧ AreB us bs
 | _,_ =>False
theorem AreB.at : ∀ {us : List Value} {bs : List (Array UInt8)} {i : Nat},AreB us bs → i < us.length → ∃ b t,bs[i]? = some b ∧ us[i]? = some (.bytes b t)
 | [],_,_,_,h =>by simp at h
 | u :: us,[],_,a,_ =>by cases a
 | u :: us,b :: bs,0,⟨⟨t,e⟩,_⟩,_ =>⟨b,t,rfl,by rw [e]; rfl⟩
 | u :: us,b :: bs,i + 1,⟨_,a⟩,h =>by
  refine bc fun hN =>?_
  obtain ⟨b',t,e1,e2⟩:=AreB.at a (i:=i) (by simpa using h)
  refine hN ?_; clear hN
  exact ⟨b',t,by simpa using e1,by simpa using e2⟩
theorem AreB.length : ∀ {us : List Value} {bs : List (Array UInt8)},AreB us bs → us.length = bs.length
 | [],[],_ =>rfl
 | [],_ :: _,a =>by cases a
 | _ :: _,[],a =>by cases a
 | _ :: _,_ :: _,a =>by simp [AreB.length a.2]
theorem joined_fold : ∀ (bs : List (Array UInt8)) (k : Nat) (out : Array UInt8),((bs.zipIdx k).foldl (fun out (x : Array UInt8 × Nat) =>(if x.2 > 0 then out ++ #[] else out) ++ x.1) out).toList = out.toList ++ (bs.map Array.toList).flatten
 | [],k,out =>by simp
 | b :: bs,k,out =>by
  simp only [List.zipIdx_cons,List.foldl_cons,joined_fold bs (k + 1)]
  have : ((if k > 0 then out ++ #[] else out) ++ b).toList = out.toList ++ b.toList:=by split <;> simp
  rw [this]; simp
theorem joined_eq (bs : List (Array UInt8)) : (Bytes.joined #[] bs).toList = (bs.map Array.toList).flatten:=by
 have:=joined_fold bs 0 #[]
 simpa [Bytes.joined] using this
theorem sum_fold : ∀ (bs : List (Array UInt8)) (k : Nat),bs.foldl (fun a b =>a + b.size) k = k + ((bs.map Array.toList).flatten).length
 | [],k =>by simp
 | b :: bs,k =>by simp only [List.foldl_cons,sum_fold bs]; simp; lia
section
variable {prog : Program} {w : World} {A : Around} {E Q : Value → Shared → Prop} {s : Shared}
theorem letGo_join {taken : List (Value × Option Value)} {keep : List Value} {R : Unit → Shared → Prop} (h : ∀ p ∈ taken,p.2 = none) (q : R () s) : wpAny (model prog w) A (Bytes.joinLetGo taken keep) R E s:=by
 induction taken with
 | nil =>exact wpAny_pure q
 | cons p r ih =>
  obtain ⟨x,w'⟩:=p
  have:=h (x,w') (.head _)
  simp only at this; subst this
  rw [Bytes.joinLetGo]
  ·exact wpAny_bind (wpAny_letGo (ih fun p hp =>h p (.tail _ hp)))
  ·intro i e; exact nS e
inductive JI (us : List Value) (bs : List (Array UInt8)) (s : Shared) (l : List Nat) (a : Array (Array UInt8)) (b : List (Value × Option Value)) (s' : Shared) : Prop
 | mk (e : s' = s) (i : Nat) (hi : i ≤ us.length) (hl : l = List.range' i (us.length - i)) (hp : a = (bs.take i).toArray) (ht : ∀ p ∈ b,p.2 = none ∧ p.1.onHeap = false) : JI us bs s l a b s'
theorem join_run {l : Addr} {us : List Value} {bs : List (Array UInt8)} {t : Tok} (hl : s.heap.IsList l us.toArray) (hb : AreB us bs) (hsz : (bs.toArray.foldl (· + ·.size) 0) ≤ sizeLine)
  (q : ∀ t' k,Q (.bytes (Bytes.joined #[] bs) t') { s with toks:=k }) :
  wpAny (model prog w) A (Builtin.«bytes.join» ⟨[.bytes #[] t,.ref l],[]⟩) (fun fin s' =>∃ v,fin = .done (.ret v) ∧ Q v s') E s:=by
 refine bc fun hN =>?_
 obtain ⟨o,ho,hc,n,hd⟩:=id hl
 refine hN ?_; clear hN
 unfold Builtin.«bytes.join» Bytes.joinM
 show wpAny _ _ (Bytes.joinItems (.ref l) >>= fun seq =>_) _ _ s
 refine wpAny_bind ?_
 unfold Bytes.joinItems
 refine wpAny_bind (wpAny_typeOf (T:="list") ⟨o,ho,hc⟩ ?_)
 rw [if_pos (by decide)]
 refine wpAny_pure ?_
 refine wpAny_bind (wpAny_seqItems ho hd ?_)
 dsimp only
 rw [if_pos (by decide)]
 have hlen:=hb.length
 have hlen:=hb.length
 have fin : ∀ (taken : List (Value × Option Value)) (parts : Array (Array UInt8)),parts = bs.toArray → (∀ p ∈ taken,p.2 = none) → wpAny (model prog w) A (do
   let sep ← Bytes.payload (.bytes #[] t)
   if Bytes.tooLong (parts.foldl (· + ·.size) (sep.size * (parts.size - 1))) then unsupported s!"{s!"{Bytes.Kind.bytes.name}.join"}:memory"
   let result ← Bytes.Kind.bytes.new (Bytes.joined sep parts.toList)
   holding (result :: taken.flatMap fun (y,u) =>y :: u.toList) point
   Bytes.joinLetGo taken [result]
   ret result : Sem Fin) (fun fin s' =>∃ v,fin = .done (.ret v) ∧ Q v s') E s:=by
  rintro taken parts rfl hn
  refine wpAny_bind (wpAny_of_eq (a:=(#[] : Array UInt8)) rfl ?_)
  have htl : Bytes.tooLong (bs.toArray.foldl (· + ·.size) ((#[] : Array UInt8).size * (bs.toArray.size - 1))) = false:=by
   unfold Bytes.tooLong
   have : (#[] : Array UInt8).size * (bs.toArray.size - 1) = 0:=by simp
   rw [this]
   exact decide_eq_false (by lia)
  rw [htl]
  refine wpAny_ite (KBy.ite_no (by decide) ?_)
  show wpAny _ _ (mkBytes (Bytes.joined #[] bs.toArray.toList) >>= fun r =>_) _ _ s
  refine wpAny_bind (wpAny_mkBytes ?_ ?_)
  ·refine wpAny_bind (wpAny_holding (wpAny_point (wpAny_bind (letGo_join hn (wpAny_pure ⟨_,rfl,?_⟩)))))
   exact q _ _
  ·have h1:=joined_eq bs
   have h2:=sum_fold bs 0
   have h3:=congrArg List.length h1
   have h4 : (Bytes.joined #[] bs.toArray.toList).size = (Bytes.joined #[] bs).toList.length:=by simp
   have h5 : bs.toArray.foldl (fun a b =>a + b.size) 0 = bs.foldl (fun a b =>a + b.size) 0:=by simp
   lia
 rcases us with _ | ⟨x,_ | ⟨y,r⟩⟩
 ·show wpAny _ _ (forIn _ _ _ >>= _) _ _ _
  refine wpAny_bind ?_
  have hb0 : bs = []:=List.length_eq_zero_iff.mp hlen.symm
  rw [Std.Legacy.Range.forIn_eq_forIn_range']
  refine wpAny_pure ?_
  exact fin [] #[] (by rw [hb0]) (fun p hp =>by cases hp)
 ·show wpAny _ _ (typeOf x >>= _) _ _ _
  refine bc fun hN =>?_
  obtain ⟨b,t',e1,e2⟩:=hb.at (i:=0) (by simp)
  refine hN ?_; clear hN
  simp only [List.getElem?_cons_zero,Option.some.injEq] at e2
  subst e2
  refine wpAny_bind (wpAny_typeOf (typeIs_bytes s b t') ?_)
  rw [if_pos (by decide)]
  refine wpAny_bind (wpAny_rule (wpAny_pure ⟨_,rfl,?_⟩))
  cases bs with
  | nil =>simp at e1
  | cons b' bs =>
   have : bs = []:=List.length_eq_zero_iff.mp (by simpa using hlen.symm)
   subst this
   simp only [List.getElem?_cons_zero,Option.some.injEq] at e1
   subst e1
   have : Bytes.joined #[] [b'] = b':=by simp [Bytes.joined]
   have q':=q t' s.toks
   rw [this] at q'
   exact q'
 ·show wpAny _ _ (forIn _ _ _ >>= _) _ _ _
  refine wpAny_bind ?_
  generalize hus : x :: y :: r = us at *
  rw [Std.Legacy.Range.forIn_eq_forIn_range']
  refine wpAny_forIn_list _ (fun l st s' =>JI us bs s l st.1 st.2 s') _ ?_ ?_ _ _ ⟨rfl,0,Nat.zero_le _,?_,by simp,fun p hp =>by cases hp⟩
  ·rintro i0 rest st s' ⟨rfl,i,hi,hl0,hp,ht⟩
   have hlt : i < us.length:=by
    rcases Nat.lt_or_ge i us.length with h' | h'
    ·exact h'
    ·rw [show us.length - i = 0 by lia] at hl0; simp at hl0
   obtain ⟨n',hn'⟩ : ∃ n',us.length - i = n' + 1:=⟨us.length - i - 1,by lia⟩
   simp only [hn',List.range'_succ] at hl0
   refine bc fun hN =>?_
   obtain ⟨rfl,rfl⟩:=List.cons.inj hl0
   refine hN ?_; clear hN
   refine wpAny_bind (wpAny_seqItems ho hd ?_)
   dsimp only
   refine bc fun hN =>?_
   obtain ⟨b,t',e1,e2⟩:=hb.at hlt
   refine hN ?_; clear hN
   have hx : us.toArray.getD i0 .none = .bytes b t':=by
    simp [Array.getD,hlt,List.getElem?_eq_getElem hlt] at e2 ⊢
    exact e2
   have hany : (st.2.any fun x =>x.1.onHeap) = false:=by
    rw [List.any_eq_false]; intro p hp; simp [(ht p hp).2]
   have hk : (Bytes.Kind.bytes == Bytes.Kind.bytearray) = false:=by decide
   simp only [hany,hk,Bool.or_false,Bool.false_eq_true,if_false]
   rw [hx]
   refine wpAny_bind (wpAny_holding (wpAny_of_eq take_eq ?_))
   refine wpAny_bind (wpAny_seqItems ho hd ?_)
   simp only [bne_self_eq_false,Bool.false_eq_true,if_false]
   refine wpAny_pure ⟨rfl,i0 + 1,hlt,by congr 1; lia,?_,?_⟩
   ·show (st.1.push b) = _
    simp only [hp,List.take_add_one,e1]; simp
   ·intro p hp'
    rcases List.mem_append.mp hp' with h | h
    ·exact ht p h
    ·rw [List.mem_singleton.mp h]; exact ⟨rfl,rfl⟩
  ·rintro st s' ⟨rfl,i,hi,hl0,hp,ht⟩
   have hie : i = us.length:=by
    rcases Nat.lt_or_ge i us.length with h' | h'
    ·obtain ⟨n',hn'⟩ : ∃ n',us.length - i = n' + 1:=⟨us.length - i - 1,by lia⟩
     simp only [hn',List.range'_succ] at hl0; simp at hl0
    ·lia
   subst hie
   exact fin st.2 st.1 (by simp only [hp,hlen,List.take_length]) fun p hp =>(ht p hp).1
  ·simp [Std.Legacy.Range.size]
theorem reps_bytes : ∀ {h : Heap} {xs : List V} {us : List Value} {bs : List (List Int)},Reps h xs us → bytessV xs = some bs → ∃ cs,AreB us cs ∧ cs.map KBw.bInts = bs
 | h,[],us,bs,r,e =>by
  unfold Reps at r; subst r
  obtain rfl:=Option.some.inj e
  exact ⟨[],trivial,rfl⟩
 | h,x :: xs,us,bs,r,e =>by
  unfold Reps at r
  obtain ⟨v,r',rfl,h1,h2⟩:=r
  cases x with
  | bytes b =>
   unfold Rep at h1
   obtain ⟨c,t,rfl,hc⟩:=h1
   refine map_el e fun ms e1 e2 =>?_
   subst e2
   obtain ⟨cs,a,b'⟩:=reps_bytes h2 e1
   exact ⟨c :: cs,⟨⟨t,rfl⟩,a⟩,by rw [List.map_cons,hc,b']⟩
  | _ =>exact nS e
theorem bInts_flat : ∀ (cs : List (Array UInt8)),((cs.map Array.toList).flatten.map fun c =>(c.toNat : Int)) = (cs.map KBw.bInts).flatten
 | [] =>rfl
 | c :: cs =>by
  have:=bInts_flat cs
  simp only [List.map_cons,List.flatten_cons,List.map_append,this]
  rfl
theorem join_call {H : List Addr} {xs : List V} {u : Value} {bs : List (List Int)} {t : Tok} (hx : Rep (hideAll s.heap H) (.list xs) u) (e : bytessV xs = some bs) (hz : bs.flatten.length ≤ lid) (q : Post H s (.bytes bs.flatten) Q) :
  wpAny (model prog w) A (call (.builtin "bytes.join") [.bytes #[] t,u]) Q E s:=by
 unfold Rep at hx; obtain ⟨l,us,rfl,hl,hr⟩:=hx
 obtain ⟨cs,hc,rfl⟩:=reps_bytes hr e
 have hf:=bInts_flat cs
 have hlen:=congrArg List.length hf
 rw [List.length_map] at hlen
 refine wpAny_call_entry slot_bytes_join (typeIs_bytes s #[] t) entry_bytes_join (join_run (unhide_list hl) hc ?_ fun t' k =>q.bytes ?_ t' k) (args_bytes_join_2 _ _)
 ·have h2:=sum_fold cs 0
  have h5 : cs.toArray.foldl (fun a b =>a + b.size) 0 = cs.foldl (fun a b =>a + b.size) 0:=by simp
  have:=lid_le
  lia
 ·simp only [← hf,← joined_eq]; rfl
end
end Mine
end
section
namespace Mine
open PySem PySem.W PyProof.Rows PySem.Calls PySem.SeqAt
section
variable {X : Gx} {G : Ge} {N n : Nat} {sc : Scope} {env : Env} {H Mu : List Addr} {g : Gam} {s : Shared} {A : Around} {E Q : Value → Shared → Prop}
theorem joinE_ok (I : EvOK X G N n) (hA : Room A (N + n)) {e : Expr} {k : Nat} {pc pa p : Pos} {xs : List V} {bs : List (List Int)} (S : St X sc env H Mu g s) (hline : lineOk pa p = true) (he : ev n G sc g e = some (.list xs)) (hb : bytessV xs = some bs) (hz : bs.flatten.length ≤ lid) (q : Post H s (.bytes bs.flatten) Q) :
  wpAny (model X.prog X.w) A (eval (.Call (.Attribute (.Constant (.bytes []) k pc) "join" pa) [e] [] p) env) Q E s:=by
 have hs:=starEach_plain (env:=env) (es:=[]) he
 refine wpAny_Call_method_late rfl (by rw [hs]; rfl) hline rfl (Constant_bytes ⟨"bytes","bytes.join",FB.plainAttrs_bytes,slot_bytes_join,type_bytes_join,typeIs_bytes _ _ _,(fun _ h =>by cases h),?_⟩)
 have hpl : (backTo p (starEach [e] env)).any (·.1) = false:=by rw [hs]; rfl
 refine callWith_builtin hpl ?_
 rw [hs]
 have k0 : Kp s { s with toks:=s.toks + 1 }:=Kp.toks _
 refine evalArgs_plain (x:=eval e env) (rest:=[]) (spliced_cons (I _ _ _ _ _ _ _ _ _ _ _ (S.kp k0) hA he fun u s' k r =>spliced_nil ?_))
 exact join_call r hb hz (q.after (k0.trans k))
theorem pairs_ok (I : EvOK X G N n) (hA : Room A (N + n)) {p : Pos} : ∀ {ks : List (Option Expr)} {vs : List Expr} {kl : List Int} {vl : List V} {s : Shared} {Q : List (Value × Value) → Shared → Prop},St X sc env H Mu g s → mapO litKey ks = some kl → mapO (ev n G sc g) vs = some vl → kl.length = vl.length →
  (∀ ps us s',Kp s s' → Reps (hideAll s'.heap H) vl us → allIntKeys ps = true → intKeyPairs ps = kl.zip us → Q ps s') → wpAny (model X.prog X.w) A (evalPairs (pairTrees ks vs env p)) Q E s
 | [],[],kl,vl,s,Q,S,hk,hv,_,q =>by
  simp only [mapO,Option.some.injEq] at hk hv; subst hk hv
  exact pairTrees_nil_walk (q [] [] s (Kp.refl s) .nil rfl rfl)
 | [],v :: vs,kl,vl,s,Q,S,hk,hv,hl,q =>by
  simp only [mapO,Option.some.injEq] at hk; subst hk
  have : vl = []:=List.length_eq_zero_iff.mp hl.symm
  subst this
  unfold mapO at hv
  split at hv
  ·simp at hv
  ·exact nS hv
 | o :: ks,[],kl,vl,s,Q,S,hk,hv,hl,q =>by
  simp only [mapO,Option.some.injEq] at hv; subst hv
  have : kl = []:=List.length_eq_zero_iff.mp hl
  subst this
  unfold mapO at hk
  split at hk
  ·simp at hk
  ·exact nS hk
 | o :: ks,v :: vs,kl,vl,s,Q,S,hk,hv,hl,q =>by
  unfold mapO at hk hv
  split at hk
  ·rename_i j hj
   refine bc fun hN =>?_
   refine map_el hk fun kl' hk' hEqq2 =>?_
   subst hEqq2
   refine hN ?_; clear hN
   split at hv
   ·rename_i x hx
    refine bc fun hN =>?_
    refine map_el hv fun vl' hv' hEqq2 =>?_
    subst hEqq2
    refine bind_el hj fun oe hEqq1 hj =>?_
    subst hEqq1
    obtain ⟨kk,pk,rfl⟩:=intLit_some hj
    refine hN ?_; clear hN
    ·refine pairTrees_cons_walk (wpAny_Constant_int (I _ _ _ _ _ _ _ _ _ _ _ (S.kp (Kp.toks _)) hA hx fun u s' k r =>?_))
     refine pairs_ok I hA (S.kp ((Kp.toks _).trans k)) hk' hv' (by simpa using hl) fun ps us s'' k' rs h1 h2 =>?_
     exact q _ (u :: us) s'' (((Kp.toks _).trans k).trans k') (.cons (r.kp k') rs) h1 (by simp [intKeyPairs,h2])
   ·exact nS hv
  ·exact nS hk
theorem lookup_zip {h : Heap} {j : Int} {z : V} : ∀ {kl : List Int} {vl : List V} {us : List Value},Reps h vl us → (kl.zip vl).lookup j = some z → ∃ u,valueAt (kl.zip us) j = some u ∧ Rep h z u
 | [],_,_,_,e =>by simp at e
 | k :: kl,[],_,_,e =>by simp at e
 | k :: kl,v :: vl,us,r,e =>by
  unfold Reps at r
  obtain ⟨u,r',rfl,h1,h2⟩:=r
  simp only [List.zip_cons_cons,List.lookup_cons] at e
  rw [List.zip_cons_cons]
  unfold valueAt
  rw [List.find?_cons]
  cases hj : j == k with
  | true =>
   rw [hj] at e; obtain rfl:=Option.some.inj e
   have : k = j:=(beq_iff_eq.mp hj).symm
   subst this
   exact ⟨u,by simp,h1⟩
  | false =>
   rw [hj] at e
   have hjk : ¬ k = j:=fun h =>by subst h; simp at hj
   obtain ⟨u',g1,g2⟩:=lookup_zip h2 e
   refine ⟨u',?_,g2⟩
   unfold valueAt at g1
   simpa [hjk] using g1
theorem dictSub_ok (I : EvOK X G N n) (hA : Room A (N + n)) {ks : List (Option Expr)} {vs : List Expr} {i : Expr} {pd p : Pos} {kl : List Int} {vl : List V} {j : Int} {z : V} (S : St X sc env H Mu g s)
  (hk : mapO litKey ks = some kl) (hv : mapO (ev n G sc g) vs = some vl) (hi : ev n G sc g i = some (.int j)) (hl : kl.length = vl.length) (h1 : 1 ≤ kl.length) (h8 : kl.length ≤ 8) (hn : kl.Nodup) (e : (kl.zip vl).lookup j = some z) (q : Post H s z Q) :
  wpAny (model X.prog X.w) A (eval (.Subscript (.Dict ks vs pd) i p) env) Q E s:=by
 have lenO : ∀ {α β : Type} {f : α → Option β} {l : List α} {r : List β},mapO f l = some r → l.length = r.length:=by
  intro α β f l
  induction l with
  | nil =>intro r h; simp only [mapO,Option.some.injEq] at h; subst h; rfl
  | cons a l ih =>
   intro r h
   unfold mapO at h
   split at h
   ·refine bc fun hN =>?_
    refine map_el h fun r' h' hEqq2 =>?_
    subst hEqq2
    refine hN ?_; clear hN
    simp [ih h']
   ·exact nS h
 have allK : ∀ {ks : List (Option Expr)} {kl : List Int},mapO litKey ks = some kl → ks.all (·.isSome) = true:=by
  intro ks
  induction ks with
  | nil =>intros; rfl
  | cons a l ih =>
   intro r h
   unfold mapO at h
   split at h
   ·rename_i b hb
    refine bc fun hN =>?_
    refine map_el h fun r' h' hEqq2 =>?_
    subst hEqq2
    refine hN ?_; clear hN
    simp only [List.all_cons,ih h']
    cases a with
    | none =>simp [litKey] at hb
    | some a =>rfl
   ·exact nS h
 have l1:=lenO hk
 have l2:=lenO hv
 let s0 : Shared:={ s with heap:=s.heap.push { cls:=.type "dict",data:=.dict #[] } }
 have k0 : Kp s s0:=Kp.push _
 refine Subscript_ (wpAny_Dict_walk (knd:=intKind X.prog X.w) (allK hk) (by lia) (fun h =>by rw [h] at l1; simp at l1; lia) (by lia) (pairs_ok I hA (S.kp k0) hk hv hl fun ps us s₁ k₁ r₁ a1 a2 =>?_))
 have hsz : s0.heap.objs.size ≤ s₁.heap.objs.size ∨ True:=.inr trivial
 have hd0 : s₁.heap.DictOf (intKind X.prog X.w) s.heap.objs.size []:=(Heap.DictOf.new (knd:=intKind X.prog X.w) s.heap).keep k₁.keep
 refine display_done_int a1 (by rw [a2,List.map_fst_zip (by rw [r₁.length]; lia)]; exact hn) hd0 fun h' hd' hs' =>?_
 have hd'':=hd'
 rw [a2] at hd'
 have kd : Kp s { s₁ with heap:=h',toks:=s₁.toks + ps.length }:=by
  refine bc fun hN =>?_
  obtain ⟨ha,ta,ea,ka⟩:=k0.trans k₁
  refine hN ?_; clear hN
  refine ⟨h',s₁.toks + ps.length,by rw [ea],fun b o e =>hs'.extBut b o (fun hb =>?_) ?_⟩
  ·subst hb; exact absurd (Heap.lt_size e) (Nat.lt_irrefl _)
  ·have:=ka b o e
   rw [ea]; exact this
 have rd : Reps (hideAll h' H) vl us:=r₁.mono fun b o e hq =>by
  refine hideAll_get H (hs'.extBut b o (fun hb =>?_) (of_hideAll H e)) (hide_off e)
  subst hb
  refine bc fun hN =>?_
  obtain ⟨o',es,ep,ho',_,hdat,_⟩:=hd0
  rw [of_hideAll H e] at ho'; obtain rfl:=Option.some.inj ho'
  obtain ⟨_,_,hq⟩:=hq
  refine hN ?_; clear hN
  rw [hdat] at hq; cases hq
 refine I _ _ _ _ _ _ _ _ _ _ _ (S.kp kd) hA hi fun v s₂ k₂ r₂ =>?_
 unfold Rep at r₂; obtain ⟨t,rfl⟩:=r₂
 have hd2:=hd'.keep k₂.keep
 refine bc fun hN =>?_
 obtain ⟨u,g1,g2⟩:=lookup_zip (rd.kp k₂) e
 refine hN ?_; clear hN
 refine tail_any hd2.typeIs slot_dict_getitem.lookup (wpAny_getItem_of (intKind_is _ _ _ _) hd2.mapOf g1 ?_) (subscripted_plain (ev_noSlice hi))
 exact q _ _ ((kd.trans k₂).trans (Kp.toks _)) g2
end
section
variable {X : Gx} {G : Ge} {N n : Nat}
theorem evT_ok (I : EvOK X G N n) (IT : EvTOK X G N n) (IA : EvAOK X G N n) (IC : EvCOK X G N n) : EvTOK X G N (n + 1):=by
 intro sc env H Mu g s A E Q e b S hA h q
 have dflt : ∀ {e : Expr},(ev n G sc g e).bind V.tru = some b → isTrue e env (eval e env) = (do let v ← eval e env; standAt e.pos; holding [v] (truthy v)) → wpAny (model X.prog X.w) A (isTrue e env (eval e env)) Q E s:=fun {e} h he =>by
  refine bc fun hN =>?_
  refine bind_el h fun v hv ht =>?_
  refine hN ?_; clear hN
  exact wpAny_isTrue_value (I _ _ _ _ _ _ _ _ _ _ _ S hA.up hv fun u s' k r =>tru_ok ht r (q s' k)) he
 cases e with
 | UnaryOp op a p =>
  cases op with
  | Not =>
   refine bc fun hN =>?_
   refine map_el (show (evT n G sc g a).map (!·) = some b from h) fun c hc hEqq2 =>?_
   subst hEqq2
   refine hN ?_; clear hN
   exact wpAny_isTrue_Not (IT _ _ _ _ _ _ _ _ _ _ _ S hA.up hc q)
  | _ =>exact dflt h rfl
 | BoolOp op es p =>exact wpAny_isTrue_BoolOp (IA _ _ _ _ _ _ _ _ _ _ _ _ S hA.up h q)
 | IfExp t a c p =>
  refine bc fun hN =>?_
  obtain ⟨d,ht,h⟩:=iteO_some' (show iteO (evT n G sc g t) (evT n G sc g a) (evT n G sc g c) = some b from h)
  refine hN ?_; clear hN
  rw [arm_isTrue_IfExp]
  refine wpAny_bind (IT _ _ _ _ _ _ _ _ _ _ _ S hA.up ht fun s' k =>?_)
  cases d with
  | true =>exact IT _ _ _ _ _ _ _ _ _ _ _ (S.kp k) hA.up h fun s'' k' =>q s'' (k.trans k')
  | false =>exact IT _ _ _ _ _ _ _ _ _ _ _ (S.kp k) hA.up h fun s'' k' =>q s'' (k.trans k')
 | Compare a ops es p =>
  refine bc fun hN =>?_
  refine bind_el (show (if lastMarks ops es = true then .none else ev n G sc g a).bind (fun x =>evC n G sc g x ops es) = some b from h) fun x hx h =>?_
  refine hN ?_; clear hN
  split at hx
  ·exact nS hx
  ·rename_i hm
   simp only [arm_isTrue_Compare,markedEach_of_false _ _ _ (Bool.eq_false_iff.mpr hm)]
   refine wpAny_bind (I _ _ _ _ _ _ _ _ _ _ _ S hA.up hx fun u s' k r =>?_)
   exact (IC _ _ _ _ _ _ _ E _ _ _ _ _ p (S.kp k) hA.up h r).2 Q fun s'' k' =>q s'' (k.trans k')
 | _ =>exact dflt h rfl
theorem mapO_nil {α β : Type} {f : α → Option β} {l : List α} (h : mapO f l = some []) : l = []:=by
 cases l with
 | nil =>rfl
 | cons a b =>
  unfold mapO at h
  split at h
  ·simp at h
  ·exact nS h
theorem kwV_nil {l : List Keyword} (h : kwV l = some []) : l = []:=by
 cases l with
 | nil =>rfl
 | cons a b =>
  exact bind_el h fun _ _ h =>map_el h fun _ _ h =>nomatch h
theorem ev_call (hG : GOk X G N) (I : EvOK X G N n) {sc : Scope} {env : Env} {H Mu : List Addr} {g : Gam} {s : Shared} {A : Around} {E Q : Value → Shared → Prop} {f : Str} {es : List Expr} {ks : List Keyword} {pf p : Pos} {v : V} (S : St X sc env H Mu g s) (hA : Room A (N + n)) (hf : isGlo sc f = true)
  (h : (match mapO (ev n G sc g) es with
    | some vs =>(kwV ks).bind fun kes =>(mapO (fun (p : Str × Expr) =>(ev n G sc g p.2).map fun v =>(p.1,v)) kes).bind fun kvs =>callG G f vs kvs
    | .none =>if ks.isEmpty = true then lenOwn f sc g es else .none) = some v) (q : Post H s v Q) : wpAny (model X.prog X.w) A (eval (.Call (.Name f pf) es ks p) env) Q E s:=by
 cases hvs : mapO (ev n G sc g) es with
 | some vs =>
  rw [hvs] at h
  refine bc fun hN =>?_
  refine bind_el h fun kes hkes h2 =>?_
  refine bind_el h2 fun kvs hkvs h3 =>?_
  refine hN ?_; clear hN
  clear h h2
  unfold callG orO at h3
  split at h3
  ·rename_i r hr
   obtain rfl:=Option.some.inj h3
   exact callFn_ok hG I hA S hf hvs hkes hkvs hr q
  ·refine bc fun hN =>?_
   refine ite_el h3 fun hk0 h4 =>?_
   refine hN ?_; clear hN
   clear h3
   cases List.isEmpty_iff.mp hk0
   cases mapO_nil hkvs
   cases kwV_nil hkes
   exact callBlt_ok I hA S hf hvs h4 q
 | none =>
  rw [hvs] at h
  refine bc fun hN =>?_
  refine ite_el h fun hk h2 =>?_
  refine ite_el h2 fun hlen h3 =>?_
  refine bind_el h3 fun e he h4 =>?_
  refine bind_el h4 fun xs hl h5 =>?_
  refine bind_el hl fun x hn hl2 =>?_
  refine ite_el hl2 fun hx hl3 =>?_
  refine map_el h5 fun k hk2 hEqq2 =>?_
  subst hEqq2
  obtain ⟨px,rfl⟩:=nameOf_some hn
  refine hN ?_; clear hN
  clear h h2 h3 h4 h5 hl hl2 hn
  cases List.isEmpty_iff.mp hk
  cases beq_iff_eq.mp hlen
  cases one_some he
  exact lenOwn_ok hA S hf hx (ownOf_some hl3) hk2 q
theorem ev_sub (I : EvOK X G N n) (IO : EvOOK X G N n) {sc : Scope} {env : Env} {H Mu : List Addr} {g : Gam} {s : Shared} {A : Around} {E Q : Value → Shared → Prop} {a i : Expr} {p : Pos} {v : V} (S : St X sc env H Mu g s) (hA : Room A (N + n))
  (h : (match dctOf a with
   | some kv =>(mapO litKey kv.1).bind fun kl =>(mapO (ev n G sc g) kv.2).bind fun vl =>(ev n G sc g i).bind fun j =>dictG kl vl j
   | .none =>(match sliceOf i with
    | some s =>(match s.2.2 with
     | .none =>(ev n G sc g a).bind fun x =>(evO n G sc g s.1).bind fun l =>(evO n G sc g s.2.1).bind fun h =>sliceV x l h
     | some st =>if isRev s.1 s.2.1 st = true then (ev n G sc g a).bind revV else .none)
    | .none =>(ev n G sc g i).bind fun j =>subK (locOwn sc g a) (ev n G sc g a) j)) = some v) (q : Post H s v Q) : wpAny (model X.prog X.w) A (eval (.Subscript a i p) env) Q E s:=by
 cases hd : dctOf a with
 | some kv =>
  rw [hd] at h
  refine bc fun hN =>?_
  obtain ⟨pd,rfl⟩:=dctOf_some hd
  refine bind_el h fun kl hk h =>?_
  refine bind_el h fun vl hv h =>?_
  refine bind_el h fun j hi h =>?_
  refine bind_el h fun j hj h =>?_
  refine hN ?_; clear hN
  cases intOf_some hj
  refine bc fun hN =>?_
  refine itep_el h fun hz h =>?_
  refine hN ?_; clear hN
  exact dictSub_ok I hA S hk hv hi hz.1 hz.2.1 hz.2.2.1 hz.2.2.2 h q
 | none =>
  rw [hd] at h
  dsimp only at h
  cases hs : sliceOf i with
  | some sl =>
   refine bc fun hN =>?_
   obtain ⟨lo,hi,st⟩:=sl
   rw [hs] at h
   obtain ⟨ps,rfl⟩:=sliceOf_some hs
   refine hN ?_; clear hN
   cases st with
   | none =>
    refine bc fun hN =>?_
    refine bind_el h fun x hx h =>?_
    refine bind_el h fun l hl h =>?_
    refine bind_el h fun r hr h =>?_
    refine hN ?_; clear hN
    exact slice_ok I IO S hA hx hl hr h q
   | some st =>
    refine bc fun hN =>?_
    refine ite_el h fun hr h =>?_
    obtain ⟨rfl,rfl,k,p1,p2,rfl⟩:=isRev_true hr
    refine bind_el h fun x hx h =>?_
    refine hN ?_; clear hN
    exact rev_ok I S hA hx h q
  | none =>
   rw [hs] at h
   refine bc fun hN =>?_
   refine bind_el h fun j hj h =>?_
   refine hN ?_; clear hN
   cases hl : locOwn sc g a with
   | some xs =>
    rw [hl] at h
    refine bc fun hN =>?_
    refine bind_el hl fun x hn hl =>?_
    obtain ⟨px,rfl⟩:=nameOf_some hn
    refine ite_el hl fun hx hl =>?_
    refine hN ?_; clear hN
    exact subOwn_ok I S hA hx (ownOf_some hl) hj h q
   | none =>
    rw [hl] at h
    refine bc fun hN =>?_
    refine bind_el h fun w hw h =>?_
    refine hN ?_; clear hN
    exact sub_ok I S hA hw hj h q
theorem ev_meth (hG : GOk X G N) (I : EvOK X G N n) {sc : Scope} {env : Env} {H Mu : List Addr} {g : Gam} {s : Shared} {A : Around} {E Q : Value → Shared → Prop} {b : Expr} {m : Str} {es : List Expr} {pa p : Pos} {v : V} (S : St X sc env H Mu g s) (hA : Room A (N + n))
  (h : (match nameOf b with
    | some x =>if (isLoc sc x && lineOk pa p && decide (es.length < 20)) = true then (instOf (g.lookup x)).bind fun cf =>(mapO (ev n G sc g) es).bind fun vs =>if (cf.2.lookup m).isNone = true then G.pm cf.1 m vs else .none else .none
    | .none =>if (isEBE b && (m == ("join" : Str) && lineOk pa p)) = true then (one es).bind fun e =>((ev n G sc g e).bind listOf).bind joinV else .none) = some v) (q : Post H s v Q) : wpAny (model X.prog X.w) A (eval (.Call (.Attribute b m pa) es [] p) env) Q E s:=by
 cases hn : nameOf b with
 | some x =>
  rw [hn] at h
  refine bc fun hN =>?_
  obtain ⟨px,rfl⟩:=nameOf_some hn
  refine ite_el h fun hx h =>?_
  simp only [Bool.and_eq_true,Bool.and_eq_true] at hx
  refine bind_el h fun cf hl h =>?_
  refine bind_el h fun vs hvs h =>?_
  refine ite_el h fun hm h =>?_
  refine hN ?_; clear hN
  exact callPm_ok hG I hA S hx.1.1 (instOf_some hl) (Option.isNone_iff_eq_none.mp hm) hx.1.2 (of_decide_eq_true hx.2) hvs h q
 | none =>
  rw [hn] at h
  refine bc fun hN =>?_
  refine ite_el h fun hm h2 =>?_
  simp only [Bool.and_eq_true,Bool.and_eq_true] at hm
  refine bind_el h2 fun e he h3 =>?_
  refine bind_el h3 fun w hw h4 =>?_
  refine bind_el hw fun x hx hw2 =>?_
  refine bind_el h4 fun bs hb h5 =>?_
  refine itep_el h5 fun hz h6 =>?_
  refine hN ?_; clear hN
  obtain rfl:=Option.some.inj h6
  refine bc fun hN =>?_
  obtain ⟨k,pc,rfl⟩:=isEBE_true hm.1
  refine hN ?_; clear hN
  clear h h2 h3 h4 h5 hw hn
  cases beq_iff_eq.mp hm.2.1
  cases one_some he
  cases listOf_some hw2
  exact joinE_ok I hA S hm.2.2 hx hb hz.1 q
theorem bound_some {l : List V} {v w : V} (h : boundO l v = some w) : l.length ≤ lid ∧ v = w:=by
 refine itep_el h fun h1 h2 =>?_
 obtain rfl:=Option.some.inj h2
 exact ⟨h1,rfl⟩
theorem ev_ok (hG : GOk X G N) (I : EvOK X G N n) (IT : EvTOK X G N n) (IB : EvBOK X G N n) (IC : EvCOK X G N n) (IO : EvOOK X G N n) (II : EvIOK X G N n) (IF : EvFOK X G N n) : EvOK X G N (n + 1):=by
 intro sc env H Mu g s A E Q e v S hA h q
 cases e with
 | Constant c k p =>exact const_ok h q
 | Name x p =>
  have h : (if isLoc sc x = true then valOf (g.lookup x) else if isGlo sc x = true then G.cst x else .none) = some v:=h
  split at h
  ·rename_i hx
   exact load_ok S hx (valOf_some h) q
  ·refine bc fun hN =>?_
   refine ite_el h fun hx h =>?_
   obtain ⟨u,hm,hr⟩:=hG.cst _ _ h
   refine hN ?_; clear hN
   exact load_glob S hx hm (q u s (Kp.refl s) (hr _))
 | BinOp a op b p =>
  refine bc fun hN =>?_
  refine bind_el (show ((ev n G sc g a).bind fun x =>(ev n G sc g b).bind fun y =>binV op x y) = some v from h) fun x hx h =>?_
  refine bind_el h fun y hy h =>?_
  refine hN ?_; clear hN
  exact wpAny_BinOp (I _ _ _ _ _ _ _ _ _ _ _ S hA.up hx fun u s₁ k₁ r₁ =>I _ _ _ _ _ _ _ _ _ _ _ (S.kp k₁) hA.up hy fun w s₂ k₂ r₂ =>binV_ok h (S.ho.kp (k₁.trans k₂)) (r₁.kp k₂) r₂ (q.after (k₁.trans k₂)))
 | UnaryOp op a p =>
  cases op with
  | USub =>
   refine bc fun hN =>?_
   refine map_el (show (intLit a).map (fun i =>V.int (-i)) = some v from h) fun i hi hEqq2 =>?_
   subst hEqq2
   obtain ⟨k,p1,rfl⟩:=intLit_some hi
   refine hN ?_; clear hN
   exact wpAny_UnaryOp (wpAny_Constant_int (PyProof.Rows.neg_int ((q.after (Kp.toks _)).int _ _)))
  | Not =>
   refine bc fun hN =>?_
   refine bind_el (show ((ev n G sc g a).bind fun x =>x.tru.map fun b =>V.bool !b) = some v from h) fun x hx h =>?_
   refine map_el h fun b hb hEqq2 =>?_
   subst hEqq2
   refine hN ?_; clear hN
   exact wpAny_UnaryOp (I _ _ _ _ _ _ _ _ _ _ _ S hA.up hx fun u s₁ k₁ r₁ =>not_value (tru_ok hb r₁ (q.after k₁).bool))
  | _ =>exact nomatch (show (Option.none : Option V) = some v from h)
 | BoolOp op es p =>exact IB _ _ _ _ _ _ _ _ _ _ _ _ _ S hA.up h q
 | Compare a ops es p =>
  refine bc fun hN =>?_
  refine bind_el (show (if lastMarks ops es = true then .none else ev n G sc g a).bind (fun x =>(evC n G sc g x ops es).map .bool) = some v from h) fun x hx h =>?_
  refine hN ?_; clear hN
  split at hx
  ·exact nS hx
  ·rename_i hm
   refine bc fun hN =>?_
   refine map_el h fun b hb hEqq2 =>?_
   subst hEqq2
   refine hN ?_; clear hN
   simp only [arm_eval_Compare,markedEach_of_false _ _ _ (Bool.eq_false_iff.mpr hm)]
   refine wpAny_bind (I _ _ _ _ _ _ _ _ _ _ _ S hA.up hx fun u s' k r =>?_)
   exact (IC _ _ _ _ _ _ _ E _ _ _ _ _ p (S.kp k) hA.up hb r).1 Q (q.after k)
 | IfExp t a b p =>
  refine bc fun hN =>?_
  obtain ⟨c,ht,h⟩:=iteO_some' (show iteO (evT n G sc g t) (ev n G sc g a) (ev n G sc g b) = some v from h)
  refine hN ?_; clear hN
  refine IfExp_ (IT _ _ _ _ _ _ _ _ _ _ _ S hA.up ht fun s' k =>?_)
  cases c with
  | true =>exact I _ _ _ _ _ _ _ _ _ _ _ (S.kp k) hA.up h (q.after k)
  | false =>exact I _ _ _ _ _ _ _ _ _ _ _ (S.kp k) hA.up h (q.after k)
 | List es p =>
  refine bc fun hN =>?_
  refine bind_el (show ((mapO (ev n G sc g) es).bind fun vs =>boundO vs (.list vs)) = some v from h) fun vs hvs h =>?_
  obtain ⟨hz,rfl⟩:=bound_some h
  refine hN ?_; clear hN
  refine List_ (spliced_ok I hA.up S hvs fun us s' k r =>wpAny_newObj_type (q _ _ (k.trans (Kp.push _)) (rep_new_list (S.ho.kp k) r)) ?_)
  show us.toArray.size ≤ sizeLine
  simp only [List.size_toArray,r.length]; exact Nat.le_trans hz lid_le
 | Tuple es k p =>
  refine bc fun hN =>?_
  refine bind_el (show ((mapO (ev n G sc g) es).bind fun vs =>boundO vs (.tup vs)) = some v from h) fun vs hvs h =>?_
  obtain ⟨hz,rfl⟩:=bound_some h
  refine hN ?_; clear hN
  refine Tuple_ (spliced_ok I hA.up S hvs fun us s' k r =>wpAny_newObj_type (q _ _ (k.trans (Kp.push _)) (rep_new_tup (S.ho.kp k) r)) ?_)
  show us.toArray.size ≤ sizeLine
  simp only [List.size_toArray,r.length]; exact Nat.le_trans hz lid_le
 | Attribute b f p =>
  refine bc fun hN =>?_
  refine bind_el (show ((nameOf b).bind fun x =>if isLoc sc x = true then fldO G f (g.lookup x) else .none) = some v from h) fun x hn h =>?_
  obtain ⟨px,rfl⟩:=nameOf_some hn
  refine ite_el h fun hx h =>?_
  refine bind_el h fun cf hl h =>?_
  refine ite_el h fun hF h =>?_
  refine hN ?_; clear hN
  exact attr_ok hG S hx (instOf_some hl) h (List.contains_iff_mem.mp hF) q
 | Subscript a i p =>exact ev_sub I IO S hA.up h q
 | Call f es ks p =>
  cases f with
  | Name f pf =>
   refine bc fun hN =>?_
   refine ite_el (show (if isGlo sc f = true then _ else .none) = some v from h) fun hf h =>?_
   refine hN ?_; clear hN
   exact ev_call hG I S hA.up hf h q
  | Attribute b m pa =>
   refine bc fun hN =>?_
   refine ite_el (show (if ks.isEmpty = true then _ else .none) = some v from h) fun hk h =>?_
   refine hN ?_; clear hN
   cases List.isEmpty_iff.mp hk
   exact ev_meth hG I S hA.up h q
  | _ =>exact nomatch (show (Option.none : Option V) = some v from h)
 | ListComp elt gens csc p =>
  refine bc fun hN =>?_
  refine bind_el (show ((compOf gens).bind fun c =>if compOk sc csc c.1 = true then (evI n G sc g c.2.1).bind fun xs =>if xs.length ≤ lid then (compV (compF n G csc g c.1 c.2.2 elt) xs).map .list else .none else .none) = some v from h) fun c hc h =>?_
  obtain ⟨pc,rfl⟩:=compOf_some hc
  refine ite_el h fun hc h =>?_
  refine bind_el h fun xs hxs h =>?_
  refine itep_el h fun hz h =>?_
  refine map_el h fun tot ht hEqq2 =>?_
  subst hEqq2
  refine hN ?_; clear hN
  exact listComp_ok I II IF S hA.up (compOk_of hc) hxs hz ht (folded_of hxs) q
 | _ =>exact nomatch (show (Option.none : Option V) = some v from h)
structure Sound (X : Gx) (G : Ge) (N n : Nat) : Prop where
 e : EvOK X G N n
 t : EvTOK X G N n
 b : EvBOK X G N n
 a : EvAOK X G N n
 c : EvCOK X G N n
 o : EvOOK X G N n
 i : EvIOK X G N n
 f : EvFOK X G N n
theorem sound (hG : GOk X G N) : ∀ n,Sound X G N n
 | 0 =>⟨fun _ _ _ _ _ _ _ _ _ _ v _ _ h =>(nomatch (show (Option.none : Option V) = some v from h)),fun _ _ _ _ _ _ _ _ _ _ b _ _ h =>(nomatch (show (Option.none : Option Bool) = some b from h)),fun _ _ _ _ _ _ _ _ _ _ _ _ v _ _ h =>(nomatch (show (Option.none : Option V) = some v from h)),fun _ _ _ _ _ _ _ _ _ _ _ b _ _ h =>(nomatch (show (Option.none : Option Bool) = some b from h)),
   fun _ _ _ _ _ _ _ _ _ _ _ _ b _ _ _ h =>(nomatch (show (Option.none : Option Bool) = some b from h)),fun _ _ _ _ _ _ _ _ _ _ r _ _ h =>(nomatch (show (Option.none : Option (Option Int)) = some r from h)),fun _ _ _ _ _ _ _ _ _ _ xs _ _ h =>(nomatch (show (Option.none : Option (List V)) = some xs from h)),fun _ _ _ _ _ _ _ _ _ _ b _ _ h =>(nomatch (show (Option.none : Option Bool) = some b from h))⟩
 | n + 1 =>let S:=sound hG n
  ⟨ev_ok hG S.e S.t S.b S.c S.o S.i S.f,evT_ok S.e S.t S.a S.c,evB_ok S.e S.b,evA_ok S.t S.a,evC_ok S.e S.c,evO_ok S.e,evI_ok S.e,evF_ok S.t⟩
end
structure Fm (X : Gx) (B : Heap) (Hc H Mu : List Addr) (env : Env) (s : Shared) : Prop where
 b0 : Sub X.B0 B
 keep : Sub B s.heap
 mu : ∀ a ∈ Mu,B.get? a = none
 live : HOk Mu s.heap
 hmu : ∀ a ∈ H,a ∈ Hc ∨ a ∈ Mu
 hc : ∀ a ∈ Hc,a ∈ H
 hcb : HOk Hc B
 ns : ∀ a ∈ Mu,a ∉ H → ∀ o,s.heap.get? a = some o → ¬ IsSeq o
 loc : env.locals ∈ Mu ∧ env.locals ∉ H
 cell : ∀ x c,env.cells.lookup x = some c → c ∈ Mu ∧ ∃ v,s.heap.IsCell c v
 cinj : ∀ x y c,env.cells.lookup x = some c → env.cells.lookup y = some c → x = y
inductive Mv (Mu : List Addr) (s s' : Shared) : Prop
 | mk (h' : Heap) (t : Nat) (e : s' = { s with heap:=h',toks:=t }) (k : ∀ b o,b ∉ Mu → s.heap.get? b = some o → h'.get? b = some o) : Mv Mu s s'
theorem Mv.of_kp {Mu : List Addr} {s s' : Shared} (k : Kp s s') : Mv Mu s s':=let ⟨h,t,e,k⟩:=k; ⟨h,t,e,fun b o _ e =>k b o e⟩
theorem Mv.keep {Mu : List Addr} {s s' : Shared} (k : Mv Mu s s') : ∀ b o,b ∉ Mu → s.heap.get? b = some o → s'.heap.get? b = some o:=by
 obtain ⟨h,t,rfl,k⟩:=k
 exact k
theorem Mv.trans {Mu Mu' : List Addr} {s s' s'' : Shared} (a : Mv Mu s s') (b : Mv Mu' s' s'') (m : ∀ x ∈ Mu',x ∈ Mu ∨ s.heap.get? x = none) : Mv Mu s s'':=by
 obtain ⟨h,t,rfl,k⟩:=a
 obtain ⟨h',t',rfl,k'⟩:=b
 refine ⟨h',t',rfl,fun x o hx e =>k' x o (fun hm =>?_) (k x o hx e)⟩
 rcases m x hm with a | a
 ·exact hx a
 ·rw [a] at e; exact nS e
inductive Nx (X : Gx) (B : Heap) (Hc : List Addr) (sc : Scope) (env : Env) (Mu : List Addr) (g' : Gam) (s s' : Shared) : Prop
 | mk (H' Mu' : List Addr) (S : St X sc env H' Mu' g' s') (F : Fm X B Hc H' Mu' env s') (m : Mv Mu s s') (hm : ∀ a ∈ Mu',a ∈ Mu ∨ s.heap.get? a = none) : Nx X B Hc sc env Mu g' s s'
noncomputable def Nw (X : Gx) (B : Heap) (Hc : List Addr) (sc : Scope) (env : Env) (H Mu : List Addr) (g' : Gam) (s s' : Shared) : Prop :=
 St X sc env H Mu g' s' ∧ Fm X B Hc H Mu env s' ∧ Mv Mu s s' ∧ SeqKeep (hideAll s.heap H) (hideAll s'.heap H)
theorem Nw.nx {X : Gx} {B : Heap} {Hc H Mu : List Addr} {sc : Scope} {env : Env} {g' : Gam} {s s' : Shared} (n : Nw X B Hc sc env H Mu g' s s') : Nx X B Hc sc env Mu g' s s':=⟨H,Mu,n.1,n.2.1,n.2.2.1,fun _ h =>.inl h⟩
theorem Fm.kp {X : Gx} {B : Heap} {Hc H Mu : List Addr} {env : Env} {s s' : Shared} (F : Fm X B Hc H Mu env s) (k : Kp s s') : Fm X B Hc H Mu env s' where
 b0:=F.b0
 keep b o e:=k.keep b o (F.keep b o e)
 mu:=F.mu
 live:=F.live.kp k
 hmu:=F.hmu
 hc:=F.hc
 hcb:=F.hcb
 ns a ha hH o e:=by
  obtain ⟨o',e'⟩:=F.live a ha
  have:=k.keep a o' e'
  rw [this] at e; obtain rfl:=Option.some.inj e
  exact F.ns a ha hH _ e'
 loc:=F.loc
 cell x c h2:=let ⟨a,v,b⟩:=F.cell x c h2; ⟨a,v,b.keeps k.keep⟩
 cinj:=F.cinj
theorem Nx.trans {X : Gx} {B : Heap} {Hc : List Addr} {sc : Scope} {env : Env} {Mu Mu' : List Addr} {g : Gam} {s s' s'' : Shared} (m : Mv Mu s s') (hm : ∀ a ∈ Mu',a ∈ Mu ∨ s.heap.get? a = none) (n : Nx X B Hc sc env Mu' g s' s'') : Nx X B Hc sc env Mu g s s'':=by
 refine bc fun hN =>?_
 obtain ⟨H2,Mu2,S,F,m2,h2⟩:=n
 refine hN ?_; clear hN
 refine ⟨H2,Mu2,S,F,m.trans m2 hm,fun a ha =>?_⟩
 rcases h2 a ha with h | h
 ·exact hm a h
 ·by_cases hx : a ∈ Mu
  ·exact .inl hx
  ·cases e : s.heap.get? a with
   | none =>exact .inr rfl
   | some o =>rw [m.keep a o hx e] at h; cases h
theorem Nx.kp {X : Gx} {B : Heap} {Hc : List Addr} {sc : Scope} {env : Env} {Mu : List Addr} {g : Gam} {s s' s'' : Shared} (k : Kp s s') (n : Nx X B Hc sc env Mu g s' s'') : Nx X B Hc sc env Mu g s s'' :=
 n.trans (Mv.of_kp k) (fun _ h =>.inl h)
theorem Held.toP {X : Gx} {env : Env} {H H' Mu Mu' : List Addr} {h h' : Heap} {m m' : Str → Option Value} {c : Addr → Prop} {a : Addr} {x : Str} (kb : ∀ b o,¬ c b → h.get? b = some o → h'.get? b = some o) (kr : SeqKeep (hideAll h H) (hideAll h' H'))
  (km : env.kindOf x = some .local → m' x = m x) (kc : ∀ c' v,env.cells.lookup x = some c' → h.IsCell c' v → ¬ c c') (ki : ∀ ix o,h.get? ix = some o → ix ∉ Mu → o.data = .plain → ¬ c ix)
  (kH : ∀ a ∈ H,a ∈ H') (kH' : ∀ a ∈ H',a ∈ H ∨ h.get? a = none) (kM : ∀ a ∈ Mu,a ∈ Mu') (kM' : ∀ a ∈ Mu',a ∈ Mu ∨ h.get? a = none) : ∀ {av : AV},(isCore (some av) → ¬ c a) → Held X env H Mu h m a x av → Held X env H' Mu' h' m' a x av:=by
 have at' : ∀ {u : Value},At env h m x u → At env h' m' x u:=fun {u} a =>by
  rcases a with ⟨e1,e2⟩ | ⟨e1,c',e2,o,ho,hd⟩
  ·exact .inl ⟨e1,(km e1).trans e2⟩
  ·exact .inr ⟨e1,c',e2,o,kb c' o (kc c' _ e2 ⟨o,ho,hd⟩) ho,hd⟩
 intro av ka hd
 cases av with
 | val v =>obtain ⟨u,b,r⟩:=hd; exact ⟨u,at' b,r.mono kr⟩
 | own xs =>obtain ⟨us,e1,e2,⟨o,ho,r1⟩,e4,e5,r⟩:=hd; exact ⟨us,e1,(km e1).trans e2,⟨o,kb _ _ (ka trivial) ho,r1⟩,kH _ e4,kM _ e5,r.mono kr⟩
 | inst C fl =>
  refine bc fun hN =>?_
  obtain ⟨ix,Ca,es,n,e1,e2,e3,e4,e5,e6,e7,e8,r⟩:=hd
  refine hN ?_; clear hN
  refine ⟨ix,Ca,es,n,at' e1,e2,kb _ _ (ki ix _ e3 e7 rfl) e3,kb _ _ (ka trivial) e4,kM _ e5,fun hm =>?_,fun hm =>?_,e8,r.mono kr⟩
  ·rcases kH' _ hm with b | b
   ·exact e6 b
   ·rw [e4] at b; cases b
  ·rcases kM' _ hm with b | b
   ·exact e7 b
   ·rw [e3] at b; cases b
theorem Held.to {X : Gx} {env : Env} {H H' Mu Mu' : List Addr} {h h' : Heap} {m m' : Str → Option Value} {c a : Addr} {x : Str} (kb : ∀ b o,b ≠ c → h.get? b = some o → h'.get? b = some o) (kr : SeqKeep (hideAll h H) (hideAll h' H'))
  (km : env.kindOf x = some .local → m' x = m x) (kc : ∀ c' v,env.cells.lookup x = some c' → h.IsCell c' v → c' ≠ c) (ki : ∀ ix o,h.get? ix = some o → ix ∉ Mu → o.data = .plain → ix ≠ c)
  (kH : ∀ a ∈ H,a ∈ H') (kH' : ∀ a ∈ H',a ∈ H ∨ h.get? a = none) (kM : ∀ a ∈ Mu,a ∈ Mu') (kM' : ∀ a ∈ Mu',a ∈ Mu ∨ h.get? a = none) {av : AV} (ka : isCore (some av) → a ≠ c) (hd : Held X env H Mu h m a x av) : Held X env H' Mu' h' m' a x av :=
 Held.toP (c:=fun b =>b = c) kb kr km kc ki kH kH' kM kM' ka hd
section
variable {X : Gx} {B : Heap} {Hc H Mu : List Addr} {sc : Scope} {env : Env} {g : Gam} {s : Shared}
theorem seqKeep_but {h h' : Heap} {c : Addr} (kb : ∀ b o,b ≠ c → h.get? b = some o → h'.get? b = some o) (hc : c ∈ H ∨ ∀ o,h.get? c = some o → ¬ IsSeq o) : SeqKeep (hideAll h H) (hideAll h' H):=fun b o e hq =>by
 refine hideAll_get H (kb b o (fun hb =>?_) (of_hideAll H e)) (hide_off e)
 subst hb
 rcases hc with a | a
 ·exact hide_off e a
 ·exact a o (of_hideAll H e) hq
theorem isSto_kind {x : Str} (h : isSto sc x = true) : isLoc sc x = true ∧ x ≠ ("self" : Str) ∧ (sc.names.lookup x = some .local ∨ sc.names.lookup x = some .cell):=by
 unfold isSto at h
 unfold isLoc
 simp only [Bool.and_eq_true,Bool.or_eq_true,beq_iff_eq,bne_iff_ne] at h ⊢
 exact ⟨⟨h.1.1,.inl h.2⟩,h.1.2,h.2⟩
theorem ns_notCell {h : Heap} {a : Addr} {m : Str → Option Value} {v : Option Value} (n : h.Ns a m) (c : h.IsCell a v) : False:=by
 obtain ⟨o',es,ep,ho,hd,_⟩:=n
 obtain ⟨o,e,hd'⟩:=c
 rw [e] at ho; obtain rfl:=Option.some.inj ho
 rw [hd'] at hd; cases hd
theorem ns_notList {h : Heap} {a : Addr} {m : Str → Option Value} {us : Array Value} (n : h.Ns a m) (c : h.IsList a us) : False:=by
 obtain ⟨o',es,ep,ho,hd,_⟩:=n
 obtain ⟨o,e,_,k,hd'⟩:=c
 rw [e] at ho; obtain rfl:=Option.some.inj ho
 rw [hd'] at hd; cases hd
theorem Fm.upd2 {s' : Shared} {c : Addr} {m m' : Str → Option Value} (F : Fm X B Hc H Mu env s) (hc : c ∈ Mu) (hn : s.heap.Ns env.locals m) (hn' : s'.heap.Ns env.locals m') (kb : ∀ b o,b ≠ c → b ≠ env.locals → s.heap.get? b = some o → s'.heap.get? b = some o) (hl : ∃ o,s'.heap.get? c = some o ∧ (c ∉ H → ¬ IsSeq o))
  (hcell : (∃ v,s.heap.IsCell c v) → ∃ v,s'.heap.IsCell c v) : Fm X B Hc H Mu env s' where
 b0:=F.b0
 keep b o e:=kb b o (fun hb =>by subst hb; rw [F.mu _ hc] at e; exact nS e) (fun hb =>by subst hb; rw [F.mu _ F.loc.1] at e; exact nS e) (F.keep b o e)
 mu:=F.mu
 live a ha:=by
  by_cases h : a = c
  ·subst h; obtain ⟨o,e,_⟩:=hl; exact ⟨o,e⟩
  ·by_cases h2 : a = env.locals
   ·subst h2; obtain ⟨o,_,_,ho,_⟩:=hn'; exact ⟨o,ho⟩
   ·obtain ⟨o,e⟩:=F.live a ha; exact ⟨o,kb a o h h2 e⟩
 hmu:=F.hmu
 hc:=F.hc
 hcb:=F.hcb
 ns a ha hH o e:=by
  by_cases h : a = c
  ·subst h; obtain ⟨o',e',hn⟩:=hl; rw [e'] at e; obtain rfl:=Option.some.inj e; exact hn hH
  ·by_cases h2 : a = env.locals
   ·subst h2; exact notSeq_ns hn' e
   ·refine bc fun hN =>?_
    obtain ⟨o',e'⟩:=F.live a ha
    refine hN ?_; clear hN
    rw [kb a o' h h2 e'] at e; obtain rfl:=Option.some.inj e
    exact F.ns a ha hH _ e'
 loc:=F.loc
 cell x d h2:=by
  refine bc fun hN =>?_
  obtain ⟨a,v,hv⟩:=F.cell x d h2
  refine hN ?_; clear hN
  refine ⟨a,?_⟩
  by_cases h : d = c
  ·subst h; exact hcell ⟨v,hv⟩
  ·refine bc fun hN =>?_
   obtain ⟨o,ho,hd⟩:=id hv
   refine hN ?_; clear hN
   exact ⟨v,o,kb d o h (fun h3 =>by subst h3; exact ns_notCell hn hv) ho,hd⟩
 cinj:=F.cinj
theorem Fm.upd {s' : Shared} {c : Addr} (F : Fm X B Hc H Mu env s) (hc : c ∈ Mu) (kb : ∀ b o,b ≠ c → s.heap.get? b = some o → s'.heap.get? b = some o) (hl : ∃ o,s'.heap.get? c = some o ∧ (c ∉ H → ¬ IsSeq o))
  (hcell : (∃ v,s.heap.IsCell c v) → ∃ v,s'.heap.IsCell c v) : Fm X B Hc H Mu env s' where
 b0:=F.b0
 keep b o e:=kb b o (fun hb =>by subst hb; rw [F.mu _ hc] at e; exact nS e) (F.keep b o e)
 mu:=F.mu
 live a ha:=by
  by_cases h : a = c
  ·subst h; obtain ⟨o,e,_⟩:=hl; exact ⟨o,e⟩
  ·obtain ⟨o,e⟩:=F.live a ha; exact ⟨o,kb a o h e⟩
 hmu:=F.hmu
 hc:=F.hc
 hcb:=F.hcb
 ns a ha hH o e:=by
  by_cases h : a = c
  ·subst h; obtain ⟨o',e',hn⟩:=hl; rw [e'] at e; obtain rfl:=Option.some.inj e; exact hn hH
  ·obtain ⟨o',e'⟩:=F.live a ha
   rw [kb a o' h e'] at e; obtain rfl:=Option.some.inj e
   exact F.ns a ha hH _ e'
 loc:=F.loc
 cell x d h2:=by
  obtain ⟨a,v,o,ho,hd⟩:=F.cell x d h2
  refine ⟨a,?_⟩
  by_cases h : d = c
  ·subst h; exact hcell ⟨v,o,ho,hd⟩
  ·exact ⟨v,o,kb d o h ho,hd⟩
 cinj:=F.cinj
theorem store_local {x : Str} {av : AV} {u : Value} {h' : Heap} {t : Nat} {m : Str → Option Value} {ad : Str → Addr} {a' : Addr} (S : St X sc env H Mu g s) (F : Fm X B Hc H Mu env s) (hx : isSto sc x = true)
  (hn : s.heap.Ns env.locals m) (hd : ∀ x av,isLoc sc x = true → g.lookup x = some av → Held X env H Mu s.heap m (ad x) x av) (inj : ∀ x y,isLoc sc x = true → isLoc sc y = true → isCore (g.lookup x) → isCore (g.lookup y) → ad x = ad y → x = y)
  (hself : Side X sc g m ad)
  (hn' : h'.Ns env.locals (fun y =>if y = x then some u else m y)) (hs : Heap.SameBut env.locals s.heap h')
  (hv : SeqKeep (hideAll s.heap H) (hideAll h' H) → (∀ b o,b ≠ env.locals → s.heap.get? b = some o → h'.get? b = some o) → Held X env H Mu h' (fun y =>if y = x then some u else m y) a' x av) (hinj : isCore (some av) → a' ∉ X.pn ∧ ∀ y,isLoc sc y = true → isCore (g.lookup y) → ad y ≠ a') :
  Nw X B Hc sc env H Mu (setL x av g) s { s with heap:=h',toks:=t }:=by
 have kb : ∀ b o,b ≠ env.locals → s.heap.get? b = some o → h'.get? b = some o:=fun b o hb e =>hs.extBut b o hb e
 have kr : SeqKeep (hideAll s.heap H) (hideAll h' H):=seqKeep_but kb (.inr fun o e =>notSeq_ns hn e)
 refine bc fun hN =>?_
 obtain ⟨h1,h2,_⟩:=isSto_kind hx
 refine hN ?_; clear hN
 refine ⟨⟨fun b o e =>?_,S.kind,S.glob,S.blt,S.kinds,fun a ha =>?_,_,fun y =>if y = x then a' else ad y,hn',fun y av' hy hl =>?_,fun y z hy hz c1 c2 e =>?_,fun hsl ix dx e =>?_,fun y hy c1 =>?_⟩,F.upd (s':={ s with heap:=h',toks:=t }) F.loc.1 kb ?_ ?_,⟨h',t,rfl,fun b o hb e =>kb b o (fun h =>hb (h ▸ F.loc.1)) e⟩,kr⟩
 ·exact kb b o (fun h =>by have:=F.b0 b o e; simp only [h,F.mu _ F.loc.1] at this; exact nS this) (S.base b o e)
 ·obtain ⟨o,e⟩:=S.ho a ha
  exact ⟨o,kb a o (fun h =>F.loc.2 (h ▸ ha)) e⟩
 ·rw [setL_lookup] at hl
  by_cases hyx : y = x
  ·subst hyx
   rw [if_pos rfl] at hl; obtain rfl:=Option.some.inj hl
   have:=hv kr kb
   simpa using this
  ·rw [if_neg hyx] at hl
   show Held X env H Mu h' _ (if y = x then a' else ad y) y av'
   rw [if_neg hyx]
   refine Held.to kb kr (fun _ =>by simp [hyx]) (fun c' v' _ hc' h =>?_) (fun ix o e hix hpl h =>?_) (fun _ h =>h) (fun _ h =>.inl h) (fun _ h =>h) (fun _ h =>.inl h) (fun hcore h =>?_) (hd y av' hy hl)
   ·subst h; exact ns_notCell hn hc'
   ·subst h; exact hix F.loc.1
   ·have hh:=hd y av' hy hl
    cases av' with
    | val v =>exact hcore
    | own xs =>obtain ⟨us,_,_,hli,_⟩:=hh; rw [h] at hli; exact ns_notList hn hli.isList
    | inst C fl =>obtain ⟨_,_,_,_,_,_,_,_,_,_,_,e8,_⟩:=hh; exact e8 h
 ·rw [setL_lookup] at c1 c2
  replace e : (if y = x then a' else ad y) = (if z = x then a' else ad z):=e
  by_cases hyx : y = x
  ·by_cases hzx : z = x
   ·simp only [hyx,hzx]
   ·rw [if_pos hyx] at c1; rw [if_neg hzx] at c2
    simp only [if_pos hyx,if_neg hzx] at e
    exact absurd e.symm ((hinj c1).2 z hz c2)
  ·by_cases hzx : z = x
   ·rw [if_neg hyx] at c1; rw [if_pos hzx] at c2
    simp only [if_neg hyx,if_pos hzx] at e
    exact absurd e ((hinj c2).2 y hy c1)
   ·rw [if_neg hyx] at c1; rw [if_neg hzx] at c2
    simp only [if_neg hyx,if_neg hzx] at e
    exact inj y z hy hz c1 c2 e
 ·obtain ⟨a,b⟩:=hself.1 hsl ix dx e
  exact ⟨by simp [Ne.symm h2,a],by simp [Ne.symm h2,b]⟩
 ·rw [setL_lookup] at c1
  show (if y = x then a' else ad y) ∉ X.pn
  by_cases hyx : y = x
  ·rw [if_pos hyx] at c1 ⊢; exact (hinj c1).1
  ·rw [if_neg hyx] at c1 ⊢; exact hself.2 y hy c1
 ·obtain ⟨o,es,ep,ho,hdt,_⟩:=hn'
  exact ⟨o,ho,fun _ ⟨_,_,hq⟩ =>by rw [hdt] at hq; cases hq⟩
 ·rintro ⟨v,hv⟩; exact (ns_notCell hn hv).elim
theorem store_cell {x : Str} {v : V} {u : Value} {h' : Heap} {t : Nat} {c : Addr} (S : St X sc env H Mu g s) (F : Fm X B Hc H Mu env s) (hx : isSto sc x = true) (hk : env.kindOf x = some .cell) (hcx : env.cells.lookup x = some c)
  (hn' : h'.IsCell c (some u)) (hs : Heap.SameBut c s.heap h') (r : Rep (hideAll s.heap H) v u) :
  Nw X B Hc sc env H Mu (setL x (.val v) g) s { s with heap:=h',toks:=t }:=by
 refine bc fun hN =>?_
 obtain ⟨m,ad,hn,hd,inj,hself⟩:=S.held
 obtain ⟨hcM,v0,hv0⟩:=F.cell x c hcx
 have kb : ∀ b o,b ≠ c → s.heap.get? b = some o → h'.get? b = some o:=fun b o hb e =>hs.extBut b o hb e
 have hcns : ∀ o,s.heap.get? c = some o → ¬ IsSeq o:=fun o e ⟨_,_,hq⟩ =>by
  refine bc fun hN =>?_
  obtain ⟨o',e',hd'⟩:=hv0
  refine hN ?_; clear hN
  rw [e'] at e; cases e
  rw [hd'] at hq; cases hq
 have kr : SeqKeep (hideAll s.heap H) (hideAll h' H):=seqKeep_but kb (.inr hcns)
 have hcL : c ≠ env.locals:=fun h =>by subst h; exact ns_notCell hn hv0
 obtain ⟨h1,h2,_⟩:=isSto_kind hx
 refine hN ?_; clear hN
 have hcH : ∀ a ∈ H,a ≠ c → True:=fun _ _ _ =>trivial
 refine ⟨⟨fun b o e =>?_,S.kind,S.glob,S.blt,S.kinds,fun a ha =>?_,m,ad,hn.at' fun o e =>kb _ o hcL.symm e,fun y av' hy hl =>?_,fun y z hy hz c1 c2 e =>?_,hself.1,fun y hy c1 =>?_⟩,F.upd (s':={ s with heap:=h',toks:=t }) hcM kb ?_ (fun _ =>⟨_,hn'⟩),⟨h',t,rfl,fun b o hb e =>kb b o (fun h =>hb (h ▸ hcM)) e⟩,kr⟩
 ·exact kb b o (fun h =>by have:=F.b0 b o e; simp only [h,F.mu _ hcM] at this; exact nS this) (S.base b o e)
 ·refine bc fun hN =>?_
  obtain ⟨o,e⟩:=S.ho a ha
  refine hN ?_; clear hN
  by_cases hac : a = c
  ·obtain ⟨o',e',_⟩:=hn'; exact ⟨o',hac ▸ e'⟩
  ·exact ⟨o,kb a o hac e⟩
 ·rw [setL_lookup] at hl
  by_cases hyx : y = x
  ·subst hyx
   rw [if_pos rfl] at hl; obtain rfl:=Option.some.inj hl
   exact ⟨u,.inr ⟨.inl hk,c,hcx,hn'⟩,r.mono kr⟩
  ·rw [if_neg hyx] at hl
   refine Held.to kb kr (fun _ =>rfl) (fun c' v' hc1 hc' h =>?_) (fun ix o e hix hpl h =>?_) (fun _ h =>h) (fun _ h =>.inl h) (fun _ h =>h) (fun _ h =>.inl h) (fun hcore h =>?_) (hd y av' hy hl)
   ·exact hyx (F.cinj y x c (h ▸ hc1) hcx)
   ·subst h; exact hix hcM
   ·have hh:=hd y av' hy hl
    cases av' with
    | val v =>exact hcore
    | own xs =>
     refine bc fun hN =>?_
     obtain ⟨us,_,_,⟨o,ho,_,_,k,hdt⟩,_⟩:=hh
     refine hN ?_; clear hN
     rw [h] at ho; exact hcns o ho ⟨_,_,hdt⟩
    | inst C fl =>
     obtain ⟨_,_,es,k,_,_,_,e4,_⟩:=hh
     rw [h] at e4
     refine bc fun hN =>?_
     obtain ⟨o',e',hd'⟩:=hv0
     refine hN ?_; clear hN
     rw [e'] at e4; obtain rfl:=Option.some.inj e4; cases hd'
 ·rw [setL_lookup] at c1 c2
  by_cases hyx : y = x
  ·rw [if_pos hyx] at c1; exact c1.elim
  ·by_cases hzx : z = x
   ·rw [if_pos hzx] at c2; exact c2.elim
   ·rw [if_neg hyx] at c1; rw [if_neg hzx] at c2
    exact inj y z hy hz c1 c2 e
 ·rw [setL_lookup] at c1
  by_cases hyx : y = x
  ·rw [if_pos hyx] at c1; exact c1.elim
  ·rw [if_neg hyx] at c1; exact hself.2 y hy c1
 ·refine bc fun hN =>?_
  obtain ⟨o,ho,hdt⟩:=hn'
  refine hN ?_; clear hN
  exact ⟨o,ho,fun _ ⟨_,_,hq⟩ =>by rw [hdt] at hq; cases hq⟩
theorem sto_cases {x : Str} (S : St X sc env H Mu g s) (hx : isSto sc x = true) : env.kindOf x = some .local ∨ (env.kindOf x = some .cell ∧ ∃ c,env.cells.lookup x = some c):=by
 refine bc fun hN =>?_
 obtain ⟨_,_,h⟩:=isSto_kind hx
 refine hN ?_; clear hN
 rcases h with h | h
 ·exact .inl (S.kinds.loc x h)
 ·exact .inr ⟨S.kinds.cel x h,Option.isSome_iff_exists.mp (S.kinds.has x (.inl h))⟩
theorem store_val {A : Around} {E : Value → Shared → Prop} {Q : Unit → Shared → Prop} {x : Str} {v : V} {u : Value} (S : St X sc env H Mu g s) (F : Fm X B Hc H Mu env s) (hx : isSto sc x = true) (r : Rep (hideAll s.heap H) v u)
  (q : ∀ s',Nw X B Hc sc env H Mu (setL x (.val v) g) s s' → Q () s') : wpAny (model X.prog X.w) A (storeName env x u) Q E s:=by
 rcases sto_cases S hx with h | ⟨h,c,hc⟩
 ·refine bc fun hN =>?_
  obtain ⟨m,ad,hn,hd,inj,hself⟩:=S.held
  refine hN ?_; clear hN
  refine wpAny_storeName_local h hn (fun h' hn' hs =>q _ (store_local (a':=0) S F hx hn hd inj hself hn' hs (fun kr _ =>⟨u,.inl ⟨h,by simp⟩,r.mono kr⟩) fun h =>h.elim)) ?_
  rw [S.kind]; rfl
 ·refine bc fun hN =>?_
  obtain ⟨_,v0,hv0⟩:=F.cell x c hc
  refine hN ?_; clear hN
  exact wpAny_storeName_cell S.kind h hc hv0 fun h' hn' hs =>q _ (store_cell S F hx h hc hn' hs r)
end
section
variable {X : Gx} {B : Heap} {Hc H Mu : List Addr} {sc : Scope} {env : Env} {g : Gam} {s s0 : Shared}
noncomputable def hidden (own : Bool) (a : Addr) (H : List Addr) : List Addr:=if own then a :: H else H
theorem hidden_sub {own : Bool} {a : Addr} {H : List Addr} : ∀ b ∈ H,b ∈ hidden own a H:=fun b hb =>by
 unfold hidden; split
 ·exact .tail _ hb
 ·exact hb
theorem hidden_cases {own : Bool} {a : Addr} {H : List Addr} : ∀ b ∈ hidden own a H,b ∈ H ∨ b = a:=fun b hb =>by
 unfold hidden at hb; split at hb
 ·rcases List.mem_cons.mp hb with h | h
  ·exact .inr h
  ·exact .inl h
 ·exact .inl hb
theorem enlarge {a : Addr} {own : Bool} (S : St X sc env H Mu g s0) (F : Fm X B Hc H Mu env s0) (k : Kp s0 s) (ha : s0.heap.get? a = none) (hl : ∃ o,s.heap.get? a = some o ∧ (own = false → ¬ IsSeq o)) :
  St X sc env (hidden own a H) (a :: Mu) g s ∧ Fm X B Hc (hidden own a H) (a :: Mu) env s ∧ SeqKeep (hideAll s0.heap H) (hideAll s.heap (hidden own a H)) ∧
  ∃ (m : Str → Option Value) (ad : Str → Addr),s.heap.Ns env.locals m ∧ (∀ x av,isLoc sc x = true → g.lookup x = some av → Held X env (hidden own a H) (a :: Mu) s.heap m (ad x) x av) ∧
   (∀ x y,isLoc sc x = true → isLoc sc y = true → isCore (g.lookup x) → isCore (g.lookup y) → ad x = ad y → x = y) ∧
   Side X sc g m ad ∧
   (∀ y,isLoc sc y = true → isCore (g.lookup y) → ad y ≠ a):=by
 refine bc fun hN =>?_
 obtain ⟨m,ad,hn,hd,inj,hself⟩:=S.held
 refine hN ?_; clear hN
 have kH' : ∀ b ∈ hidden own a H,b ∈ H ∨ s0.heap.get? b = none:=fun b hb =>by
  rcases hidden_cases b hb with h | h
  ·exact .inl h
  ·exact .inr (h ▸ ha)
 have kM' : ∀ b ∈ a :: Mu,b ∈ Mu ∨ s0.heap.get? b = none:=fun b hb =>by
  rcases List.mem_cons.mp hb with h | h
  ·exact .inr (h ▸ ha)
  ·exact .inl h
 have kr : SeqKeep (hideAll s0.heap H) (hideAll s.heap (hidden own a H)):=.of (hide_fresh kH' k.keep)
 have hne : ∀ y av,isLoc sc y = true → g.lookup y = some av → isCore (some av) → ad y ≠ a:=fun y av hy hl hc h =>by
  have hh:=hd y av hy hl
  cases av with
  | val v =>exact hc
  | own xs =>obtain ⟨us,_,_,⟨o,ho,_⟩,_⟩:=hh; simp only [h,ha] at ho; exact nS ho
  | inst C fl =>obtain ⟨_,_,_,_,_,_,_,e4,_⟩:=hh; simp only [h,ha] at e4; exact nS e4
 have hd' : ∀ x av,isLoc sc x = true → g.lookup x = some av → Held X env (hidden own a H) (a :: Mu) s.heap m (ad x) x av:=fun y av hy hl =>by
  refine Held.to (c:=a) (fun b o _ e =>k.keep b o e) kr (fun _ =>rfl) (fun c' v' _ hc' h =>?_) (fun ix o e _ hpl h =>?_) hidden_sub kH' (fun _ h =>.tail _ h) kM' (fun hcore =>hne y av hy hl hcore) (hd y av hy hl)
  ·subst h; obtain ⟨o,ho,_⟩:=hc'; rw [ha] at ho; exact nS ho
  ·subst h; rw [ha] at e; exact nS e
 have hne' : ∀ y,isLoc sc y = true → isCore (g.lookup y) → ad y ≠ a:=fun y hy hc =>by
  cases hl : g.lookup y with
  | none =>rw [hl] at hc; exact hc.elim
  | some av =>rw [hl] at hc; exact hne y av hy hl hc
 have hoH : HOk (hidden own a H) s.heap:=fun b hb =>by
  rcases hidden_cases b hb with h | h
  ·obtain ⟨o,e⟩:=S.ho b h; exact ⟨o,k.keep _ _ e⟩
  ·obtain ⟨o,e,_⟩:=hl; exact ⟨o,h ▸ e⟩
 have Fk:=F.kp k
 refine ⟨⟨fun b o e =>k.keep b o (S.base b o e),S.kind,S.glob,S.blt,S.kinds,hoH,m,ad,hn.keeps k.keep,hd',inj,hself⟩,⟨Fk.b0,Fk.keep,fun b hb =>?_,fun b hb =>?_,fun b hb =>?_,fun b hb =>hidden_sub b (F.hc b hb),F.hcb,fun b hb hbH o e =>?_,⟨.tail _ F.loc.1,fun hm =>?_⟩,fun x c h2 =>?_,F.cinj⟩,kr,m,ad,hn.keeps k.keep,hd',inj,hself,hne'⟩
 ·rcases List.mem_cons.mp hb with h | h
  ·cases e : B.get? b with
   | none =>rfl
   | some o =>have:=F.keep b o e; simp only [h,ha] at this; exact nS this
  ·exact F.mu b h
 ·rcases List.mem_cons.mp hb with h | h
  ·obtain ⟨o,e,_⟩:=hl; exact ⟨o,h ▸ e⟩
  ·exact Fk.live b h
 ·rcases hidden_cases b hb with h | h
  ·rcases F.hmu b h with h | h
   ·exact .inl h
   ·exact .inr (.tail _ h)
  ·exact .inr (h ▸ .head _)
 ·rcases List.mem_cons.mp hb with h | h
  ·obtain ⟨o',e',hs⟩:=hl
   simp only [h,e'] at e; obtain rfl:=Option.some.inj e
   refine hs ?_
   cases own with
   | false =>rfl
   | true =>exact absurd (by unfold hidden; simp only [if_pos rfl,h]; exact .head _) hbH
  ·exact Fk.ns b h (fun hh =>hbH (hidden_sub b hh)) o e
 ·rcases hidden_cases _ hm with h | h
  ·exact F.loc.2 h
  ·obtain ⟨o,es,ep,ho,_⟩:=hn
   simp only [h,ha] at ho; exact nS ho
 ·obtain ⟨p1,p2⟩:=Fk.cell x c h2
  exact ⟨.tail _ p1,p2⟩
end
section
variable {X : Gx} {B : Heap} {Hc H Mu : List Addr} {sc : Scope} {env : Env} {g : Gam} {s : Shared}
theorem upd_core {x : Str} {av av' : AV} {h' : Heap} {t : Nat} {m : Str → Option Value} {ad : Str → Addr} (S : St X sc env H Mu g s) (F : Fm X B Hc H Mu env s) (hx : isLoc sc x = true) (hl : g.lookup x = some av) (hcore : isCore (some av)) (hcore' : isCore (some av'))
  (hn : s.heap.Ns env.locals m) (hd : ∀ x av,isLoc sc x = true → g.lookup x = some av → Held X env H Mu s.heap m (ad x) x av) (inj : ∀ x y,isLoc sc x = true → isLoc sc y = true → isCore (g.lookup x) → isCore (g.lookup y) → ad x = ad y → x = y)
  (hself : Side X sc g m ad)
  (hcM : ad x ∈ Mu) (hcL : ad x ≠ env.locals) (hnc : ∀ v,¬ s.heap.IsCell (ad x) v) (kb : ∀ b o,b ≠ ad x → b ≠ env.locals → s.heap.get? b = some o → h'.get? b = some o) (hn' : h'.Ns env.locals m) (hcs : ad x ∈ H ∨ ∀ o,s.heap.get? (ad x) = some o → ¬ IsSeq o)
  (ho : ∃ o,h'.get? (ad x) = some o ∧ (ad x ∉ H → ¬ IsSeq o)) (hv : SeqKeep (hideAll s.heap H) (hideAll h' H) → Held X env H Mu h' m (ad x) x av') :
  Nw X B Hc sc env H Mu (setL x av' g) s { s with heap:=h',toks:=t }:=by
 have kr : SeqKeep (hideAll s.heap H) (hideAll h' H):=fun b o e hq =>by
  refine hideAll_get H (kb b o (fun hb =>?_) (fun hb =>?_) (of_hideAll H e)) (hide_off e)
  ·subst hb
   rcases hcs with a | a
   ·exact hide_off e a
   ·exact a o (of_hideAll H e) hq
  ·subst hb; exact notSeq_ns hn (of_hideAll H e) hq
 have tr : ∀ z,isCore ((setL x av' g).lookup z) → isCore (g.lookup z):=fun z hz =>by
  rw [setL_lookup] at hz
  by_cases hzx : z = x
  ·simp only [hzx,hl]; exact hcore
  ·rw [if_neg hzx] at hz; exact hz
 refine ⟨⟨fun b o e =>?_,S.kind,S.glob,S.blt,S.kinds,fun a ha =>?_,m,ad,hn',fun y av2 hy hl2 =>?_,fun y z hy hz c1 c2 e =>?_,hself.1,fun y hy c1 =>hself.2 y hy (tr y c1)⟩,F.upd2 (s':={ s with heap:=h',toks:=t }) hcM hn hn' kb ho (fun ⟨v,hv⟩ =>(hnc v hv).elim),⟨h',t,rfl,fun b o hb e =>kb b o (fun h =>hb (h ▸ hcM)) (fun h =>hb (h ▸ F.loc.1)) e⟩,kr⟩
 ·exact kb b o (fun h =>by have:=F.b0 b o e; simp only [h,F.mu _ hcM] at this; exact nS this) (fun h =>by have:=F.b0 b o e; simp only [h,F.mu _ F.loc.1] at this; exact nS this) (S.base b o e)
 ·obtain ⟨o,e⟩:=S.ho a ha
  by_cases hac : a = ad x
  ·obtain ⟨o',e',_⟩:=ho; exact ⟨o',hac ▸ e'⟩
  ·exact ⟨o,kb a o hac (fun h =>F.loc.2 (h ▸ ha)) e⟩
 ·rw [setL_lookup] at hl2
  by_cases hyx : y = x
  ·subst hyx
   rw [if_pos rfl] at hl2; obtain rfl:=Option.some.inj hl2
   exact hv kr
  ·rw [if_neg hyx] at hl2
   refine Held.toP (c:=fun b =>b = ad x ∨ b = env.locals) (fun b o hb e =>kb b o (fun h =>hb (.inl h)) (fun h =>hb (.inr h)) e) kr (fun _ =>rfl) (fun c' v' _ hc' h =>?_) (fun ix o e hix hpl h =>?_) (fun _ h =>h) (fun _ h =>.inl h) (fun _ h =>h) (fun _ h =>.inl h) (fun hc2 h =>?_) (hd y av2 hy hl2)
   ·rcases h with h | h
    ·subst h; exact hnc _ hc'
    ·subst h; exact ns_notCell hn hc'
   ·rcases h with h | h
    ·subst h; exact hix hcM
    ·subst h; exact hix F.loc.1
   ·rcases h with h | h
    ·exact hyx (inj y x hy hx (by rw [hl2]; exact hc2) (by rw [hl]; exact hcore) h)
    ·have hh:=hd y av2 hy hl2
     cases av2 with
     | val v =>exact hc2
     | own xs =>obtain ⟨us,_,_,hli,_⟩:=hh; rw [h] at hli; exact ns_notList hn hli.isList
     | inst C fl =>obtain ⟨_,_,_,_,_,_,_,_,_,_,_,e8,_⟩:=hh; exact e8 h
 ·have tr : ∀ z,isCore ((setL x av' g).lookup z) → isCore (g.lookup z):=fun z hz =>by
   rw [setL_lookup] at hz
   by_cases hzx : z = x
   ·simp only [hzx,hl]; exact hcore
   ·rw [if_neg hzx] at hz; exact hz
  exact inj y z hy hz (tr y c1) (tr z c2) e
theorem upd_own {x : Str} {xs xs' : List V} {us' : List Value} {h' : Heap} {t : Nat} {m : Str → Option Value} {ad : Str → Addr} (S : St X sc env H Mu g s) (F : Fm X B Hc H Mu env s) (hx : isLoc sc x = true) (hl : g.lookup x = some (.own xs))
  (hn : s.heap.Ns env.locals m) (hd : ∀ x av,isLoc sc x = true → g.lookup x = some av → Held X env H Mu s.heap m (ad x) x av) (inj : ∀ x y,isLoc sc x = true → isLoc sc y = true → isCore (g.lookup x) → isCore (g.lookup y) → ad x = ad y → x = y)
  (hself : Side X sc g m ad)
  (hl' : IsOwn h' (ad x) us'.toArray) (kb : ∀ b o,b ≠ ad x → s.heap.get? b = some o → h'.get? b = some o) (r : Reps (hideAll s.heap H) xs' us') :
  Nw X B Hc sc env H Mu (setL x (.own xs') g) s { s with heap:=h',toks:=t }:=by
 refine bc fun hN =>?_
 obtain ⟨us,e1,e2,e3,e4,e5,e6⟩:=hd x _ hx hl
 obtain ⟨o,ho,hc,_,n,hdt⟩:=id e3
 obtain ⟨o',ho',_⟩:=id hl'
 refine hN ?_; clear hN
 have hcL : ad x ≠ env.locals:=fun h =>F.loc.2 (h ▸ e4)
 refine upd_core S F hx hl trivial trivial hn hd inj hself e5 hcL (fun v ⟨o2,h2,hd2⟩ =>?_) (fun b o h1 _ e =>kb b o h1 e) (hn.at' fun o e =>kb _ o hcL.symm e) (.inl e4) ⟨o',ho',fun h =>absurd e4 h⟩ fun kr =>⟨us',e1,e2,hl',e4,e5,r.mono kr⟩
 rw [ho] at h2; obtain rfl:=Option.some.inj h2
 rw [hdt] at hd2; cases hd2
theorem upd_inst {x C : Str} {fl fl' : List (Str × V)} {h' : Heap} {t : Nat} {m : Str → Option Value} {ad : Str → Addr} {es' : List DictEntry} {n' : Nat} (S : St X sc env H Mu g s) (F : Fm X B Hc H Mu env s) (hx : isLoc sc x = true) (hl : g.lookup x = some (.inst C fl))
  (hn : s.heap.Ns env.locals m) (hd : ∀ x av,isLoc sc x = true → g.lookup x = some av → Held X env H Mu s.heap m (ad x) x av) (inj : ∀ x y,isLoc sc x = true → isLoc sc y = true → isCore (g.lookup x) → isCore (g.lookup y) → ad x = ad y → x = y)
  (hself : Side X sc g m ad)
  (hl' : h'.get? (ad x) = some (dictOf es' n')) (kb : ∀ b o,b ≠ ad x → b ≠ env.locals → s.heap.get? b = some o → h'.get? b = some o) (hn' : h'.Ns env.locals m) (r : Flds (hideAll h' H) fl' es') :
  Nw X B Hc sc env H Mu (setL x (.inst C fl') g) s { s with heap:=h',toks:=t }:=by
 refine bc fun hN =>?_
 obtain ⟨ix,Ca,es,n,e1,e2,e3,e4,e5,e6,e7,e8,_⟩:=hd x _ hx hl
 refine hN ?_; clear hN
 have hix : ix ≠ ad x:=fun h =>e7 (h ▸ e5)
 have hiL : ix ≠ env.locals:=fun h =>e7 (h ▸ F.loc.1)
 refine upd_core S F hx hl trivial trivial hn hd inj hself e5 e8 (fun v ⟨o2,h2,hd2⟩ =>?_) kb hn' (.inr fun o e ⟨_,_,hq⟩ =>?_) ⟨_,hl',fun _ ⟨_,_,hq⟩ =>by cases hq⟩ fun kr =>⟨ix,Ca,es',n',?_,e2,kb _ _ hix hiL e3,hl',e5,e6,e7,e8,r⟩
 ·rw [e4] at h2; obtain rfl:=Option.some.inj h2; cases hd2
 ·rw [e4] at e; obtain rfl:=Option.some.inj e; cases hq
 ·rcases e1 with ⟨a,b⟩ | ⟨a,c,b,o,ho,hdt⟩
  ·exact .inl ⟨a,b⟩
  ·refine .inr ⟨a,c,b,o,kb c o (fun h =>?_) (fun h =>?_) ho,hdt⟩
   ·rw [h,e4] at ho; obtain rfl:=Option.some.inj ho; cases hdt
   ·rw [h] at ho; exact ns_notCell hn ⟨o,ho,hdt⟩
end
theorem list_extendW (l : Addr) (items : Array Value) (n : Nat) (b : Addr) (items2 : Array Value) (n2 : Nat) (dd dd2 : Option Addr) (sl sl2 : Array (Option Value)) (hc0 : ¬(!items.isEmpty && Builtin.List.listTooLong (items.size + items2.size)) = true) (hc1 : items.size ≤ sizeLine) (hs2 : items.size + items2.size ≤ sizeLine + 1) :
  Meets (Builtin.«list.extend» ⟨[.ref l,.ref b],[]⟩) (fun _ R s =>s.heap.get? l = some { cls:=.type "list",dict:=dd,data:=.seq items n,slots:=sl } ∧ s.heap.get? b = some { cls:=.type "list",dict:=dd2,data:=.seq items2 n2,slots:=sl2 } ∧ R (.ok (.ret Value.none)) { s with heap:=s.heap.update l (Obj.mapSeq fun x =>x ++ items2),toks:=s.toks }) :=
 .of_wp fun prog w A R s h =>by
  obtain ⟨hp,g,d,tk,os⟩:=s; obtain ⟨hl,hb,h⟩:=h; have f1:=AutoSeq1.idx_int; have f2:=AutoSeq1.sub_tuple_tuple; have f3:=AutoSeq1.sub_list_list; have f4:=AutoSeq1.sub_tuple_list; have f5:=AutoSeq1.sub_list_tuple
  have hz' : (items ++ items2).size ≤ sizeLine + 1:=by rw [Array.size_append]; exact hs2
  wp_walk using (wpAny_updateSeq hl rfl (hz:=hc1) (_hz':=hz')),wpAny_loadPart' hl,wpAny_loadPart' hb; exact ⟨_,rfl,h⟩
theorem list_reverseW (l : Addr) (items : Array Value) (n : Nat) (dd : Option Addr) (sl : Array (Option Value)) (hs1 : items.size ≤ sizeLine) :
  Meets (Builtin.«list.reverse» ⟨[.ref l],[]⟩) (fun _ R s =>s.heap.get? l = some { cls:=.type "list",dict:=dd,data:=.seq items n,slots:=sl } ∧ R (.ok (.ret Value.none)) { s with heap:=s.heap.update l (Obj.mapSeq fun x =>x.reverse),toks:=s.toks }) :=
 .of_wp fun prog w A R s h =>by
  obtain ⟨hp,g,d,tk,os⟩:=s; obtain ⟨hl,h⟩:=h; have f1:=AutoSeq1.idx_int; have f2:=AutoSeq1.sub_tuple_tuple; have f3:=AutoSeq1.sub_list_list; have f4:=AutoSeq1.sub_tuple_list; have f5:=AutoSeq1.sub_list_tuple
  have hz' : items.reverse.size ≤ sizeLine + 1:=by rw [Array.size_reverse]; lia
  wp_walk using (wpAny_updateSeq hl rfl (hz:=hs1) (_hz':=hz')),wpAny_loadPart' hl; exact ⟨_,rfl,h⟩
theorem own_upd {h : Heap} {a : Addr} {us : Array Value} (x : IsOwn h a us) (f : Array Value → Array Value) : IsOwn (h.update a (Obj.mapSeq f)) a (f us):=by
 refine bc fun hN =>?_
 obtain ⟨⟨c,d,dt,sl⟩,ho,hc,hd,n,hdt⟩:=x
 refine hN ?_; clear hN
 simp only at hc hd hdt
 subst hc hd hdt
 exact ⟨_,Heap.get?_update_self _ ho rfl,rfl,rfl,_,rfl⟩
section
variable {prog : Program} {w : World} {A : Around} {E Q : Value → Shared → Prop} {s : Shared} {H : List Addr}
theorem append_own {a : Addr} {us : List Value} {u : Value} (hl : IsOwn s.heap a us.toArray) (hz : us.length ≤ sizeLine) (q : ∀ h',IsOwn h' a (us ++ [u]).toArray → (∀ b o,b ≠ a → s.heap.get? b = some o → h'.get? b = some o) → Q .none { s with heap:=h' }) :
  wpAny (model prog w) A (call (.builtin "list.append") [.ref a,u]) Q E s:=by
 refine bc fun hN =>?_
 obtain ⟨⟨c,d,dt,sl⟩,ho,hc,hd,n,hdt⟩:=id hl
 refine hN ?_; clear hN
 refine wpAny_call_entry slot_list_append hl.isList.typeIs entry_list_append ?_ (args_list_append _ _)
 show wpAny _ _ (updateSeq a (·.push u) >>= fun _ =>ret .none) _ _ s
 refine wpAny_bind (wpAny_updateSeq (hz:=by rw [List.size_toArray]; exact hz) ho hdt (wpAny_pure ⟨.none,rfl,q _ ?_ fun b o hb e =>(Heap.SameBut.update ..).extBut b o hb e⟩))
 have:=own_upd hl (·.push u)
 simpa using this
theorem extend_own {a b : Addr} {us ws : List Value} (hl : IsOwn s.heap a us.toArray) (hb : s.heap.IsList b ws.toArray) (hz : us.length + ws.length ≤ sizeLine) (q : ∀ h',IsOwn h' a (us ++ ws).toArray → (∀ b o,b ≠ a → s.heap.get? b = some o → h'.get? b = some o) → Q .none { s with heap:=h' }) :
  wpAny (model prog w) A (call (.builtin "list.extend") [.ref a,.ref b]) Q E s:=by
 refine bc fun hN =>?_
 obtain ⟨⟨c,d,dt,sl⟩,ho,hc,hd,n,hdt⟩:=id hl
 obtain ⟨⟨c2,d2,dt2,sl2⟩,ho2,hc2,n2,hdt2⟩:=id hb
 refine hN ?_; clear hN
 simp only at hc hd hdt hc2 hdt2
 subst hc hd hdt hc2 hdt2
 have hz' : us.toArray.size + ws.toArray.size ≤ sizeLine:=by simpa using hz
 refine call_meets PySem.F.slot_list_extend ⟨_,ho,rfl⟩ PySem.F.entry_list_extend (PySem.F.args_list_extend_2 _ _) (list_extendW a us.toArray n b ws.toArray n2 none d2 sl sl2 (extend_door hz') (by lia) (by lia)) ⟨ho,ho2,?_⟩
 have:=own_upd hl (fun x =>x ++ ws.toArray)
 exact q _ (by simpa using this) fun b o hb e =>(Heap.SameBut.update ..).extBut b o hb e
theorem reverse_own {a : Addr} {us : List Value} (hl : IsOwn s.heap a us.toArray) (hz : us.length ≤ sizeLine) (q : ∀ h',IsOwn h' a us.reverse.toArray → (∀ b o,b ≠ a → s.heap.get? b = some o → h'.get? b = some o) → Q .none { s with heap:=h' }) :
  wpAny (model prog w) A (call (.builtin "list.reverse") [.ref a]) Q E s:=by
 refine bc fun hN =>?_
 obtain ⟨⟨c,d,dt,sl⟩,ho,hc,hd,n,hdt⟩:=id hl
 refine hN ?_; clear hN
 simp only at hc hd hdt
 subst hc hd hdt
 refine call_meets PySem.F.slot_list_reverse ⟨_,ho,rfl⟩ PySem.F.entry_list_reverse (PySem.F.args_list_reverse_1 _) (list_reverseW a us.toArray n none sl (by simpa using hz)) ⟨ho,?_⟩
 have:=own_upd hl (fun x =>x.reverse)
 exact q _ (by simpa using this) fun b o hb e =>(Heap.SameBut.update ..).extBut b o hb e
end
inductive FlR (X : Gx) (B : Heap) (Hc : List Addr) (sc : Scope) (env : Env) (Mu : List Addr) (s : Shared) (v : V) (g' : Gam) (f : Flow) (s' : Shared) : Prop
 | mk (u : Value) (Mu' : List Addr) (e : f = .ret u) (r : Rep (hideAll s'.heap Hc) v u) (S : St X sc env Hc Mu' g' s') (m : Mv Mu s s') (b : Sub B s'.heap) : FlR X B Hc sc env Mu s v g' f s'
noncomputable def FlP (X : Gx) (B : Heap) (Hc : List Addr) (sc : Scope) (env : Env) (Mu : List Addr) (s : Shared) : Fl → Flow → Shared → Prop
 | .next g',f,s' =>f = .next ∧ Nx X B Hc sc env Mu g' s s'
 | .brk g',f,s' =>f = .brk ∧ Nx X B Hc sc env Mu g' s s'
 | .ret v g',f,s' =>FlR X B Hc sc env Mu s v g' f s'
theorem FlP.trans {X : Gx} {B : Heap} {Hc : List Addr} {sc : Scope} {env : Env} {Mu Mu' : List Addr} {s s' s'' : Shared} {fl : Fl} {f : Flow} (m : Mv Mu s s') (hm : ∀ a ∈ Mu',a ∈ Mu ∨ s.heap.get? a = none) (h : FlP X B Hc sc env Mu' s' fl f s'') : FlP X B Hc sc env Mu s fl f s'':=by
 cases fl with
 | next g =>exact ⟨h.1,h.2.trans m hm⟩
 | brk g =>exact ⟨h.1,h.2.trans m hm⟩
 | ret v g =>
  refine bc fun hN =>?_
  obtain ⟨u,Mu2,h1,h2,h3,h4,h5⟩:=h
  refine hN ?_; clear hN
  exact ⟨u,Mu2,h1,h2,h3,m.trans h4 hm,h5⟩
noncomputable def CSpec (X : Gx) (N : Nat) (Ca : Addr) (vs : List V) (fl : List (Str × V)) : Prop :=
 ∀ (A : Around) (s : Shared) (H : List Addr) (us : List Value) (Q E : Value → Shared → Prop),Room A N → Sub X.B0 s.heap → HOk H s.heap → Reps (hideAll s.heap H) vs us →
  (∀ ix dx es n s',Kp s s' → s.heap.get? ix = none → s.heap.get? dx = none → ix ≠ dx → s'.heap.get? ix = some (instObj Ca dx) → s'.heap.get? dx = some (dictOf es n) → Flds (hideAll s'.heap H) fl es → Q (.ref ix) s') →
  wpAny (model X.prog X.w) A (call (.ref Ca) us []) Q E s
noncomputable def MSpec (X : Gx) (N : Nat) (Ca f : Addr) (fl : List (Str × V)) (vs : List V) (r : V) (fl' : List (Str × V)) : Prop :=
 ∀ (A : Around) (s : Shared) (H : List Addr) (ix dx : Addr) (es : List DictEntry) (n : Nat) (us : List Value) (Q E : Value → Shared → Prop),Room A N → Sub X.B0 s.heap → HOk H s.heap → s.heap.get? ix = some (instObj Ca dx) → s.heap.get? dx = some (dictOf es n) → dx ∉ H → X.B0.get? dx = none →
  Flds (hideAll s.heap H) fl es → Reps (hideAll s.heap H) vs us →
  (∀ u h' t es' n',(∀ b o,b ≠ dx → s.heap.get? b = some o → h'.get? b = some o) → h'.get? dx = some (dictOf es' n') → Flds (hideAll h' H) fl' es' → Rep (hideAll h' H) r u → Q u { s with heap:=h',toks:=t }) →
  wpAny (model X.prog X.w) A (call (.ref f) (.ref ix :: us)) Q E s
structure SetAt (X : Gx) (C : Addr) (f : Str) : Prop where
 set : findIn X.K (.ref C) "__setattr__" = some (some (.builtin "object.__setattr__"))
 over : plainOver X.K C = true
 take : takerIn X.K C f = some none
 has : hasDictIn X.K C = true
structure GOk2 (X : Gx) (G : Ge) (N : Nat) : Prop extends GOk X G N where
 cls : ∀ C vs fl,G.cls C vs = some fl → ∃ Ca,X.clsA C = some Ca ∧ X.mg C = some (.ref Ca) ∧ keepIn X.K (.ref Ca) = true ∧ CSpec X N Ca vs fl
 mth : ∀ C m fl vs r fl' Ca,G.mth C m fl vs = some (r,fl') → X.clsA C = some Ca → ∃ f,MethAt X Ca m f ∧ MSpec X N Ca f fl vs r fl'
 sets : ∀ C f Ca,f ∈ G.flds C → X.clsA C = some Ca → SetAt X Ca f
section
variable {X : Gx} {G : Ge} {N n : Nat} {B : Heap} {Hc H Mu : List Addr} {sc : Scope} {env : Env} {g : Gam} {s : Shared} {A : Around} {E : Value → Shared → Prop}
theorem interactive_no (S : St X sc env H Mu g s) : interactive env = false:=by
 unfold interactive
 rw [S.kind]; rfl
theorem all_plain {p : Pos} {es : List Expr} {vs : List V} (e : mapO (ev n G sc g) es = some vs) (hsz : es.length < 20) :
  ((backTo p (starEach es env)).all (fun x =>!x.1) && (backToKw p (keywordEach [] env)).all (fun x =>x.1.isSome) && decide (es.length + ([] : List Keyword).length + (if ([] : List Keyword).isEmpty then 0 else 1) < 30)) = true:=by
 have hpl:=backTo_any (p:=p) (env:=env) e
 have hall : (backTo p (starEach es env)).all (fun x =>!x.1) = true:=by
  rw [List.all_eq_true]
  intro y hy
  rw [List.any_eq_false] at hpl
  simpa using hpl y hy
 have : es.length < 30:=by lia
 rw [hall,arm_keywordEach_nil]; simp [backToKw,this]
theorem ownMeth_ok (I : EvOK X G N n) (hA : Room A (N + n)) {x m : Str} {bid : String} {px pa p pos : Pos} {es : List Expr} {vs xs xs' : List V} (S : St X sc env H Mu g s) (F : Fm X B Hc H Mu env s) (hx : isLoc sc x = true) (hl : g.lookup x = some (.own xs)) (hline : lineOk pa p = true) (hsz : es.length < 20)
  (e : mapO (ev n G sc g) es = some vs) (slot : Slot "list" m bid) (ty : typeOf (.builtin bid) = pure (.type "method_descriptor"))
  (hq : ∀ (s' : Shared) (a : Addr) (us ws : List Value) (Q : Value → Shared → Prop),IsOwn s'.heap a us.toArray → Reps (hideAll s'.heap H) xs us → Reps (hideAll s'.heap H) vs ws →
   (∀ h' us',IsOwn h' a us'.toArray → Reps (hideAll s'.heap H) xs' us' → (∀ b o,b ≠ a → s'.heap.get? b = some o → h'.get? b = some o) → Q .none { s' with heap:=h' }) → wpAny (model X.prog X.w) A (call (.builtin bid) (.ref a :: ws)) Q E s') :
  wpAny (model X.prog X.w) A (exec (.Expr (.Call (.Attribute (.Name x px) m pa) es [] p) pos) env) (fun f s' =>FlP X B Hc sc env Mu s (.next (setL x (.own xs') g)) f s') E s:=by
 refine bc fun hN =>?_
 obtain ⟨m0,ad,hn,hd,inj,hself⟩:=id S.held
 obtain ⟨us,e1,e2,e3,e4,e5,e6⟩:=hd x _ hx hl
 refine hN ?_; clear hN
 refine wpAny_Expr_any (wpAny_Call_method_late noCall_base (all_plain e hsz) hline rfl (load_at S.kind (isLoc_dbg hx) hn (.inl ⟨e1,e2⟩) ⟨"list",bid,PySem.F.plainAttrs_list,slot,ty,e3.isList.typeIs,(fun b hb =>?_),?_⟩)) (interactive_no S) rfl
 ·cases hb; obtain ⟨o,ho,_,hdd,_⟩:=e3; exact ⟨o,ho,hdd⟩
 ·refine callWith_builtin (backTo_any e) (evalArgs_ok I hA S e fun ws s' k r =>?_)
  have e3' : IsOwn s'.heap (ad x) us.toArray:=let ⟨o,ho,rest⟩:=e3; ⟨o,k.keep _ _ ho,rest⟩
  have Sk:=S.kp k
  have Fk:=F.kp k
  refine hq s' (ad x) us ws _ e3' (e6.kp k) r fun h' us' hl' hr' kb =>⟨rfl,Nx.kp k ?_⟩
  exact Nw.nx (upd_own (t:=s'.toks) Sk Fk hx hl (hn.keeps k.keep) (fun y av hy hyl =>(hd y av hy hyl).keep k.keep) inj hself hl' kb hr')
theorem put_flds {h : Heap} {f : Str} {v : V} {u : Value} {hsh : Int} {t : Tok} (r : Rep h v u) : ∀ {fl : List (Str × V)} {es : List DictEntry},Flds h fl es → Flds h (setL f v fl) (putL f hsh (.str f t) u es) ∧ (putL f hsh (.str f t) u es).length ≤ es.length + 1 ∧ (setL f v fl).length = (putL f hsh (.str f t) u es).length
 | [],es,e =>by
  unfold Flds at e; subst e
  refine ⟨?_,by simp [putL],by simp [putL,setL]⟩
  simp only [setL,putL]
  unfold Flds
  exact ⟨hsh,t,u,[],rfl,r,by unfold Flds; rfl⟩
 | (y,w) :: fl,es,e =>by
  unfold Flds at e
  obtain ⟨hs',t',u',r',rfl,h1,h2⟩:=e
  obtain ⟨p1,p2,p3⟩:=put_flds (hsh:=hsh) (t:=t) r h2
  simp only [setL,putL,isStr_str]
  cases hy : y == f with
  | true =>
   simp only [if_true]
   have : Flds h fl r':=h2
   have hlen : fl.length = r'.length:=by
    clear p1 p2 p3 h1 hy
    induction fl generalizing r' with
    | nil =>unfold Flds at h2; subst h2; rfl
    | cons a b ih =>
     refine bc fun hN =>?_
     obtain ⟨a1,a2⟩:=a
     refine hN ?_; clear hN
     unfold Flds at h2
     refine bc fun hN =>?_
     obtain ⟨_,_,_,r2,rfl,_,h3⟩:=h2
     refine hN ?_; clear hN
     simp [ih r2 h3 h3]
   refine ⟨?_,by simp,by simp [hlen]⟩
   unfold Flds
   exact ⟨hs',t',u,r',rfl,r,h2⟩
  | false =>
   simp only [Bool.false_eq_true,if_false]
   refine ⟨?_,by simp; omega,by simp [p3]⟩
   unfold Flds
   exact ⟨hs',t',u',_,rfl,h1,p1⟩
theorem flds_len {h : Heap} : ∀ {fl : List (Str × V)} {es : List DictEntry},Flds h fl es → es.length = fl.length
 | [],es,e =>by unfold Flds at e; subst e; rfl
 | (y,w) :: fl,es,e =>by
  unfold Flds at e
  obtain ⟨hs',t',u',r',rfl,h1,h2⟩:=e
  simp [flds_len h2]
noncomputable def noHeap : Heap:={ objs:=#[] }
theorem set_ok (hG : GOk2 X G N) {Q : Unit → Shared → Prop} {x C f : Str} {px pa : Pos} {fl : List (Str × V)} {v : V} {u : Value} (S : St X sc env H Mu g s) (F : Fm X B Hc H Mu env s) (hx : isLoc sc x = true) (hl : g.lookup x = some (.inst C fl)) (hf : f ∈ G.flds C) (hz : fl.length < 900) (r : Rep (hideAll s.heap H) v u)
  (q : ∀ s',Nw X B Hc sc env H Mu (setL x (.inst C (setL f v fl)) g) s s' → Q () s') : wpAny (model X.prog X.w) A (assign (.Attribute (.Name x px) f pa) env u) Q E s:=by
 refine bc fun hN =>?_
 obtain ⟨m,ad,hn,hd,inj,hself⟩:=id S.held
 obtain ⟨ix,Ca,es,k,a,e2,e3,e4,e5,e6,e7,e8,rf⟩:=hd x _ hx hl
 refine hN ?_; clear hN
 have T:=hG.sets C f Ca hf e2
 rw [assign_Attribute]
 refine wpAny_bind (wpAny_holding (load_at S.kind (isLoc_dbg hx) hn a (wpAny_bind (wpAny_standAt (wpAny_bind (wpAny_holding ?_))))))
 have none0 : ∀ b,noHeap.get? b = none:=fun b =>by
  cases e : noHeap.get? b with
  | none =>rfl
  | some o =>exact absurd (Heap.lt_size e) (Nat.not_lt_zero _)
 have FR : Fr noHeap env.locals s.heap m:=⟨hn,fun b o e =>(by rw [none0] at e; exact nS e),Nat.zero_le _⟩
 let post : List (Addr × Obj):=(List.range s.heap.objs.size).filterMap fun b =>if b = env.locals ∨ b = ad x then none else (s.heap.get? b).map fun o =>(b,o)
 have hpost : ∀ b o,(b,o) ∈ post ↔ b ≠ env.locals ∧ b ≠ ad x ∧ s.heap.get? b = some o:=fun b o =>by
  simp only [post,List.mem_filterMap,List.mem_range]
  constructor
  ·rintro ⟨c,_,hc⟩
   split at hc
   ·exact nS hc
   ·rename_i hne
    refine bc fun hN =>?_
    refine map_el hc fun o' ho' e =>?_
    refine hN ?_; clear hN
    cases e
    exact ⟨fun h =>hne (.inl h),fun h =>hne (.inr h),ho'⟩
  ·rintro ⟨h1,h2,h3⟩
   exact ⟨b,Heap.lt_size h3,by rw [if_neg (by simp [h1,h2]),h3]; rfl⟩
 have N0 : News noHeap env.locals s.heap ([] ++ (ad x,dictOf es k) :: post):=fun p hp =>by
  rcases List.mem_cons.mp hp with rfl | hp
  ·exact ⟨e4,e8,none0 _⟩
  ·refine bc fun hN =>?_
   obtain ⟨b,o⟩:=p
   obtain ⟨h1,h2,h3⟩:=(hpost b o).mp hp
   refine hN ?_; clear hN
   exact ⟨h3,h1,none0 _⟩
 have I0:=inst_at e3 e4
 have P:=put_flds (f:=f) (hsh:=PyData.keyHash X.w.params f) (t:=s.toks + 1) r rf
 refine set_plain (kin_of_base S.base) I0 T.set (osa_dict (pre:=[]) (post:=post) (s:={ s with toks:=s.toks + 1 }) FR N0 (kin_of_base S.base) I0 rfl T.over T.take T.has (by rw [lookIn_dict]; cases hlk : fl.lookup f with
   | none =>rw [flds_none rf hlk]; rfl
   | some w =>obtain ⟨u',g1,_⟩:=flds_get rf hlk; rw [g1]; rfl) (fun p hp =>by cases hp) (fun p hp =>((hpost p.1 p.2).mp hp).2.1) (putName_dict ..) rfl ?_ fun h' F' N' =>?_)
 ·have h1:=flds_len rf
  have h2:=P.2.1
  have h3 : es.length + 1 ≤ 1000:=by lia
  exact Nat.le_trans h2 h3
 ·refine wpAny_release' (q _ ?_)
  have hd':=(N' (ad x,_) (.head _)).1
  have kb : ∀ b o,b ≠ ad x → b ≠ env.locals → s.heap.get? b = some o → h'.get? b = some o:=fun b o h1 h2 e =>(N' (b,o) (List.mem_cons_of_mem _ ((hpost b o).mpr ⟨h2,h1,e⟩))).1
  refine upd_inst (t:=s.toks + 1 + 1) S F hx hl hn hd inj hself hd' kb F'.ns (P.1.mono fun b o e hq =>?_)
  refine hideAll_get H (kb b o (fun hb =>?_) (fun hb =>?_) (of_hideAll H e)) (hide_off e)
  ·refine bc fun hN =>?_
   obtain ⟨_,_,hq⟩:=hq
   refine hN ?_; clear hN
   have:=of_hideAll H e
   simp only [hb,e4] at this; obtain rfl:=Option.some.inj this; cases hq
  ·exact notSeq_ns hn (hb ▸ of_hideAll H e) hq
end
noncomputable def Gx.p (X : Gx) (P : List Addr) : Gx:={ X with pn:=P }
theorem GOk2.p {X : Gx} {G : Ge} {N : Nat} (h : GOk2 X G N) (P : List Addr) : GOk2 (X.p P) G N :=
 { cst:=h.cst,fn:=h.fn,pm:=fun C m vs r Ca h1 h2 =>let ⟨f,M,F⟩:=h.pm C m vs r Ca h1 h2; ⟨f,⟨M.get,M.find,M.fn,M.keep⟩,F⟩,flds:=fun C f Ca h1 h2 =>let F:=h.flds C f Ca h1 h2; ⟨F.get,F.has,F.find⟩,cls:=h.cls,mth:=fun C m fl vs r fl' Ca h1 h2 =>let ⟨f,M,F⟩:=h.mth C m fl vs r fl' Ca h1 h2; ⟨f,⟨M.get,M.find,M.fn,M.keep⟩,F⟩,sets:=fun C f Ca h1 h2 =>let F:=h.sets C f Ca h1 h2; ⟨F.set,F.over,F.take,F.has⟩ }
section
variable {X : Gx} {B : Heap} {Hc H H' Mu Mu' : List Addr} {sc : Scope} {env : Env} {g : Gam} {s s' s'' : Shared} {P P' : List Addr}
theorem Held.p {h : Heap} {m : Str → Option Value} {a : Addr} {x : Str} (P' : List Addr) : ∀ {av : AV},Held (X.p P) env H Mu h m a x av → Held (X.p P') env H Mu h m a x av
 | .val _,h =>h
 | .own _,h =>h
 | .inst _ _,h =>h
theorem Fm.p (F : Fm (X.p P) B Hc H Mu env s) (P' : List Addr) : Fm (X.p P') B Hc H Mu env s:=⟨F.b0,F.keep,F.mu,F.live,F.hmu,F.hc,F.hcb,F.ns,F.loc,F.cell,F.cinj⟩
theorem St.weak (S : St (X.p P) sc env H Mu g s) (h : ∀ a ∈ P',a ∈ P) : St (X.p P') sc env H Mu g s:=by
 refine bc fun hN =>?_
 obtain ⟨m,ad,hn,hd,inj,hs⟩:=S.held
 refine hN ?_; clear hN
 exact ⟨S.base,S.kind,S.glob,S.blt,S.kinds,S.ho,m,ad,hn,fun x av hx hl =>(hd x av hx hl).p P',inj,hs.1,fun y hy hc hm =>hs.2 y hy hc (h _ hm)⟩
structure Ext (s : Shared) (H Mu : List Addr) (s' : Shared) (H' Mu' : List Addr) : Prop where
 kp : Kp s s'
 sk : SeqKeep (hideAll s.heap H) (hideAll s'.heap H')
 hH : ∀ a ∈ H,a ∈ H'
 hH' : ∀ a ∈ H',a ∈ H ∨ s.heap.get? a = none
 hM : ∀ a ∈ Mu,a ∈ Mu'
 hM' : ∀ a ∈ Mu',a ∈ Mu ∨ s.heap.get? a = none
theorem Ext.of_kp (k : Kp s s') : Ext s H Mu s' H Mu:=⟨k,.of (hide_keep k.keep),fun _ h =>h,fun _ h =>.inl h,fun _ h =>h,fun _ h =>.inl h⟩
theorem Ext.trans {H'' Mu'' : List Addr} (a : Ext s H Mu s' H' Mu') (b : Ext s' H' Mu' s'' H'' Mu'') : Ext s H Mu s'' H'' Mu'' where
 kp:=a.kp.trans b.kp
 sk:=a.sk.trans b.sk
 hH x h:=b.hH x (a.hH x h)
 hH' x h:=by
  rcases b.hH' x h with h | h
  ·exact a.hH' x h
  ·exact .inr (get_none_of_kp a.kp h)
 hM x h:=b.hM x (a.hM x h)
 hM' x h:=by
  rcases b.hM' x h with h | h
  ·exact a.hM' x h
  ·exact .inr (get_none_of_kp a.kp h)
inductive POwn (env : Env) (H Mu : List Addr) (h : Heap) (a : Addr) (xs : List V) (u : Value) : Prop
 | mk (us : List Value) (e1 : u = .ref a) (e2 : IsOwn h a us.toArray) (e3 : a ∈ H) (e4 : a ∈ Mu) (e5 : a ≠ env.locals) (r : ∀ h,Reps h xs us) : POwn env H Mu h a xs u
inductive PCons (R : Value → Prop) (T : List Value → Prop) (us : List Value) : Prop
 | mk (u : Value) (r : List Value) (e : us = u :: r) (h : R u) (t : T r) : PCons R T us
inductive PConsC (R : Addr → Value → Prop) (T : List Value → List Addr → Prop) (us : List Value) (P : List Addr) : Prop
 | mk (u : Value) (r : List Value) (a : Addr) (P' : List Addr) (e : us = u :: r) (f : P = a :: P') (h : R a u) (t : T r P') : PConsC R T us P
noncomputable def PendC (X : Gx) (env : Env) (H Mu : List Addr) (s : Shared) (a : Addr) : AV → Value → Prop
 | .val _,_ =>False
 | .own xs,u =>POwn env H Mu s.heap a xs u
 | .inst C fl,u =>HInst (X.clsA C) env H Mu s.heap (u = ·) a fl
noncomputable def Pends (X : Gx) (env : Env) (H Mu : List Addr) (s : Shared) : List AV → List Value → List Addr → Prop
 | [],us,P =>us = [] ∧ P = []
 | .val v :: as,us,P =>PCons (Rep (hideAll s.heap H) v) (fun r =>Pends X env H Mu s as r P) us
 | av :: as,us,P =>PConsC (fun a u =>PendC X env H Mu s a av u) (Pends X env H Mu s as) us P
theorem PendC.ext {a : Addr} {u : Value} (e : Ext s H Mu s' H' Mu') : ∀ {av : AV},PendC X env H Mu s a av u → PendC X env H' Mu' s' a av u
 | .val _,h =>h.elim
 | .own _,⟨us,e1,⟨o,ho,e2⟩,e3,e4,e5,e6⟩ =>⟨us,e1,⟨o,e.kp.keep _ _ ho,e2⟩,e.hH _ e3,e.hM _ e4,e5,e6⟩
 | .inst _ _,⟨ix,Ca,es,n,e1,e2,e3,e4,e5,e6,e7,e8,e9⟩ =>⟨ix,Ca,es,n,e1,e2,e.kp.keep _ _ e3,e.kp.keep _ _ e4,e.hM _ e5,fun hm =>(by
   rcases e.hH' _ hm with h | h
   ·exact e6 h
   ·rw [e4] at h; cases h),fun hm =>(by
   rcases e.hM' _ hm with h | h
   ·exact e7 h
   ·rw [e3] at h; cases h),e8,e9.mono e.sk⟩
theorem Pends.ext (e : Ext s H Mu s' H' Mu') : ∀ {as : List AV} {us : List Value} {P : List Addr},Pends X env H Mu s as us P → Pends X env H' Mu' s' as us P
 | [],_,_,h =>h
 | .val _ :: _,_,_,⟨u,r,e1,e2,e3⟩ =>⟨u,r,e1,e2.mono e.sk,Pends.ext e e3⟩
 | .own _ :: _,_,_,⟨u,r,a,P',e1,e2,e3,e4⟩ =>⟨u,r,a,P',e1,e2,e3.ext e,Pends.ext e e4⟩
 | .inst _ _ :: _,_,_,⟨u,r,a,P',e1,e2,e3,e4⟩ =>⟨u,r,a,P',e1,e2,e3.ext e,Pends.ext e e4⟩
theorem Pends.append : ∀ {as bs : List AV} {us ws : List Value} {P R : List Addr},Pends X env H Mu s as us P → Pends X env H Mu s bs ws R → Pends X env H Mu s (as ++ bs) (us ++ ws) (P ++ R)
 | [],_,_,_,_,_,⟨rfl,rfl⟩,b =>b
 | .val _ :: _,_,_,_,_,_,⟨u,r,e1,e2,e3⟩,b =>⟨u,r ++ _,by rw [e1]; rfl,e2,Pends.append e3 b⟩
 | .own _ :: _,_,_,_,_,_,⟨u,r,a,P',e1,e2,e3,e4⟩,b =>⟨u,r ++ _,a,P' ++ _,by rw [e1]; rfl,by rw [e2]; rfl,e3,Pends.append e4 b⟩
 | .inst _ _ :: _,_,_,_,_,_,⟨u,r,a,P',e1,e2,e3,e4⟩,b =>⟨u,r ++ _,a,P' ++ _,by rw [e1]; rfl,by rw [e2]; rfl,e3,Pends.append e4 b⟩
theorem Pends.reverse : ∀ {as : List AV} {us : List Value} {P : List Addr},Pends X env H Mu s as us P → Pends X env H Mu s as.reverse us.reverse P.reverse
 | [],_,_,⟨rfl,rfl⟩ =>⟨rfl,rfl⟩
 | .val _ :: _,_,_,⟨u,r,e1,e2,e3⟩ =>by
  subst e1
  simp only [List.reverse_cons,List.reverse_cons]
  have:=(Pends.reverse e3).append (bs:=[.val _]) (ws:=[u]) (R:=[]) ⟨u,[],rfl,e2,rfl,rfl⟩
  simpa using this
 | .own _ :: _,_,_,⟨u,r,a,P',e1,e2,e3,e4⟩ =>by
  subst e1 e2
  simp only [List.reverse_cons,List.reverse_cons,List.reverse_cons]
  exact (Pends.reverse e4).append (bs:=[.own _]) (ws:=[u]) (R:=[a]) ⟨u,[],a,[],rfl,rfl,e3,rfl,rfl⟩
 | .inst _ _ :: _,_,_,⟨u,r,a,P',e1,e2,e3,e4⟩ =>by
  subst e1 e2
  simp only [List.reverse_cons,List.reverse_cons,List.reverse_cons]
  exact (Pends.reverse e4).append (bs:=[.inst _ _]) (ws:=[u]) (R:=[a]) ⟨u,[],a,[],rfl,rfl,e3,rfl,rfl⟩
theorem Pends.length : ∀ {as : List AV} {us : List Value} {P : List Addr},Pends X env H Mu s as us P → us.length = as.length
 | [],_,_,⟨rfl,rfl⟩ =>rfl
 | .val _ :: _,_,_,⟨u,r,e1,e2,e3⟩ =>by subst e1; simp [Pends.length e3]
 | .own _ :: _,_,_,⟨u,r,a,P',e1,e2,e3,e4⟩ =>by subst e1; simp [Pends.length e4]
 | .inst _ _ :: _,_,_,⟨u,r,a,P',e1,e2,e3,e4⟩ =>by subst e1; simp [Pends.length e4]
theorem enlargeX {a : Addr} {own : Bool} (S : St (X.p P) sc env H Mu g s) (F : Fm (X.p P) B Hc H Mu env s) (k : Kp s s') (ha : s.heap.get? a = none) (hl : ∃ o,s'.heap.get? a = some o ∧ (own = false → ¬ IsSeq o)) :
  St (X.p (P ++ [a])) sc env (hidden own a H) (a :: Mu) g s' ∧ Fm (X.p (P ++ [a])) B Hc (hidden own a H) (a :: Mu) env s' ∧ Ext s H Mu s' (hidden own a H) (a :: Mu):=by
 refine bc fun hN =>?_
 obtain ⟨S',F',kr,m,ad,hn,hd,inj,hs,hne⟩:=enlarge (own:=own) S F k ha hl
 refine hN ?_; clear hN
 refine ⟨⟨S'.base,S'.kind,S'.glob,S'.blt,S'.kinds,S'.ho,m,ad,hn,fun x av hx hl =>(hd x av hx hl).p _,inj,hs.1,fun y hy hc hm =>?_⟩,F'.p _,k,kr,hidden_sub,fun b hb =>?_,fun b hb =>.tail _ hb,fun b hb =>?_⟩
 ·rcases List.mem_append.mp hm with h | h
  ·exact hs.2 y hy hc h
  ·exact hne y hy hc (List.mem_singleton.mp h)
 ·rcases hidden_cases b hb with h | h
  ·exact .inl h
  ·exact .inr (h ▸ ha)
 ·rcases List.mem_cons.mp hb with h | h
  ·exact .inr (h ▸ ha)
  ·exact .inl h
end
section
variable {X : Gx} {G : Ge} {N n : Nat} {B : Heap} {Hc H Mu : List Addr} {sc : Scope} {env : Env} {g : Gam} {s : Shared} {P : List Addr} {A : Around} {E : Value → Shared → Prop}
noncomputable def RPost (X : Gx) (B : Heap) (Hc H Mu : List Addr) (sc : Scope) (env : Env) (g : Gam) (s : Shared) (P : List Addr) (av : AV) (Q : Value → Shared → Prop) : Prop :=
 ∀ u s' H' Mu' W,St (X.p (P ++ W)) sc env H' Mu' g s' → Fm (X.p (P ++ W)) B Hc H' Mu' env s' → Ext s H Mu s' H' Mu' → (∀ a ∈ W,s.heap.get? a = none) → W.Nodup → Pends X env H' Mu' s' [av] [u] W → Q u s'
theorem RPost.val {v : V} {Q : Value → Shared → Prop} (S : St (X.p P) sc env H Mu g s) (F : Fm (X.p P) B Hc H Mu env s) (q : RPost X B Hc H Mu sc env g s P (.val v) Q) : Post H s v Q:=fun u s' k r =>
 q u s' H Mu [] (by rw [List.append_nil]; exact S.kp k) (by rw [List.append_nil]; exact F.kp k) (Ext.of_kp k) (fun a h =>by cases h) List.nodup_nil ⟨u,[],rfl,r,rfl,rfl⟩
theorem own_new {us : List Value} {xs : List V} {s' : Shared} {a : Addr} {Q : Value → Shared → Prop} (S : St (X.p P) sc env H Mu g s) (F : Fm (X.p P) B Hc H Mu env s) (k : Kp s s') (ha : s.heap.get? a = none) (hl : IsOwn s'.heap a us.toArray) (r : ∀ h,Reps h xs us)
  (q : RPost X B Hc H Mu sc env g s P (.own xs) Q) : Q (.ref a) s':=by
 refine bc fun hN =>?_
 obtain ⟨o,ho,_⟩:=id hl
 obtain ⟨S',F',e⟩:=enlargeX (own:=true) S F k ha ⟨o,ho,fun h =>by cases h⟩
 obtain ⟨oL,eL⟩:=F.live _ F.loc.1
 refine hN ?_; clear hN
 exact q _ _ _ _ [a] S' F' e (fun b hb =>by rw [List.mem_singleton.mp hb]; exact ha) (by simp) ⟨_,[],a,[],rfl,rfl,⟨us,rfl,hl,by unfold hidden; rw [if_pos rfl]; exact .head _,.head _,fun h =>(by rw [h,eL] at ha; cases ha),r⟩,rfl,rfl⟩
theorem inst_new {C : Str} {fl : List (Str × V)} {ix dx Ca : Addr} {es : List DictEntry} {n : Nat} {s' : Shared} {Q : Value → Shared → Prop} (S : St (X.p P) sc env H Mu g s) (F : Fm (X.p P) B Hc H Mu env s) (k : Kp s s') (hi : s.heap.get? ix = none) (ha : s.heap.get? dx = none) (hne0 : ix ≠ dx)
  (hC : X.clsA C = some Ca) (h3 : s'.heap.get? ix = some (instObj Ca dx)) (h4 : s'.heap.get? dx = some (dictOf es n)) (r : Flds (hideAll s'.heap H) fl es) (q : RPost X B Hc H Mu sc env g s P (.inst C fl) Q) : Q (.ref ix) s':=by
 refine bc fun hN =>?_
 obtain ⟨S',F',e⟩:=enlargeX (a:=dx) (own:=false) S F k ha ⟨_,h4,fun _ ⟨_,_,hq⟩ =>by cases hq⟩
 obtain ⟨oL,eL⟩:=F.live _ F.loc.1
 refine hN ?_; clear hN
 refine q _ _ _ _ [dx] S' F' e (fun b hb =>by rw [List.mem_singleton.mp hb]; exact ha) (by simp) ⟨_,[],dx,[],rfl,rfl,⟨ix,Ca,es,n,rfl,hC,h3,h4,.head _,fun hm =>?_,fun hm =>?_,fun h =>(by simp only [h,eL] at ha; cases ha),r⟩,rfl,rfl⟩
 ·obtain ⟨o,e⟩:=S.ho dx hm
  rw [ha] at e; exact nS e
 ·rcases List.mem_cons.mp hm with h | h
  ·exact hne0 h
  ·obtain ⟨o,e⟩:=F.live ix h
   rw [hi] at e; exact nS e
theorem bytes_items {b : Array UInt8} {acc : Array Value} (I : ItemsOf (fun i v =>∃ c u,b[i]? = some c ∧ v = .int (c.toNat : Int) u) acc b.size) : ∀ h,Reps h ((KBw.bInts b).map .int) acc.toList:=fun _ =>reps_bytes_items I
theorem evR_ok (hG : GOk2 X G N) {o : Bool} {e : Expr} {av : AV} {Q : Value → Shared → Prop} (S : St (X.p P) sc env H Mu g s) (F : Fm (X.p P) B Hc H Mu env s) (hA : Room A (N + n)) (h : evR n G sc g o e = some av) (q : RPost X B Hc H Mu sc env g s P av Q) :
  wpAny (model X.prog X.w) A (eval e env) Q E s:=by
 have I : EvOK (X.p P) G N n:=(sound (hG.p P).toGOk n).e
 have plain : ∀ {e : Expr},(ev n G sc g e).map AV.val = some av → wpAny (model X.prog X.w) A (eval e env) Q E s:=fun {e} h =>by
  refine bc fun hN =>?_
  refine map_el h fun v hv hEqq2 =>?_
  subst hEqq2
  refine hN ?_; clear hN
  exact I _ _ _ _ _ _ _ _ _ _ _ S hA hv (q.val S F)
 unfold evR at h
 split at h
 ·rename_i ho
  obtain rfl:=Option.some.inj h
  refine bc fun hN =>?_
  obtain ⟨p,rfl⟩:=isNilL_true (Bool.and_eq_true_iff.mp ho).2
  refine hN ?_; clear hN
  exact List_ (spliced_nil (wpAny_newObj_type (own_new (us:=[]) S F (Kp.push _) get_size ⟨_,Heap.get?_push_size _ rfl,rfl,rfl,_,rfl⟩ (fun _ =>.nil) q) (Nat.zero_le _)))
 ·cases hc : callOf e with
  | none =>rw [hc] at h; exact plain h
  | some c =>
   refine bc fun hN =>?_
   obtain ⟨C,es⟩:=c
   refine hN ?_; clear hN
   rw [hc] at h
   dsimp only at h
   obtain ⟨pf,p,rfl⟩ : ∃ p q,e = .Call (.Name C p) es [] q:=callOf_some hc
   clear hc
   split at h
   ·refine bc fun hN =>?_
    refine ite_el h fun hc h2 =>?_
    refine bind_el h2 fun e1 he h3 =>?_
    refine bind_el h3 fun w hks h4 =>?_
    refine bind_el h4 fun ks hw h5 =>?_
    refine itep_el h5 fun hz h6 =>?_
    refine hN ?_; clear hN
    obtain rfl:=Option.some.inj h6
    clear h h2 h3 h4 h5
    cases one_some he
    cases bytesOf_some hw
    simp only [Bool.and_eq_true] at hc
    have hC : C = "list":=beq_iff_eq.mp hc.1.1
    subst hC
    refine wpAny_Call_Name_kw (load_blt (X:=X.p P) S hc.1.2 (by decide) ?_)
    have hb : bltVal "list" = .type "list":=by decide
    rw [hb]
    refine callWith_of (P:=fun _ =>True) (by rw [starEach_plain hks]; rfl) (fun h _ =>⟨.machine,.inr (.inl rfl),Looks.of_pure rfl⟩) ?_
    rw [starEach_plain hks]
    refine evalArgs_plain (x:=eval e1 env) (rest:=[]) (spliced_cons (I _ _ _ _ _ _ _ _ _ _ _ S hA hks fun u s1 k r =>spliced_nil ⟨trivial,?_⟩))
    unfold Rep at r; obtain ⟨b,t,rfl,rfl⟩:=r
    have hsz : b.size ≤ sizeLine:=by
     have : (KBw.bInts b).length = b.size:=by simp [KBw.bInts]
     have:=lid_le; lia
    refine call_list_bytes (hn:=hsz) hA.hh b t fun h' tk acc c' hk hS' hacc =>?_
    have k2 : Kp s1 { s1 with heap:=h',toks:=tk }:=Kp.mk' hk
    exact own_new (us:=acc.toList) S F (k.trans k2) (size_fresh k) ⟨_,hS',rfl,rfl,c',by simp⟩ (bytes_items hacc) q
   ·unfold clsK orO at h
    split at h
    ·rename_i a ha
     obtain rfl:=Option.some.inj h
     refine bc fun hN =>?_
     refine bind_el ha fun vs hvs h2 =>?_
     refine map_el h2 fun fl hfl hEqq2 =>?_
     subst hEqq2
     refine ite_el hvs fun hg hvs =>?_
     obtain ⟨Ca,hCa,hm,hkp,CS⟩:=hG.cls C vs fl hfl
     refine hN ?_; clear hN
     refine wpAny_Call_Name_kw (load_glob (X:=X.p P) S hg hm ?_)
     refine callWith_of (P:=fun h =>X.K.In h) (by rw [backTo_any hvs]; rfl) (keeps_K hkp) (evalArgs_ok I hA S hvs fun us s' k r1 =>⟨X.kin.keeps (S.kp k).base,?_⟩)
     refine CS A s' H us Q E (hA.mono (by lia)) (S.kp k).base (S.kp k).ho r1 fun ix dx es k0 s2 k2 hi ha hne h3 h4 rf =>?_
     exact inst_new S F (k.trans k2) (get_none_of_kp k hi) (get_none_of_kp k ha) hne hCa h3 h4 rf q
    ·exact plain h
end
section
variable {X : Gx} {B : Heap} {Hc H Mu : List Addr} {sc : Scope} {env : Env} {g : Gam} {s : Shared} {P : List Addr} {A : Around} {E : Value → Shared → Prop}
theorem PendC.chg {h' : Heap} {t : Nat} {ch a : Addr} {u : Value} (kb : ∀ b o,b ≠ ch → s.heap.get? b = some o → h'.get? b = some o) (hM : ch ∈ Mu) (hk : ch = env.locals ∨ ∃ v,s.heap.IsCell ch v) (hn : ∃ m,s.heap.Ns env.locals m) (kr : SeqKeep (hideAll s.heap H) (hideAll h' H)) :
  ∀ {av : AV},PendC X env H Mu s a av u → PendC X env H Mu { s with heap:=h',toks:=t } a av u
 | .val _,h =>h.elim
 | .own _,⟨us,e1,⟨o,ho,e2⟩,e3,e4,e5,e6⟩ =>⟨us,e1,⟨o,kb _ _ (fun h =>(by
   rcases hk with hk | ⟨v,o2,h2,hd⟩
   ·exact e5 (h.trans hk)
   ·simp only [← h,ho] at h2; obtain rfl:=Option.some.inj h2
    obtain ⟨_,_,_,hd'⟩:=e2
    rw [hd] at hd'; cases hd')) ho,e2⟩,e3,e4,e5,e6⟩
 | .inst _ _,⟨ix,Ca,es,n,e1,e2,e3,e4,e5,e6,e7,e8,e9⟩ =>⟨ix,Ca,es,n,e1,e2,kb _ _ (fun h =>e7 (h ▸ hM)) e3,kb _ _ (fun h =>(by
   rcases hk with hk | ⟨v,o2,h2,hd⟩
   ·exact e8 (h.trans hk)
   ·simp only [← h,e4] at h2; obtain rfl:=Option.some.inj h2
    cases hd)) e4,e5,e6,e7,e8,e9.mono kr⟩
theorem Pends.map {s' : Shared} (f : ∀ {a : Addr} {u : Value} {av : AV},PendC X env H Mu s a av u → PendC X env H Mu s' a av u) (kr : SeqKeep (hideAll s.heap H) (hideAll s'.heap H)) : ∀ {as : List AV} {us : List Value} {P : List Addr},Pends X env H Mu s as us P → Pends X env H Mu s' as us P
 | [],_,_,h =>h
 | .val _ :: _,_,_,⟨u,r,e1,e2,e3⟩ =>⟨u,r,e1,e2.mono kr,Pends.map f kr e3⟩
 | .own _ :: _,_,_,⟨u,r,a,P',e1,e2,e3,e4⟩ =>⟨u,r,a,P',e1,e2,f e3,Pends.map f kr e4⟩
 | .inst _ _ :: _,_,_,⟨u,r,a,P',e1,e2,e3,e4⟩ =>⟨u,r,a,P',e1,e2,f e3,Pends.map f kr e4⟩
theorem store_av {Q : Unit → Shared → Prop} {x : Str} {av : AV} {u : Value} {W : List Addr} (S : St (X.p (W ++ P)) sc env H Mu g s) (F : Fm (X.p (W ++ P)) B Hc H Mu env s) (hx : stoOk sc x av = true) (hnd : (W ++ P).Nodup) (pd : Pends X env H Mu s [av] [u] W)
  (q : ∀ s',Nw (X.p P) B Hc sc env H Mu (setL x av g) s s' → (∀ as us R,Pends X env H Mu s as us R → Pends X env H Mu s' as us R) → Q () s') : wpAny (model X.prog X.w) A (storeName env x u) Q E s:=by
 have hxs : isSto sc x = true ∧ (isVal av = true ∨ sc.names.lookup x = some .local):=by
  unfold stoOk at hx
  simpa only [Bool.and_eq_true,Bool.or_eq_true,beq_iff_eq] using hx
 have SP:=S.weak (P':=P) fun a h =>List.mem_append_right _ h
 have FP:=F.p P
 refine bc fun hN =>?_
 obtain ⟨m,ad,hn,hd,inj,hself⟩:=id S.held
 refine hN ?_; clear hN
 have hself' : Side (X.p P) sc g m ad:=⟨hself.1,fun y hy hc hm =>hself.2 y hy hc (List.mem_append_right _ hm)⟩
 have hd' : ∀ x av,isLoc sc x = true → g.lookup x = some av → Held (X.p P) env H Mu s.heap m (ad x) x av:=fun x av hx hl =>(hd x av hx hl).p P
 have local_ (hk : env.kindOf x = some .local) (a' : Addr) (hv : ∀ h',SeqKeep (hideAll s.heap H) (hideAll h' H) → (∀ b o,b ≠ env.locals → s.heap.get? b = some o → h'.get? b = some o) → Held (X.p P) env H Mu h' (fun y =>if y = x then some u else m y) a' x av)
   (hi : isCore (some av) → a' ∉ P ∧ ∀ y,isLoc sc y = true → isCore (g.lookup y) → ad y ≠ a') : wpAny (model X.prog X.w) A (storeName env x u) Q E s:=by
  refine wpAny_storeName_local hk hn (fun h' hn' hs =>q _ (store_local (a':=a') SP FP hxs.1 hn hd' inj hself' hn' hs (fun kr kb =>hv h' kr kb) hi) fun as us R hp =>?_) (by rw [S.kind]; rfl)
  have kb : ∀ b o,b ≠ env.locals → s.heap.get? b = some o → h'.get? b = some o:=fun b o hb e =>hs.extBut b o hb e
  have kr : SeqKeep (hideAll s.heap H) (hideAll h' H):=seqKeep_but kb (.inr fun o e =>notSeq_ns hn e)
  exact hp.map (PendC.chg kb F.loc.1 (.inl rfl) ⟨m,hn⟩ kr) kr
 cases av with
 | val v =>
  refine bc fun hN =>?_
  obtain ⟨u',r,e1,e2,e3⟩:=pd
  refine hN ?_; clear hN
  cases e1
  rcases sto_cases S hxs.1 with h | ⟨h,c,hc⟩
  ·exact local_ h 0 (fun h' kr _ =>⟨u,.inl ⟨h,by simp⟩,e2.mono kr⟩) fun h =>h.elim
  ·refine bc fun hN =>?_
   obtain ⟨hcM,v0,hv0⟩:=F.cell x c hc
   refine hN ?_; clear hN
   refine wpAny_storeName_cell S.kind h hc hv0 fun h' hn' hs =>q _ (store_cell SP FP hxs.1 h hc hn' hs e2) fun as us R hp =>?_
   have kb : ∀ b o,b ≠ c → s.heap.get? b = some o → h'.get? b = some o:=fun b o hb e =>hs.extBut b o hb e
   have kr : SeqKeep (hideAll s.heap H) (hideAll h' H):=seqKeep_but kb (.inr fun o e ⟨_,_,hq⟩ =>by
    refine bc fun hN =>?_
    obtain ⟨o',e',hd'⟩:=hv0
    refine hN ?_; clear hN
    rw [e'] at e; obtain rfl:=Option.some.inj e
    rw [hd'] at hq; cases hq)
   exact hp.map (PendC.chg kb hcM (.inr ⟨v0,hv0⟩) ⟨m,hn⟩ kr) kr
 | own xs =>
  refine bc fun hN =>?_
  obtain ⟨u',r,a,P',e1,e2,⟨us,e3,e4,e5,e6,e7,e8⟩,e9⟩:=pd
  refine hN ?_; clear hN
  cases e1
  refine bc fun hN =>?_
  obtain ⟨_,rfl⟩:=e9
  subst e2
  have hloc : sc.names.lookup x = some .local:=by
   rcases hxs.2 with h | h
   ·cases h
   ·exact h
  have hk:=S.kinds.loc x hloc
  obtain ⟨o,ho,hrest⟩:=e4
  refine hN ?_; clear hN
  refine local_ hk a (fun h' kr kb =>⟨us,hk,by simp [e3],⟨o,kb _ _ e7 ho,hrest⟩,e5,e6,e8 _⟩) fun _ =>⟨fun hm =>?_,fun y hy hc h =>hself.2 y hy hc (h ▸ .head _)⟩
  exact (List.nodup_cons.mp hnd).1 hm
 | inst C fl =>
  refine bc fun hN =>?_
  obtain ⟨u',r,a,P',e1,e2,⟨ix,Ca,es,n,e3,e4,e5,e6,e7,e8,e9,e10,e11⟩,e12⟩:=pd
  refine hN ?_; clear hN
  cases e1
  refine bc fun hN =>?_
  obtain ⟨_,rfl⟩:=e12
  refine hN ?_; clear hN
  subst e2
  have hloc : sc.names.lookup x = some .local:=by
   rcases hxs.2 with h | h
   ·cases h
   ·exact h
  have hk:=S.kinds.loc x hloc
  refine local_ hk a (fun h' kr kb =>⟨ix,Ca,es,n,.inl ⟨hk,by simp [e3]⟩,e4,kb _ _ (fun h =>e9 (h ▸ F.loc.1)) e5,kb _ _ e10 e6,e7,e8,e9,e10,e11.mono kr⟩) fun _ =>⟨fun hm =>?_,fun y hy hc h =>hself.2 y hy hc (h ▸ .head _)⟩
  exact (List.nodup_cons.mp hnd).1 hm
theorem Pends.split {av : AV} {as : List AV} {us : List Value} {P : List Addr} (h : Pends X env H Mu s (av :: as) us P) : ∃ u r W P',us = u :: r ∧ P = W ++ P' ∧ Pends X env H Mu s [av] [u] W ∧ Pends X env H Mu s as r P':=by
 cases av with
 | val v =>obtain ⟨u,r,e1,e2,e3⟩:=h; exact ⟨u,r,[],P,e1,rfl,⟨u,[],rfl,e2,rfl,rfl⟩,e3⟩
 | own xs =>obtain ⟨u,r,a,P',e1,e2,e3,e4⟩:=h; exact ⟨u,r,[a],P',e1,e2,⟨u,[],a,[],rfl,rfl,e3,rfl,rfl⟩,e4⟩
 | inst C fl =>obtain ⟨u,r,a,P',e1,e2,e3,e4⟩:=h; exact ⟨u,r,[a],P',e1,e2,⟨u,[],a,[],rfl,rfl,e3,rfl,rfl⟩,e4⟩
theorem Nw.trans {g' : Gam} {s' s'' : Shared} {X' : Gx} (a : Nw X' B Hc sc env H Mu g s s') (b : Nw X B Hc sc env H Mu g' s' s'') : Nw X B Hc sc env H Mu g' s s'' :=
 ⟨b.1,b.2.1,a.2.2.1.trans b.2.2.1 fun _ h =>.inl h,a.2.2.2.trans b.2.2.2⟩
theorem store_all {α : Type} (st : α → Value → Sem Unit) : ∀ {xs : List α} {nm : α → Str} {as : List AV} {us : List Value} {P : List Addr} {g : Gam} {s : Shared} {Q : Unit → Shared → Prop} (_ : ∀ (x : α) (u : Value) (s : Shared) (Q : Unit → Shared → Prop),x ∈ xs → wpAny (model X.prog X.w) A (storeName env (nm x) u) Q E s → wpAny (model X.prog X.w) A (st x u) Q E s),
  St (X.p P) sc env H Mu g s → Fm (X.p P) B Hc H Mu env s → stoAll sc (xs.map nm) as = true → P.Nodup → Pends X env H Mu s as us P →
  (∀ s',Nw (X.p []) B Hc sc env H Mu (setAll (xs.map nm) as g) s s' → Q () s') → wpAny (model X.prog X.w) A (assignInOrder (xs.map st) us) Q E s
 | [],nm,[],us,P,g,s,Q,_,S,F,_,_,pd,q =>by
  obtain ⟨rfl,rfl⟩:=pd
  exact wpAny_assignInOrder_none (q s ⟨S,F,Mv.of_kp (Kp.refl s),fun _ _ e _ =>e⟩)
 | [],_,_ :: _,_,_,_,_,_,_,_,_,h,_,_,_ =>by cases h
 | _ :: _,_,[],_,_,_,_,_,_,_,_,h,_,_,_ =>by cases h
 | x :: xs,nm,a :: as,us,P,g,s,Q,hst,S,F,h,hnd,pd,q =>by
  simp only [List.map_cons,stoAll,Bool.and_eq_true] at h
  refine bc fun hN =>?_
  obtain ⟨u,r,W,P',rfl,rfl,p1,p2⟩:=pd.split
  refine hN ?_; clear hN
  refine wpAny_assignInOrder_more (hst x u s _ (.head _) (store_av S F h.1 hnd p1 fun s' N hp =>?_))
  exact store_all st (fun y u s Q hy hw =>hst y u s Q (.tail _ hy) hw) N.1 N.2.1 h.2 (List.nodup_append.mp hnd).2.1 (hp _ _ _ p2) fun s'' N' =>q s'' (N.trans N')
end
theorem names_map : ∀ {ts : List Expr} {xs : List Str} {env : Env},mapO nameOf ts = some xs → (assignEach ts env).length = xs.length ∧ (assignEach ts env).findIdx? (·.1) = none ∧ ∃ ps : List Pos,ps.length = xs.length ∧ (assignEach ts env).map (·.2) = (xs.zip ps).map fun p =>assign (.Name p.1 p.2) env
 | [],xs,env,h =>by
  simp only [mapO,Option.some.injEq] at h; subst h
  exact ⟨rfl,rfl,[],rfl,rfl⟩
 | t :: ts,xs,env,h =>by
  unfold mapO at h
  split at h
  ·rename_i x hx
   refine bc fun hN =>?_
   refine map_el h fun xs' hx' hEqq2 =>?_
   subst hEqq2
   obtain ⟨p,rfl⟩:=nameOf_some hx
   obtain ⟨h1,h2,ps,h3,h4⟩:=names_map (env:=env) hx'
   refine hN ?_; clear hN
   refine ⟨?_,?_,p :: ps,by simp [h3],?_⟩
   ·show ((false,assign (.Name x p) env) :: assignEach ts env).length = _
    simp [h1]
   ·show ((false,assign (.Name x p) env) :: assignEach ts env).findIdx? (·.1) = none
    simp only [List.findIdx?_cons,h2]; rfl
   ·show ((false,assign (.Name x p) env) :: assignEach ts env).map (·.2) = _
    simp [h4]
  ·exact nS h
theorem setAll_lookup : ∀ {xs : List Str} {as : List AV} {g : Gam} (y : Str),xs.Nodup → xs.length = as.length → (setAll xs as g).lookup y = ((xs.zip as).lookup y).or (g.lookup y)
 | [],[],g,y,_,_ =>rfl
 | [],_ :: _,_,_,_,h =>by simp at h
 | _ :: _,[],_,_,_,h =>by simp at h
 | x :: xs,a :: as,g,y,hn,hl =>by
  obtain ⟨h1,h2⟩:=List.nodup_cons.mp hn
  show (setAll xs as (setL x a g)).lookup y = _
  simp only [setAll_lookup y h2 (by simpa using hl),setL_lookup,List.zip_cons_cons,List.lookup_cons]
  by_cases hy : y = x
  ·subst hy
   have : (xs.zip as).lookup y = none:=by
    cases e : (xs.zip as).lookup y with
    | none =>rfl
    | some v =>exact absurd (List.of_mem_zip (lookup_mem e)).1 h1
   rw [this]; simp
  ·have : (y == x) = false:=by simpa using hy
   simp only [this,if_neg hy]
theorem stoAll_len {sc : Scope} : ∀ {xs : List Str} {as : List AV},stoAll sc xs as = true → xs.length = as.length
 | [],[],_ =>rfl
 | [],_ :: _,h =>by cases h
 | _ :: _,[],h =>by cases h
 | x :: xs,a :: as,h =>by
  exact congrArg Nat.succ (stoAll_len (Bool.and_eq_true_iff.mp h).2)
theorem stoAll_append {sc : Scope} : ∀ {xs ys : List Str} {as bs : List AV},stoAll sc xs as = true → stoAll sc ys bs = true → stoAll sc (xs ++ ys) (as ++ bs) = true
 | [],_,[],_,_,h =>h
 | [],_,_ :: _,_,h,_ =>by cases h
 | _ :: _,_,[],_,h,_ =>by cases h
 | x :: xs,ys,a :: as,bs,h,h' =>by
  have h:=Bool.and_eq_true_iff.mp h
  exact Bool.and_eq_true_iff.mpr ⟨h.1,stoAll_append h.2 h'⟩
theorem stoAll_reverse {sc : Scope} : ∀ {xs : List Str} {as : List AV},stoAll sc xs as = true → stoAll sc xs.reverse as.reverse = true
 | [],[],h =>h
 | [],_ :: _,h =>by cases h
 | _ :: _,[],h =>by cases h
 | x :: xs,a :: as,h =>by
  have h:=Bool.and_eq_true_iff.mp h
  rw [List.reverse_cons,List.reverse_cons]
  exact stoAll_append (stoAll_reverse h.2) (Bool.and_eq_true_iff.mpr ⟨h.1,rfl⟩)
theorem nodup_rev {α : Type} {l : List α} (h : l.Nodup) : l.reverse.Nodup:=(List.reverse_perm l).symm.nodup h
theorem zip_rev {α β : Type} : ∀ {xs : List α} {as : List β},xs.length = as.length → xs.reverse.zip as.reverse = (xs.zip as).reverse
 | [],[],_ =>rfl
 | [],_ :: _,h =>by simp at h
 | _ :: _,[],h =>by simp at h
 | x :: xs,a :: as,h =>by
  have h' : xs.length = as.length:=by simpa using h
  rw [List.reverse_cons,List.reverse_cons,List.zip_append (by simpa using h'),zip_rev h']
  simp
section
variable {X : Gx} {G : Ge} {N n : Nat} {B : Heap} {Hc H Mu : List Addr} {sc : Scope} {env : Env} {g g' : Gam} {s : Shared} {P : List Addr} {A : Around} {E : Value → Shared → Prop}
theorem St.congr (S : St X sc env H Mu g s) (h : ∀ y,g'.lookup y = g.lookup y) : St X sc env H Mu g' s:=by
 refine bc fun hN =>?_
 obtain ⟨m,ad,hn,hd,inj,h1,h2⟩:=S.held
 refine hN ?_; clear hN
 exact ⟨S.base,S.kind,S.glob,S.blt,S.kinds,S.ho,m,ad,hn,fun x av hx hl =>hd x av hx (by rw [← h]; exact hl),fun x y hx hy c1 c2 =>inj x y hx hy (by rw [← h]; exact c1) (by rw [← h]; exact c2),h1,fun y hy c =>h2 y hy (by rw [← h]; exact c)⟩
theorem Nw.congr {s' : Shared} (N : Nw X B Hc sc env H Mu g s s') (h : ∀ y,g'.lookup y = g.lookup y) : Nw X B Hc sc env H Mu g' s s':=⟨N.1.congr h,N.2⟩
theorem names_ok {Q : Unit → Shared → Prop} {ts : List Expr} {xs : List Str} {as : List AV} {us : List Value} (S : St (X.p P) sc env H Mu g s) (F : Fm (X.p P) B Hc H Mu env s) (hx : mapO nameOf ts = some xs) (h : stoAll sc xs as = true) (hnd : P.Nodup) (pd : Pends X env H Mu s as us P)
  (q : ∀ s',Nw (X.p []) B Hc sc env H Mu (setAll xs as g) s s' → Q () s') : wpAny (model X.prog X.w) A (assignInOrder ((assignEach ts env).map (·.2)) us) Q E s:=by
 refine bc fun hN =>?_
 obtain ⟨_,_,ps,h3,h4⟩:=names_map (env:=env) hx
 refine hN ?_; clear hN
 rw [h4]
 have hm : (xs.zip ps).map (·.1) = xs:=List.map_fst_zip (by lia)
 refine store_all (fun (p : Str × Pos) =>assign (.Name p.1 p.2) env) (nm:=fun p =>p.1) (fun x u s Q _ hw =>assign_Name hw) S F (by rw [hm]; exact h) hnd pd fun s' N' =>q s' ?_
 rw [hm] at N'; exact N'
theorem names_rev {Q : Unit → Shared → Prop} {xs : List Str} {as : List AV} {us : List Value} (S : St (X.p P) sc env H Mu g s) (F : Fm (X.p P) B Hc H Mu env s) (h : stoAll sc xs as = true) (hxn : xs.Nodup) (hnd : P.Nodup) (pd : Pends X env H Mu s as us P)
  (q : ∀ s',Nw (X.p []) B Hc sc env H Mu (setAll xs as g) s s' → Q () s') : wpAny (model X.prog X.w) A (assignInOrder (xs.reverse.map fun n =>bindName env n) us.reverse) Q E s:=by
 have hl:=stoAll_len h
 refine store_all (fun n =>bindName env n) (nm:=id) (P:=P.reverse) (fun x u s Q _ hw =>bindName_ hw) (S.weak fun a ha =>List.mem_reverse.mp ha) (F.p _) (by rw [List.map_id]; exact stoAll_reverse h) (nodup_rev hnd) pd.reverse fun s' N' =>q s' ?_
 rw [List.map_id] at N'
 refine N'.congr fun y =>?_
 rw [setAll_lookup y hxn hl,setAll_lookup y (nodup_rev hxn) (by simpa using hl),zip_rev hl]
 congr 1
 exact (lookup_reverse_of_nodup _ (by rw [List.map_fst_zip (by lia)]; exact hxn) y).symm
theorem Pends.live {s : Shared} : ∀ {as : List AV} {us : List Value} {P : List Addr},Pends X env H Mu s as us P → ∀ a ∈ P,∃ o,s.heap.get? a = some o
 | [],_,_,⟨_,rfl⟩,_,h =>by cases h
 | .val _ :: _,_,_,⟨_,_,_,_,e⟩,a,h =>Pends.live e a h
 | .own _ :: _,_,_,⟨_,_,b,_,_,e2,⟨_,_,⟨o,ho,_⟩,_,_,_,_⟩,e⟩,a,h =>by
  rw [e2] at h
  rcases List.mem_cons.mp h with h | h
  ·exact ⟨o,h ▸ ho⟩
  ·exact Pends.live e a h
 | .inst _ _ :: _,_,_,⟨_,_,b,_,_,e2,⟨_,_,_,_,_,_,_,ho,_,_,_,_,_⟩,e⟩,a,h =>by
  rw [e2] at h
  rcases List.mem_cons.mp h with h | h
  ·exact ⟨_,h ▸ ho⟩
  ·exact Pends.live e a h
theorem starEach_plainR {o : Bool} {e : Expr} {es : List Expr} {av : AV} (h : evR n G sc g o e = some av) : starEach (e :: es) env = (false,eval e env) :: starEach es env:=by
 cases e
 case Starred a p =>
  have h : (if (o && false) = true then some (.own []) else (ev n G sc g (.Starred a p)).map .val) = some av:=h
  rw [Bool.and_false,if_neg Bool.false_ne_true] at h
  refine bc fun hN =>?_
  refine map_el h fun v hv _ =>?_
  refine hN ?_; clear hN
  cases n <;> exact nomatch (show (Option.none : Option V) = some v from hv)
 all_goals rfl
theorem rs_ok (hG : GOk2 X G N) (hA : Room A (N + n)) {p : Pos} {f : Expr × Expr → Bool} : ∀ {ps : List (Expr × Expr)} {as : List AV} {P : List Addr} {H Mu : List Addr} {s : Shared} {Q : List Value → Shared → Prop},St (X.p P) sc env H Mu g s → Fm (X.p P) B Hc H Mu env s → mapO (fun (q : Expr × Expr) =>evR n G sc g (f q) q.2) ps = some as →
  (∀ us s' H' Mu' W,St (X.p (P ++ W)) sc env H' Mu' g s' → Fm (X.p (P ++ W)) B Hc H' Mu' env s' → Ext s H Mu s' H' Mu' → (∀ a ∈ W,s.heap.get? a = none) → W.Nodup → Pends X env H' Mu' s' as us W → Q us s') →
  wpAny (model X.prog X.w) A (spliced (backTo p (starEach (ps.map (·.2)) env))) Q E s
 | [],as,P,H,Mu,s,Q,S,F,h,q =>by
  simp only [mapO,Option.some.injEq] at h; subst h
  exact spliced_nil (q [] s H Mu [] (by rw [List.append_nil]; exact S) (by rw [List.append_nil]; exact F) (Ext.of_kp (Kp.refl s)) (fun a h =>by cases h) List.nodup_nil ⟨rfl,rfl⟩)
 | (t,e) :: ps,as,P,H,Mu,s,Q,S,F,h,q =>by
  unfold mapO at h
  split at h
  ·rename_i av hav
   refine bc fun hN =>?_
   refine map_el h fun as' has hEqq2 =>?_
   subst hEqq2
   refine hN ?_; clear hN
   simp only [List.map_cons,starEach_plainR hav]
   refine spliced_cons (evR_ok hG S F hA hav fun u s1 H1 Mu1 W1 S1 F1 e1 w1 n1 p1 =>?_)
   refine rs_ok hG hA S1 F1 has fun us s2 H2 Mu2 W2 S2 F2 e2 w2 n2 p2 =>?_
   refine q (u :: us) s2 H2 Mu2 (W1 ++ W2) (by rw [← List.append_assoc]; exact S2) (by rw [← List.append_assoc]; exact F2) (e1.trans e2) (fun a ha =>?_) (List.nodup_append.mpr ⟨n1,n2,fun a ha b hb hab =>?_⟩) ((p1.ext e2).append p2)
   ·rcases List.mem_append.mp ha with h | h
    ·exact w1 a h
    ·exact get_none_of_kp e1.kp (w2 a h)
   ·subst hab
    obtain ⟨o,ho⟩:=p1.live a ha
    rw [w2 a hb] at ho; exact nS ho
  ·exact nS h
end
theorem filterMap_all {f : Expr → Option Str} (hf : ∀ e x,f e = some x → nameOf e = some x) : ∀ {ts : List Expr},(ts.filterMap f).length = ts.length → mapO nameOf ts = some (ts.filterMap f)
 | [],_ =>rfl
 | t :: ts,h =>by
  cases e : f t with
  | none =>
   rw [List.filterMap_cons_none e] at h
   have:=List.length_filterMap_le f ts
   simp at h; lia
  | some x =>
   rw [List.filterMap_cons_some e] at h ⊢
   have:=filterMap_all hf (ts:=ts) (by simpa using h)
   unfold mapO
   simp only [hf t x e,this]; rfl
theorem swapped_cases {ts es : List Expr} {k k2 : Nat} {tp vp : Pos} {env : Env} (hsw : swOk es = true) :
  swappedStores [.Tuple ts k tp] (.Tuple es k2 vp) env = pure none ∨ ∃ names,swappedStores [.Tuple ts k tp] (.Tuple es k2 vp) env = pure (some names) ∧ mapO nameOf ts = some names:=by
 unfold swappedStores
 dsimp only
 split
 ·exact .inl rfl
 ·split
  ·exact .inl rfl
  ·split
   ·exact .inl rfl
   ·rename_i hlen
    split
    ·exact .inl rfl
    ·rename_i hf
     split
     ·rename_i hc
      unfold swOk at hsw
      rw [hc] at hsw
      rw [Bool.eq_false_iff.mpr hf] at hsw
      cases hsw
     ·refine .inr ⟨_,rfl,filterMap_all (fun e x h =>?_) ?_⟩
      ·cases e <;> try exact nS h
       simp only at h
       split at h
       ·obtain rfl:=Option.some.inj h; rfl
       ·exact nS h
      ·simp only [Bool.or_eq_true,bne_iff_ne,not_or,Decidable.not_not] at hlen
       exact hlen.1
theorem mapO_len {α β : Type} {f : α → Option β} : ∀ {l : List α} {r : List β},mapO f l = some r → l.length = r.length
 | [],r,h =>by simp only [mapO,Option.some.injEq] at h; subst h; rfl
 | a :: l,r,h =>by
  unfold mapO at h
  split at h
  ·refine map_el h fun r' h' hEqq2 =>?_
   subst hEqq2
   simp [mapO_len h']
  ·exact nS h
section
variable {X : Gx} {G : Ge} {N n : Nat} {B : Heap} {Hc H Mu : List Addr} {sc : Scope} {env : Env} {g g' : Gam} {s : Shared} {A : Around} {E : Value → Shared → Prop}
theorem tup_eval (hX : X.p [] = X) (hG : GOk2 X G N) (hA : Room A (N + n)) {f : Expr × Expr → Bool} {ts es : List Expr} {as : List AV} {k : Nat} {vp : Pos} {Q : Value → Shared → Prop} (S : St X sc env H Mu g s) (F : Fm X B Hc H Mu env s) (hl : ts.length = es.length) (hz : es.length ≤ 30)
  (h : mapO (fun (q : Expr × Expr) =>evR n G sc g (f q) q.2) (ts.zip es) = some as)
  (q : ∀ T us s' H' Mu' W,St (X.p W) sc env H' Mu' g s' → Fm (X.p W) B Hc H' Mu' env s' → Ext s H Mu s' H' Mu' → W.Nodup → Pends X env H' Mu' s' as us W → s'.heap.IsTuple T us.toArray → us.length = as.length → Q (.ref T) s') :
  wpAny (model X.prog X.w) A (eval (.Tuple es k vp) env) Q E s:=by
 have hes : (ts.zip es).map (·.2) = es:=List.map_snd_zip (by lia)
 have hlen:=mapO_len h
 refine Tuple_ ?_
 rw [← hes]
 refine rs_ok (P:=[]) hG hA (hX ▸ S) (hX ▸ F) h fun us s' H' Mu' W S' F' e w nd pd =>?_
 have hul:=pd.length
 refine wpAny_newObj_type ?_ ?_
 ·have k0 : Kp s' { s' with heap:=s'.heap.push { cls:=.type "tuple",data:=.seq us.toArray } }:=Kp.push _
  exact q _ us _ H' Mu' W (S'.kp k0) (F'.kp k0) (e.trans (Ext.of_kp k0)) nd (pd.ext (Ext.of_kp k0)) ⟨_,Heap.get?_push_size _ rfl,rfl,_,rfl⟩ hul
 ·show us.toArray.size ≤ sizeLine
  have h1 : (ts.zip es).length ≤ 30:=by rw [List.length_zip]; lia
  have h2:=lid_le
  have h3 : (30 : Nat) ≤ lid:=by decide
  rw [List.size_toArray]
  exact Nat.le_trans (by lia : us.length ≤ 30) (Nat.le_trans h3 h2)
theorem nx_of {s' s'' : Shared} {H' Mu' : List Addr} {X' : Gx} (e : Ext s H Mu s' H' Mu') (N : Nw X' B Hc sc env H' Mu' g' s' s'') : Nx X' B Hc sc env Mu g' s s'' :=
 Nx.trans (Mv.of_kp e.kp) e.hM' N.nx
theorem pushed_kp {h' : Heap} (he : Heap.ExtBut s.heap.objs.size s.heap h') : Kp s { s with heap:=h' }:=Kp.mk' (t:=s.toks) fun b o e =>he b o (Nat.ne_of_lt (Heap.lt_size e)) e
theorem tupNames_ok (hX : X.p [] = X) (hG : GOk2 X G N) (hA : Room A (N + n)) {f : Expr × Expr → Bool} {ts es : List Expr} {xs : List Str} {as : List AV} {k k2 : Nat} {tp vp pos : Pos} (S : St X sc env H Mu g s) (F : Fm X B Hc H Mu env s) (hl : ts.length = es.length) (hz : es.length ≤ 30) (hsw : swOk es = true)
  (h : mapO (fun (q : Expr × Expr) =>evR n G sc g (f q) q.2) (ts.zip es) = some as) (hx : mapO nameOf ts = some xs) (hs : stoAll sc xs as = true) (hn : xs.Nodup) :
  wpAny (model X.prog X.w) A (exec (.Assign [.Tuple ts k tp] (.Tuple es k2 vp) pos) env) (fun fl s' =>FlP X B Hc sc env Mu s (.next (setAll xs as g)) fl s') E s:=by
 rcases swapped_cases (ts:=ts) (k:=k) (k2:=k2) (tp:=tp) (vp:=vp) (env:=env) hsw with hw | ⟨names,hw,hnm⟩
 ·refine Assign_Tuple (tup_eval hX hG hA S F hl hz h fun T us s' H' Mu' W S' F' e nd pd ht hul =>?_) rfl hw
  refine bc fun hN =>?_
  obtain ⟨h1,h2,_⟩:=names_map (env:=env) hx
  refine hN ?_; clear hN
  refine wpAny_assign_Tuple hA.hh ht (by have:=stoAll_len hs; rw [List.size_toArray]; lia) h2 fun h' he =>?_
  have k0:=pushed_kp he
  refine names_ok (S'.kp k0) (F'.kp k0) hx hs nd (pd.ext (Ext.of_kp k0)) fun s'' N =>⟨rfl,?_⟩
  rw [hX] at N
  exact nx_of (e.trans (Ext.of_kp k0)) N
 ·rw [hx] at hnm; obtain rfl:=Option.some.inj hnm
  refine Assign_Tuple_swapped (tup_eval hX hG hA S F hl hz h fun T us s' H' Mu' W S' F' e nd pd ht hul =>?_) rfl hw
  have hsz : xs.length = us.toArray.size:=by have:=stoAll_len hs; rw [List.size_toArray]; lia
  rw [hsz]
  refine wpAny_unpackItems_tuple hA.hh ht fun h' he =>?_
  have k0:=pushed_kp he
  refine names_rev (S'.kp k0) (F'.kp k0) hs hn nd (pd.ext (Ext.of_kp k0)) fun s'' N =>⟨rfl,?_⟩
  rw [hX] at N
  exact nx_of (e.trans (Ext.of_kp k0)) N
theorem pends_vals {s : Shared} : ∀ {vs : List V} {us : List Value},Reps (hideAll s.heap H) vs us → Pends X env H Mu s (vs.map .val) us []
 | [],us,r =>by unfold Reps at r; exact ⟨r,rfl⟩
 | v :: vs,us,r =>by
  unfold Reps at r
  refine bc fun hN =>?_
  obtain ⟨u,r',e,h1,h2⟩:=r
  refine hN ?_; clear hN
  exact ⟨u,r',e,h1,pends_vals h2⟩
theorem bind_ok (hX : X.p [] = X) {t : Expr} {v : V} {u : Value} {Q : Unit → Shared → Prop} (hh : A.handled = none) (S : St X sc env H Mu g s) (F : Fm X B Hc H Mu env s) (h : bindT sc t v g = some g') (r : Rep (hideAll s.heap H) v u)
  (q : ∀ s' s'',Kp s s' → Nw X B Hc sc env H Mu g' s' s'' → Q () s'') : wpAny (model X.prog X.w) A (assign t env u) Q E s:=by
 unfold bindT at h
 cases hn : nameOf t with
 | some x =>
  rw [hn] at h
  obtain ⟨p,rfl⟩:=nameOf_some hn
  refine ite_el h fun hx h =>?_
  obtain rfl:=Option.some.inj h
  exact assign_Name (store_val S F hx r fun s'' N =>q s s'' (Kp.refl s) N)
 | none =>
  rw [hn] at h
  refine bc fun hN =>?_
  refine bind_el h fun ts ht h =>?_
  refine bind_el h fun vs hv h =>?_
  refine bind_el h fun xs hx h =>?_
  refine ite_el h fun hs h =>?_
  obtain rfl:=Option.some.inj h
  obtain ⟨k,p,rfl⟩:=tupOf_some ht
  obtain rfl:=tupV_some hv
  unfold Rep at r
  obtain ⟨T,us,rfl,ht,rs⟩:=r
  have ht' : s.heap.IsTuple T us.toArray:=unhide_tup ht
  obtain ⟨h1,h2,_⟩:=names_map (env:=env) hx
  refine hN ?_; clear hN
  refine wpAny_assign_Tuple hh ht' (by have:=stoAll_len hs; have:=rs.length; rw [List.size_toArray]; simp at *; lia) h2 fun h' he =>?_
  have k0:=pushed_kp he
  refine names_ok (P:=[]) (hX ▸ S.kp k0) (hX ▸ F.kp k0) hx hs List.nodup_nil (pends_vals (rs.kp k0)) fun s'' N =>q _ s'' k0 (hX ▸ N)
end
section
variable {X : Gx} {G : Ge} {N n : Nat} {B : Heap} {Hc H Mu : List Addr} {sc : Scope} {env : Env} {g g' : Gam} {s : Shared} {A : Around} {E : Value → Shared → Prop}
theorem St.irrP {c : Addr → Prop} {h' : Heap} {t : Nat} (S : St X sc env H Mu g s) (F : Fm X B Hc H Mu env s) (kb : ∀ b o,¬ c b → s.heap.get? b = some o → h'.get? b = some o) (hM : ∀ a ∈ Mu,¬ c a) (hB : ∀ a o,B.get? a = some o → ¬ c a)
  (hc : ∀ a o,c a → s.heap.get? a = some o → ¬ IsSeq o ∧ o.data ≠ .plain) :
  St X sc env H Mu g { s with heap:=h',toks:=t } ∧ Fm X B Hc H Mu env { s with heap:=h',toks:=t } ∧ SeqKeep (hideAll s.heap H) (hideAll h' H):=by
 refine bc fun hN =>?_
 obtain ⟨m0,ad,hn,hd,inj,hside⟩:=S.held
 refine hN ?_; clear hN
 have kr : SeqKeep (hideAll s.heap H) (hideAll h' H):=fun b o e hq =>hideAll_get H (kb b o (fun hb =>(hc b o hb (of_hideAll H e)).1 hq) (of_hideAll H e)) (hide_off e)
 have kB : Sub B h':=fun b o e =>kb b o (hB b o e) (F.keep b o e)
 have hH : ∀ a ∈ H,¬ c a:=fun a ha =>by
  rcases F.hmu a ha with h1 | h1
  ·obtain ⟨o,e⟩:=F.hcb a h1
   exact hB a o e
  ·exact hM a h1
 refine ⟨⟨fun b o e =>kB b o (F.b0 b o e),S.kind,S.glob,S.blt,S.kinds,fun a ha =>?_,m0,ad,hn.at' fun o e =>kb _ o (hM _ F.loc.1) e,fun y av hy hl =>?_,inj,hside⟩,⟨F.b0,kB,F.mu,fun a ha =>?_,F.hmu,F.hc,F.hcb,fun a ha hn o e =>?_,F.loc,fun x d h2 =>?_,F.cinj⟩,kr⟩
 ·obtain ⟨o,e⟩:=S.ho a ha; exact ⟨o,kb a o (hH a ha) e⟩
 ·refine Held.toP kb kr (fun _ =>rfl) (fun c' v' hx _ =>hM _ (F.cell _ _ hx).1) (fun ix o e hix hpl h =>(hc ix o h e).2 hpl) (fun _ h =>h) (fun _ h =>.inl h) (fun _ h =>h) (fun _ h =>.inl h) (fun hcore =>?_) (hd y av hy hl)
  have hh:=hd y av hy hl
  cases av with
  | val v =>exact hcore.elim
  | own xs =>obtain ⟨us,_,_,_,_,hm,_⟩:=hh; exact hM _ hm
  | inst C' fl =>obtain ⟨_,_,_,_,_,_,_,_,hm,_⟩:=hh; exact hM _ hm
 ·obtain ⟨o,e⟩:=F.live a ha; exact ⟨o,kb a o (hM a ha) e⟩
 ·refine bc fun hN =>?_
  obtain ⟨o',e'⟩:=F.live a ha
  refine hN ?_; clear hN
  rw [kb a o' (hM a ha) e'] at e; obtain rfl:=Option.some.inj e
  exact F.ns a ha hn _ e'
 ·refine bc fun hN =>?_
  obtain ⟨p1,v,o,ho,hdt⟩:=F.cell x d h2
  refine hN ?_; clear hN
  exact ⟨p1,v,o,kb d o (hM d p1) ho,hdt⟩
theorem St.irr {C : Addr} {m : Str → Option Value} {h' : Heap} {t : Nat} (S : St X sc env H Mu g s) (F : Fm X B Hc H Mu env s) (hC : s.heap.Ns C m) (hCM : C ∉ Mu) (hCB : B.get? C = none) (hs : Heap.SameBut C s.heap h') :
  St X sc env H Mu g { s with heap:=h',toks:=t } ∧ Fm X B Hc H Mu env { s with heap:=h',toks:=t } ∧ SeqKeep (hideAll s.heap H) (hideAll h' H) :=
 S.irrP (c:=fun b =>b = C) F (fun b o hb e =>hs.extBut b o hb e) (fun a ha h =>hCM (h ▸ ha)) (fun a o e h =>by subst h; rw [hCB] at e; exact nS e) fun a o h e =>by
  subst h
  refine ⟨notSeq_ns hC e,fun hpl =>?_⟩
  obtain ⟨o',es,ep,ho,hdt,_⟩:=hC
  rw [e] at ho; obtain rfl:=Option.some.inj ho
  rw [hpl] at hdt; cases hdt
theorem Fm.seqKeep {H' Mu' : List Addr} {s' : Shared} (F : Fm X B Hc H Mu env s) (F' : Fm X B Hc H' Mu' env s') (m : Mv Mu s s') (hm : ∀ a ∈ Mu',a ∈ Mu ∨ s.heap.get? a = none) : SeqKeep (hideAll s.heap H) (hideAll s'.heap H'):=fun b o e hq =>by
 have eb:=of_hideAll H e
 have hb:=hide_off e
 have hbM : b ∉ Mu:=fun h =>F.ns b h hb o eb hq
 refine hideAll_get H' (m.keep b o hbM eb) fun h =>?_
 rcases F'.hmu b h with h1 | h1
 ·exact hb (F.hc b h1)
 ·rcases hm b h1 with h2 | h2
  ·exact hbM h2
  ·rw [eb] at h2; cases h2
noncomputable def isComp : Expr → Bool
 | .ListComp _ _ _ _ =>true
 | .SetComp _ _ _ _ =>true
 | .DictComp _ _ _ _ _ =>true
 | _ =>false
theorem swaps_no {e : Expr} {t : Option Expr} {line : Nat} (h : isComp e = false) : swapsWith e t line env = pure false:=by
 cases e <;> first | rfl | cases h
theorem swaps_attr {e : Expr} {o : Expr} {f : Str} {p : Pos} {line : Nat} : swapsWith e (some (.Attribute o f p)) line env = pure false:=by
 cases e <;> rfl
theorem swaps_comp {elt : Expr} {gens : List Comprehension} {csc : Scope} {p : Pos} {x : Str} {px : Pos} {line : Nat} : swapsWith (.ListComp elt gens csc p) (some (.Name x px)) line env = pure true ∨ swapsWith (.ListComp elt gens csc p) (some (.Name x px)) line env = pure false:=by
 unfold swapsWith
 dsimp only
 cases (env.blockKind == .function && env.kindOf x == some .local && px.line == (Expr.ListComp elt gens csc p).pos.line && !(csc.names.any fun (n,k) =>n == x && (k == .local || k == .cell)))
 ·exact .inr rfl
 ·exact .inl rfl
theorem evR_comp {o : Bool} {e : Expr} {av : AV} (h : evR n G sc g o e = some av) (hc : isComp e = true) : ∃ elt gens csc p v,e = .ListComp elt gens csc p ∧ ev n G sc g e = some v ∧ av = .val v:=by
 have h2 : isNilL e = false → callOf e = .none → ∃ v,ev n G sc g e = some v ∧ av = .val v:=fun a b =>by
  unfold evR at h
  simp only [a,b,Bool.and_false,if_neg Bool.false_ne_true] at h
  refine bc fun hN =>?_
  refine map_el h fun v hv hEqq2 =>?_
  subst hEqq2
  refine hN ?_; clear hN
  exact ⟨v,hv,rfl⟩
 cases e with
 | ListComp elt gens csc p =>obtain ⟨v,hv,rfl⟩:=h2 rfl rfl; exact ⟨_,_,_,_,v,rfl,hv,rfl⟩
 | SetComp a b c d =>obtain ⟨v,hv,rfl⟩:=h2 rfl rfl; cases n <;> exact nomatch (show (Option.none : Option V) = some v from hv)
 | DictComp a b c d e =>obtain ⟨v,hv,rfl⟩:=h2 rfl rfl; cases n <;> exact nomatch (show (Option.none : Option V) = some v from hv)
 | _ =>cases hc
theorem assign_plain (hX : X.p [] = X) (hG : GOk2 X G N) (hA : Room A (N + n)) {o : Bool} {x : Str} {px pos : Pos} {e : Expr} {av : AV} (S : St X sc env H Mu g s) (F : Fm X B Hc H Mu env s) (h : evR n G sc g o e = some av) (hs : stoOk sc x av = true) (hsw : swapsWith e (some (.Name x px)) pos.line env = pure false) :
  wpAny (model X.prog X.w) A (exec (.Assign [.Name x px] e pos) env) (fun fl s' =>FlP X B Hc sc env Mu s (.next (setL x av g)) fl s') E s:=by
 refine wpAny_Assign_Name (evR_ok (P:=[]) hG (hX ▸ S) (hX ▸ F) hA h fun u s' H' Mu' W S' F' ex w nd pd =>?_) hsw
 refine store_av (P:=[]) (W:=W) (by rw [List.append_nil]; exact S') (by rw [List.append_nil]; exact F') hs (by rw [List.append_nil]; exact nd) pd fun s'' N _ =>⟨rfl,?_⟩
 rw [hX] at N
 exact nx_of ex N
theorem assign_name (hX : X.p [] = X) (hG : GOk2 X G N) (hA : Room A (N + n)) {o : Bool} {x : Str} {px pos : Pos} {e : Expr} {av : AV} (S : St X sc env H Mu g s) (F : Fm X B Hc H Mu env s) (h : evR n G sc g o e = some av) (hs : stoOk sc x av = true) :
  wpAny (model X.prog X.w) A (exec (.Assign [.Name x px] e pos) env) (fun fl s' =>FlP X B Hc sc env Mu s (.next (setL x av g)) fl s') E s:=by
 cases hc : isComp e with
 | false =>exact assign_plain hX hG hA S F h hs (swaps_no hc)
 | true =>
  refine bc fun hN =>?_
  obtain ⟨elt,gens,csc,p,v,rfl,hv,rfl⟩:=evR_comp h hc
  refine hN ?_; clear hN
  rcases swaps_comp (elt:=elt) (gens:=gens) (csc:=csc) (p:=p) (x:=x) (px:=px) (line:=pos.line) (env:=env) with hsw | hsw
  ·have hxs : isSto sc x = true:=by
    unfold stoOk at hs
    exact (Bool.and_eq_true_iff.mp hs).1
   rw [exec_Assign_Name_used _ _ _ _ hsw]
   refine wpAny_bind (wpAny_standAt (wpAny_bind ?_))
   cases n with
   | zero =>exact nomatch (show (Option.none : Option V) = some v from hv)
   | succ n =>
    refine bc fun hN =>?_
    refine bind_el (show ((compOf gens).bind fun c =>if compOk sc csc c.1 = true then (evI n G sc g c.2.1).bind fun xs =>if xs.length ≤ lid then (compV (compF n G csc g c.1 c.2.2 elt) xs).map .list else .none else .none) = some v from hv) fun c hcp hv2 =>?_
    refine ite_el hv2 fun hcok hv3 =>?_
    refine bind_el hv3 fun xs hxs' hv4 =>?_
    refine itep_el hv4 fun hz hv5 =>?_
    refine map_el hv5 fun tot ht hEqq2 =>?_
    subst hEqq2
    clear hv2 hv3 hv4 hv5
    obtain ⟨y,iter,ifs⟩:=c
    refine hN ?_; clear hN
    obtain ⟨py,rfl⟩ : ∃ p,gens = [⟨.Name y p,iter,ifs,0⟩]:=compOf_some hcp
    have SS:=sound hG.toGOk n
    rw [arm_evalThenUse_ListComp]
    refine wpAny_bind (wpAny_mono (comp_ok (use:=some (assign (.Name x px) env)) (Q:=fun _ s' =>FlP X B Hc sc env Mu s (.next (setL x (.val (.list tot)) g)) .next s') SS.e SS.i SS.f S hA.up (compOk_of hcok) hxs' hz ht (folded_of hxs') ?_) (fun _ s' hq =>wpAny_pure (wpAny_pure hq)) fun _ _ e =>e)
    intro u s' C k r hC hCn
    refine assign_Name (store_val (S.kp k) (F.kp k) hxs r fun s'' N =>?_)
    have hCM : C ∉ Mu:=fun hm =>by obtain ⟨o,e⟩:=F.live C hm; rw [hC] at e; exact nS e
    have hCB : B.get? C = none:=by
     cases e : B.get? C with
     | none =>rfl
     | some o =>have:=F.keep C o e; rw [hC] at this; exact nS this
    refine bc fun hN =>?_
    obtain ⟨m,hCn⟩:=hCn
    refine hN ?_; clear hN
    have hCn' : s''.heap.Ns C m:=hCn.at' fun o e =>N.2.2.1.keep C o hCM e
    refine ⟨fun m' hm' =>hm'.at' fun o e =>N.2.2.1.keep C o hCM e,fun h' hs' =>⟨rfl,?_⟩⟩
    refine bc fun hN =>?_
    obtain ⟨S3,F3,kr3⟩:=N.1.irr (t:=s''.toks) N.2.1 hCn' hCM hCB hs'
    refine hN ?_; clear hN
    refine ⟨H,Mu,S3,F3,?_,fun _ h =>.inl h⟩
    refine bc fun hN =>?_
    obtain ⟨h1,t1,rfl,k1⟩:=k
    obtain ⟨h2,t2,e2,k2⟩:=N.2.2.1
    refine hN ?_; clear hN
    subst e2
    refine ⟨h',t2,rfl,fun b o hb e =>hs'.extBut b o (fun hbC =>?_) (k2 b o hb (k1 b o e))⟩
    subst hbC; rw [hC] at e; exact nS e
  ·exact assign_plain hX hG hA S F h hs hsw
end
section
variable {X : Gx} {G : Ge} {N n : Nat} {B : Heap} {Hc H Mu : List Addr} {sc : Scope} {env : Env} {g g' : Gam} {s : Shared} {A : Around} {E : Value → Shared → Prop}
theorem asg_ok (hG : GOk2 X G N) {t : Expr} {v : V} {u : Value} {Q : Unit → Shared → Prop} (S : St X sc env H Mu g s) (F : Fm X B Hc H Mu env s) (h : asg G sc t (.val v) g = some g') (r : Rep (hideAll s.heap H) v u)
  (q : ∀ s',Nw X B Hc sc env H Mu g' s s' → Q () s') : wpAny (model X.prog X.w) A (assign t env u) Q E s:=by
 cases t with
 | Name x p =>
  refine bc fun hN =>?_
  refine ite_el (show (if stoOk sc x (.val v) = true then some (setL x (.val v) g) else .none) = some g' from h) fun hs h =>?_
  refine hN ?_; clear hN
  obtain rfl:=Option.some.inj h
  unfold stoOk at hs
  exact assign_Name (store_val S F (Bool.and_eq_true_iff.mp hs).1 r q)
 | Attribute b f p =>
  refine bc fun hN =>?_
  refine bind_el (show ((nameOf b).bind fun x =>if isLoc sc x = true then (instOf (g.lookup x)).bind (setFld G x f v g) else .none) = some g' from h) fun x hn h =>?_
  obtain ⟨px,rfl⟩:=nameOf_some hn
  refine ite_el h fun hx h =>?_
  refine bind_el h fun cf hl h =>?_
  refine ite_el h fun hc h =>?_
  refine hN ?_; clear hN
  obtain rfl:=Option.some.inj h
  rw [Bool.and_eq_true] at hc
  exact set_ok hG S F hx (instOf_some hl) (List.contains_iff_mem.mp hc.1) (of_decide_eq_true hc.2) r q
 | _ =>exact nomatch (show (Option.none : Option Gam) = some g' from h)
theorem asg_plain {t : Expr} {av : AV} (h : asg G sc t av g = some g') : ∀ e p,t ≠ .Starred e p:=by
 intro e p he
 subst he
 exact nomatch (show (Option.none : Option Gam) = some g' from h)
theorem asgs_ok (hG : GOk2 X G N) : ∀ {ts : List Expr} {vs : List V} {us : List Value} {g g' : Gam} {s : Shared} {Q : Unit → Shared → Prop},St X sc env H Mu g s → Fm X B Hc H Mu env s → asgs G sc ts vs g = some g' → Reps (hideAll s.heap H) vs us →
  (∀ s',Nw X B Hc sc env H Mu g' s s' → Q () s') → (assignEach ts env).length = us.length ∧ (assignEach ts env).findIdx? (·.1) = none ∧ wpAny (model X.prog X.w) A (assignInOrder ((assignEach ts env).map (·.2)) us) Q E s
 | [],[],us,g,g',s,Q,S,F,h,r,q =>by
  obtain rfl:=Option.some.inj h
  unfold Reps at r; subst r
  exact ⟨rfl,rfl,wpAny_assignInOrder_none (q s ⟨S,F,Mv.of_kp (Kp.refl s),fun _ _ e _ =>e⟩)⟩
 | [],_ :: _,_,_,_,_,_,_,_,h,_,_ =>by exact nS h
 | _ :: _,[],_,_,_,_,_,_,_,h,_,_ =>by exact nS h
 | t :: ts,v :: vs,us,g,g',s,Q,S,F,h,r,q =>by
  unfold Reps at r
  refine bc fun hN =>?_
  obtain ⟨u,r',rfl,h1,h2⟩:=r
  refine bind_el h fun g1 ha hb =>?_
  refine hN ?_; clear hN
  have hp:=asg_plain ha
  have heach : assignEach (t :: ts) env = (false,assign t env) :: assignEach ts env:=by
   cases t <;> first | rfl | exact absurd rfl (hp _ _)
  rw [heach]
  have tl : ∀ s',Nw X B Hc sc env H Mu g1 s s' → (assignEach ts env).length = r'.length ∧ (assignEach ts env).findIdx? (·.1) = none ∧ wpAny (model X.prog X.w) A (assignInOrder ((assignEach ts env).map (·.2)) r') Q E s':=fun s' N =>asgs_ok hG N.1 N.2.1 hb (h2.mono N.2.2.2) fun s'' N' =>q s'' (N.trans N')
  -- lengths do not hang on the state
  have lens : ∀ {ts : List Expr} {vs : List V} {us : List Value} {g g' : Gam} {h : Heap},asgs G sc ts vs g = some g' → Reps h vs us → (assignEach ts env).length = us.length ∧ (assignEach ts env).findIdx? (·.1) = none:=by
   intro ts
   induction ts with
   | nil =>
    intro vs us g g' hh h r
    cases vs with
    | nil =>unfold Reps at r; subst r; exact ⟨rfl,rfl⟩
    | cons =>exact nS h
   | cons t ts ih =>
    intro vs us g g' hh h r
    cases vs with
    | nil =>exact nS h
    | cons v vs =>
     unfold Reps at r
     refine bc fun hN =>?_
     obtain ⟨u,r',rfl,_,h2⟩:=r
     refine bind_el h fun g1 ha hb =>?_
     refine hN ?_; clear hN
     have hp:=asg_plain ha
     have heach : assignEach (t :: ts) env = (false,assign t env) :: assignEach ts env:=by
      cases t <;> first | rfl | exact absurd rfl (hp _ _)
     refine bc fun hN =>?_
     obtain ⟨i1,i2⟩:=ih hb h2
     refine hN ?_; clear hN
     rw [heach]
     refine ⟨by simp [i1],?_⟩
     simp only [List.findIdx?_cons,i2]; rfl
  refine bc fun hN =>?_
  obtain ⟨l1,l2⟩:=lens hb h2
  refine hN ?_; clear hN
  refine ⟨by simp [l1],by simp only [List.findIdx?_cons,l2]; rfl,?_⟩
  exact wpAny_assignInOrder_more (asg_ok hG S F ha h1 fun s' N =>(tl s' N).2.2)
theorem valsOf_map : ∀ {as : List AV} {vs : List V},valsOf as = some vs → as = vs.map .val
 | [],vs,h =>by obtain rfl:=Option.some.inj h; rfl
 | .val v :: as,vs,h =>by
  refine map_el h fun r h1 e =>?_
  subst e
  rw [valsOf_map h1]; rfl
 | .own _ :: _,_,h =>by exact nS h
 | .inst _ _ :: _,_,h =>by exact nS h
theorem vals_pends {s : Shared} : ∀ {vs : List V} {us : List Value} {W : List Addr},Pends X env H Mu s (vs.map .val) us W → Reps (hideAll s.heap H) vs us ∧ W = []
 | [],us,W,⟨h1,h2⟩ =>⟨by unfold Reps; exact h1,h2⟩
 | v :: vs,us,W,⟨u,r,h1,h2,h3⟩ =>by
  obtain ⟨a,b⟩:=vals_pends h3
  subst h1
  exact ⟨.cons h2 a,b⟩
theorem tupAttrs_ok (hX : X.p [] = X) (hG : GOk2 X G N) (hA : Room A (N + n)) {f : Expr × Expr → Bool} {ts es : List Expr} {as : List AV} {vs : List V} {k k2 : Nat} {tp vp pos : Pos} (S : St X sc env H Mu g s) (F : Fm X B Hc H Mu env s) (hl : ts.length = es.length) (hz : es.length ≤ 30) (hsw : swOk es = true)
  (h : mapO (fun (q : Expr × Expr) =>evR n G sc g (f q) q.2) (ts.zip es) = some as) (hx : mapO nameOf ts = none) (hv : valsOf as = some vs) (hs : asgs G sc ts vs g = some g') :
  wpAny (model X.prog X.w) A (exec (.Assign [.Tuple ts k tp] (.Tuple es k2 vp) pos) env) (fun fl s' =>FlP X B Hc sc env Mu s (.next g') fl s') E s:=by
 have:=valsOf_map hv
 subst this
 rcases swapped_cases (ts:=ts) (k:=k) (k2:=k2) (tp:=tp) (vp:=vp) (env:=env) hsw with hw | ⟨names,hw,hnm⟩
 ·refine Assign_Tuple (tup_eval hX hG hA S F hl hz h fun T us s' H' Mu' W S' F' e nd pd ht hul =>?_) rfl hw
  obtain ⟨r,rfl⟩:=vals_pends pd
  rw [hX] at S' F'
  obtain ⟨l1,l2,_⟩:=asgs_ok (A:=A) (E:=E) (Q:=fun _ s'' =>FlP X B Hc sc env Mu s (.next g') .next s'') hG S' F' hs r fun s'' N =>⟨rfl,nx_of e N⟩
  refine wpAny_assign_Tuple hA.hh ht (by rw [l1]; simp) l2 fun h' he =>?_
  have k0:=pushed_kp he
  exact (asgs_ok hG (S'.kp k0) (F'.kp k0) hs (r.kp k0) fun s'' N =>⟨rfl,nx_of (e.trans (Ext.of_kp k0)) N⟩).2.2
 ·rw [hx] at hnm; exact nS hnm
theorem tupVal_ok (hX : X.p [] = X) (hG : GOk2 X G N) (hA : Room A (N + n)) {ts : List Expr} {e : Expr} {v : V} {k : Nat} {tp pos : Pos} (S : St X sc env H Mu g s) (F : Fm X B Hc H Mu env s) (hv : ev n G sc g e = some v) (hne : ∀ es k p,e ≠ .Tuple es k p) (hb : bindT sc (.Tuple ts k tp) v g = some g') :
  wpAny (model X.prog X.w) A (exec (.Assign [.Tuple ts k tp] e pos) env) (fun fl s' =>FlP X B Hc sc env Mu s (.next g') fl s') E s:=by
 refine Assign_Tuple ((sound hG.toGOk n).e _ _ _ _ _ _ _ _ _ _ _ S hA hv fun u s' kp r =>bind_ok hX hA.hh (S.kp kp) (F.kp kp) hb r fun s1 s2 k1 N =>⟨rfl,?_⟩) (by show swapsWith e (some (.Tuple ts k tp)) pos.line env = pure false; cases e <;> rfl) ?_
 ·exact nx_of ((Ext.of_kp kp).trans (Ext.of_kp k1)) N
 ·cases e <;> first | rfl | exact absurd rfl (hne _ _ _)
theorem assign_attr (hX : X.p [] = X) (hG : GOk2 X G N) (hA : Room A (N + n)) {o : Bool} {x f : Str} {px pa pos : Pos} {e : Expr} {av : AV} (S : St X sc env H Mu g s) (F : Fm X B Hc H Mu env s) (h : evR n G sc g o e = some av) (hs : asg G sc (.Attribute (.Name x px) f pa) av g = some g') :
  wpAny (model X.prog X.w) A (exec (.Assign [.Attribute (.Name x px) f pa] e pos) env) (fun fl s' =>FlP X B Hc sc env Mu s (.next g') fl s') E s:=by
 have hv : ∃ v,av = .val v:=by
  cases av with
  | val v =>exact ⟨v,rfl⟩
  | own _ =>exact nomatch (show (Option.none : Option Gam) = some g' from hs)
  | inst _ _ =>exact nomatch (show (Option.none : Option Gam) = some g' from hs)
 refine bc fun hN =>?_
 obtain ⟨v,rfl⟩:=hv
 refine hN ?_; clear hN
 rw [plainObj_exec_Assign_Attribute _ _ _ _ _ swaps_attr]
 refine wpAny_bind (wpAny_standAt (wpAny_bind (evR_ok (P:=[]) hG (hX ▸ S) (hX ▸ F) hA h fun u s' H' Mu' W S' F' ex w nd pd =>?_)))
 refine bc fun hN =>?_
 obtain ⟨r,rfl⟩:=vals_pends (vs:=[v]) pd
 unfold Reps at r
 obtain ⟨u',r',e1,hr,_⟩:=r
 refine hN ?_; clear hN
 cases e1
 refine wpAny_bind (asg_ok hG (hX ▸ S') (hX ▸ F') hs hr fun s'' N =>wpAny_pure ⟨rfl,nx_of ex N⟩)
end
section
variable {X : Gx} {G : Ge} {N n : Nat} {B : Heap} {Hc H Mu : List Addr} {sc : Scope} {env : Env} {g g' : Gam} {s : Shared} {A : Around} {E : Value → Shared → Prop}
theorem told_ok (hG : GOk2 X G N) (hA : Room A (N + n)) {x y o m C : Str} {px py pl po pm pc pd pb pos : Pos} {es : List Expr} {fl fl' : List (Str × V)} {ys zs vs : List V}
  (S : St X sc env H Mu g s) (F : Fm X B Hc H Mu env s) (hx : isSto sc x = true) (hlg : isGlo sc "list" = true) (ho : isLoc sc o = true) (hline : lineOk pm pc = true) (hsz : es.length < 20) (hl : g.lookup o = some (.inst C fl))
  (hy : ev n G sc g (.Name y py) = some (.list ys)) (he : mapO (ev n G sc g) es = some vs) (hm : fl.lookup m = none) (hr : G.mth C m fl vs = some (.list zs,fl')) (hz : ys.length + zs.length ≤ lid) :
  wpAny (model X.prog X.w) A (exec (.Assign [.Name x px] (.BinOp (.Name y py) .Add (.Call (.Name "list" pl) [.Call (.Attribute (.Name o po) m pm) es [] pc] [] pd) pb) pos) env)
   (fun f s' =>FlP X B Hc sc env Mu s (.next (setL x (.val (.list (ys ++ zs))) (setL o (.inst C fl') g))) f s') E s:=by
 have I:=(sound hG.toGOk n).e
 refine wpAny_Assign_Name (wpAny_BinOp (I _ _ _ _ _ _ _ _ _ _ _ S hA hy fun u0 s1 k1 r0 =>?_)) rfl
 have S1:=S.kp k1
 have F1:=F.kp k1
 refine wpAny_Call_Name_kw (load_blt S1 hlg (by decide) ?_)
 have hb : bltVal "list" = .type "list":=by decide
 rw [hb]
 refine callWith_of (P:=fun _ =>True) rfl (fun h _ =>⟨.machine,.inr (.inl rfl),Looks.of_pure rfl⟩) ?_
 refine evalArgs_plain (x:=eval (.Call (.Attribute (.Name o po) m pm) es [] pc) env) (rest:=[]) (spliced_cons ?_)
 refine bc fun hN =>?_
 obtain ⟨mm,ad,hn,hd,inj,hside⟩:=id S1.held
 obtain ⟨ix,Ca,ds,k0,a,e2,e3,e4,e5,e6,e7,e8,rf⟩:=hd o _ ho hl
 obtain ⟨f,M,FS⟩:=hG.mth C m fl vs (.list zs) fl' Ca hr e2
 refine hN ?_; clear hN
 have hB0 : X.B0.get? (ad o) = none:=by
  cases e : X.B0.get? (ad o) with
  | none =>rfl
  | some ob =>have:=F.b0 _ _ e; rw [F.mu _ e5] at this; exact nS this
 refine meth_call I hA S1 ho hn a e3 e4 (flds_none rf hm) M hline hsz he fun us s2 k2 r2 =>?_
 have S2:=S1.kp k2
 have F2:=F1.kp k2
 refine FS A s2 H ix (ad o) ds k0 us _ E (hA.mono (by lia)) S2.base S2.ho (k2.keep _ _ e3) (k2.keep _ _ e4) e6 hB0 (rf.mono (.of (hide_keep k2.keep))) r2 fun u h' t es' n' kb hd' rf' ru =>?_
 have N3 : Nw X B Hc sc env H Mu (setL o (.inst C fl') g) s2 { s2 with heap:=h',toks:=t } :=
  upd_inst (t:=t) S2 F2 ho hl (hn.keeps k2.keep) (fun z av hz hzl =>(hd z av hz hzl).keep k2.keep) inj hside hd' (fun b o h1 _ e =>kb b o h1 e) ((hn.keeps k2.keep).at' fun ob e =>kb _ ob e8.symm e) rf'
 refine spliced_nil ⟨trivial,?_⟩
 have hzs : zs.length ≤ lid:=by lia
 refine bltV_ok (f:="list") (vs:=[.list zs]) (r:=.list zs) (n:=N + n) ?_ (.cons ru .nil) N3.1.ho hA fun u3 s4 k4 r4 =>?_
 ·unfold bltV
  rw [if_neg (by decide),if_neg (by decide),if_pos (by decide)]
  exact if_pos hzs
 refine binV_ok (x:=.list ys) (y:=.list zs) (z:=.list (ys ++ zs)) (if_pos hz) (N3.1.ho.kp k4) (((r0.kp k2).mono N3.2.2.2).kp k4) r4 fun u5 s5 k5 r5 =>?_
 have k45:=k4.trans k5
 refine store_val (N3.1.kp k45) (N3.2.1.kp k45) hx r5 fun s6 N6 =>⟨rfl,?_⟩
 refine ⟨H,Mu,N6.1,N6.2.1,?_,fun _ h =>.inl h⟩
 exact ((((Mv.of_kp k1).trans (Mv.of_kp (Mu:=Mu) k2) fun _ h =>.inl h).trans N3.2.2.1 fun _ h =>.inl h).trans (Mv.of_kp (Mu:=Mu) k45) fun _ h =>.inl h).trans N6.2.2.1 fun _ h =>.inl h
end
section
variable {X : Gx} {G : Ge} {N n : Nat} {B : Heap} {Hc H Mu : List Addr} {sc : Scope} {env : Env} {g g' : Gam} {s : Shared} {A : Around} {E : Value → Shared → Prop}
noncomputable def BodyOK (X : Gx) (B : Heap) (Hc : List Addr) (sc : Scope) (env : Env) (A : Around) (ss : List Stmt) (b : Gam → Option Fl) : Prop :=
 ∀ (H Mu : List Addr) (g : Gam) (s : Shared) (E : Value → Shared → Prop) (fl : Fl),St X sc env H Mu g s → Fm X B Hc H Mu env s → b g = some fl → wpAny (model X.prog X.w) A (execs ss env) (fun f s' =>FlP X B Hc sc env Mu s fl f s') E s
noncomputable def RP (X : Gx) (B : Heap) (Hc : List Addr) (sc : Scope) (env : Env) (Mu : List Addr) (s : Shared) (fl : Fl) (A : Around) (E : Value → Shared → Prop) : Result → Shared → Prop:=fun r s' =>match r with
 | .ok f =>FlP X B Hc sc env Mu s fl f s'
 | .error e =>cameBackBy (model X.prog X.w) A env E e s'
theorem while_ok {t : Expr} {b : List Stmt} {bv : Gam → Option Fl} (IT : EvTOK X G N n) (hA : Room A (N + n)) (hb : BodyOK X B Hc sc env A b bv) {k : Nat} {fl : Fl} (S : St X sc env H Mu g s) (F : Fm X B Hc H Mu env s) (h : whileV (evT n G sc · t) bv k g = some fl) :
  codeAny (model X.prog X.w) A (.whileLoop t b [] env) (RP X B Hc sc env Mu s fl A E) s:=by
 refine codeAny_whileLoop (fun k s' =>∃ g',Nx X B Hc sc env Mu g' s s' ∧ whileV (evT n G sc · t) bv k g' = some fl) ?_ k
  ⟨g,⟨H,Mu,S,F,Mv.of_kp (Kp.refl s),fun _ h =>.inl h⟩,h⟩
 rintro k s' ⟨g',⟨H',Mu',S',F',m',hm'⟩,h'⟩
 cases k with
 | zero =>exact nS h'
 | succ k =>
  unfold whileV at h'
  split at h'
  ·rename_i ht
   refine IT _ _ _ _ _ _ _ _ _ _ _ S' hA ht fun s2 k2 =>?_
   rw [if_pos rfl]
   have m2 : Mv Mu s s2:=m'.trans (Mv.of_kp (Mu:=Mu') k2) hm'
   have hm2 : ∀ a ∈ Mu',a ∈ Mu ∨ s.heap.get? a = none:=hm'
   split at h'
   ·rename_i g2 hg2
    refine wpAny_mono (hb _ _ _ _ _ _ (S'.kp k2) (F'.kp k2) hg2) (fun f s3 hf =>?_) fun _ _ e =>e
    refine bc fun hN =>?_
    obtain ⟨rfl,nx⟩:=hf
    refine hN ?_; clear hN
    exact ⟨k,Nat.lt_succ_self _,g2,nx.trans m2 hm2,h'⟩
   ·rename_i g2 hg2
    obtain rfl:=Option.some.inj h'
    refine wpAny_mono (hb _ _ _ _ _ _ (S'.kp k2) (F'.kp k2) hg2) (fun f s3 hf =>?_) fun _ _ e =>e
    refine bc fun hN =>?_
    obtain ⟨rfl,nx⟩:=hf
    refine hN ?_; clear hN
    exact ⟨rfl,nx.trans m2 hm2⟩
   ·rename_i v g2 hg2
    obtain rfl:=Option.some.inj h'
    refine wpAny_mono (hb _ _ _ _ _ _ (S'.kp k2) (F'.kp k2) hg2) (fun f s3 hf =>?_) fun _ _ e =>e
    have hr:=FlP.trans m2 hm2 hf
    refine bc fun hN =>?_
    obtain ⟨u,Mu3,rfl,r1,r2,r3,r4⟩:=hr
    refine hN ?_; clear hN
    exact ⟨u,Mu3,rfl,r1,r2,r3,r4⟩
   ·exact nS h'
  ·rename_i ht
   obtain rfl:=Option.some.inj h'
   refine IT _ _ _ _ _ _ _ _ _ _ _ S' hA ht fun s2 k2 =>?_
   rw [if_neg (by decide)]
   refine wpAny_execs_nil ⟨rfl,H',Mu',S'.kp k2,F'.kp k2,m'.trans (Mv.of_kp (Mu:=Mu') k2) hm',hm'⟩
  ·exact nS h'
noncomputable def TurnOK (X : Gx) (B : Heap) (Hc : List Addr) (sc : Scope) (env : Env) (A : Around) (tgt : Expr) (I : Addr) (wr : List Addr) (T : Nat → Heap → Prop) (xs : List V) (bind : V → Gam → Option Gam) (Ok : List Addr → List Addr → Shared → Prop) : Prop :=
 ∀ (i : Nat) (H Mu : List Addr) (g g' : Gam) (s : Shared) (E : Value → Shared → Prop) (Q : Shared → Prop) (hi : i < xs.length),T i s.heap → St X sc env H Mu g s → Fm X B Hc H Mu env s → Ok H Mu s → bind xs[i] g = some g' →
  (∀ s',St X sc env H Mu g' s' → Fm X B Hc H Mu env s' → Mv (wr ++ Mu) s s' → T (i + 1) s'.heap → Q s') →
  wpAny (model X.prog X.w) A (pyNext (.ref I)) (fun r s₁ =>∃ v,r = some v ∧ wpAny (model X.prog X.w) A (letOwnedTupleGo tgt (.ref I) v) (fun _ s₂ =>wpAny (model X.prog X.w) A (assign tgt env v) (fun _ s₃ =>Q s₃) E s₂) E s₁) E s
noncomputable def DoneOK (X : Gx) (B : Heap) (Hc : List Addr) (sc : Scope) (env : Env) (A : Around) (I : Addr) (wr : List Addr) (T : Nat → Heap → Prop) (xs : List V) (Ok : List Addr → List Addr → Shared → Prop) : Prop :=
 ∀ (H Mu : List Addr) (g : Gam) (s : Shared) (E : Value → Shared → Prop) (Q : Shared → Prop),T xs.length s.heap → St X sc env H Mu g s → Fm X B Hc H Mu env s → Ok H Mu s →
  (∀ s',St X sc env H Mu g s' → Fm X B Hc H Mu env s' → Mv (wr ++ Mu) s s' → Q s') → wpAny (model X.prog X.w) A (pyNext (.ref I)) (fun r s₁ =>r = none ∧ Q s₁) E s
inductive FI (X : Gx) (B : Heap) (Hc : List Addr) (sc : Scope) (env : Env) (wr Mu : List Addr) (T : Nat → Heap → Prop) (xs : List V) (bind : V → Gam → Option Gam) (bv : Gam → Option Fl) (fl : Fl) (s₂ : Shared) (k : Nat) (s' : Shared) : Prop
 | mk (i : Nat) (H' Mu' : List Addr) (g' : Gam) (hi : i ≤ xs.length) (e : k = xs.length - i) (S : St X sc env H' Mu' g' s') (F : Fm X B Hc H' Mu' env s') (hT : T i s'.heap) (m : Mv (wr ++ Mu) s₂ s') (hm : ∀ a ∈ Mu',a ∈ Mu ∨ s₂.heap.get? a = none) (h : forV bind bv (xs.drop i) g' = some fl) : FI X B Hc sc env wr Mu T xs bind bv fl s₂ k s'
theorem for_core {tgt : Expr} {I : Addr} {fp wr : List Addr} {T : Nat → Heap → Prop} {xs : List V} {bind : V → Gam → Option Gam} {b : List Stmt} {bv : Gam → Option Fl} {Ok : List Addr → List Addr → Shared → Prop} {s₂ : Shared} {fl : Fl} (hb : BodyOK X B Hc sc env A b bv)
  (hlive : ∀ i h,T i h → ∀ a ∈ wr,∃ o,h.get? a = some o) (turn : TurnOK X B Hc sc env A tgt I wr T xs bind Ok) (done : DoneOK X B Hc sc env A I wr T xs Ok) (hsub : ∀ a ∈ wr,a ∈ fp) (frame : ∀ i h h',T i h → (∀ a ∈ fp,∀ o,h.get? a = some o → h'.get? a = some o) → T i h')
  (S : St X sc env H Mu g s₂) (F : Fm X B Hc H Mu env s₂) (k : Kp s s₂) (hM : ∀ a ∈ Mu,∃ o,s.heap.get? a = some o) (hfp : ∀ a ∈ fp,a ∉ Mu ∧ ∃ o,s₂.heap.get? a = some o) (hwr : ∀ a ∈ wr,s.heap.get? a = none) (hT : T 0 s₂.heap)
  (hok : ∀ H' Mu' s',Mv (wr ++ Mu) s₂ s' → Fm X B Hc H' Mu' env s' → (∀ a ∈ Mu',a ∈ Mu ∨ s₂.heap.get? a = none) → (∀ a ∈ Mu',a ∉ fp) → Ok H' Mu' s')
  (h : forV bind bv xs g = some fl) : codeAny (model X.prog X.w) A (.forLoop tgt (.ref I) b [] env) (RP X B Hc sc env Mu s fl A E) s₂:=by
 have toS : ∀ {s' : Shared},Mv (wr ++ Mu) s₂ s' → Mv Mu s s':=fun {s'} m =>by
  obtain ⟨h1,t1,rfl,k1⟩:=k
  obtain ⟨h2,t2,rfl,k2⟩:=m
  refine ⟨h2,t2,rfl,fun a o ha e =>k2 a o (fun hm =>?_) (k1 a o e)⟩
  rcases List.mem_append.mp hm with hm | hm
  ·rw [hwr a hm] at e; exact nS e
  ·exact ha hm
 have freshS : ∀ {Mu' : List Addr},(∀ a ∈ Mu',a ∈ Mu ∨ s₂.heap.get? a = none) → ∀ a ∈ Mu',a ∈ Mu ∨ s.heap.get? a = none:=fun hm a ha =>by
  rcases hm a ha with h | h
  ·exact .inl h
  ·exact .inr (get_none_of_kp k h)
 refine codeAny_forLoop_any (FI X B Hc sc env wr Mu T xs bind bv fl s₂) ?_ xs.length
  ⟨0,H,Mu,g,Nat.zero_le _,by lia,S,F,hT,Mv.of_kp (Kp.refl _),fun _ h =>.inl h,by simpa using h⟩
 rintro q s' ⟨i,H',Mu',g',hi,rfl,S',F',hT',m',hm',h'⟩
 have hdis : ∀ a ∈ Mu',a ∉ fp:=fun a ha hf =>by
  rcases hm' a ha with h | h
  ·exact (hfp a hf).1 h
  ·obtain ⟨o,e⟩:=(hfp a hf).2
   rw [h] at e; exact nS e
 have ok':=hok H' Mu' s' m' F' hm' hdis
 rcases Nat.lt_or_ge i xs.length with hlt | hge
 ·rw [List.drop_eq_getElem_cons hlt] at h'
  unfold forV at h'
  split at h'
  ·rename_i g1 hg1
   refine wpAny_mono (turn i H' Mu' g' g1 s' _ (fun s3 =>wpAny (model X.prog X.w) A (execs b env) (fun f s₃ =>match f with
      | .next | .cont =>∃ m,m < xs.length - i ∧ FI X B Hc sc env wr Mu T xs bind bv fl s₂ m s₃
      | .brk =>RP X B Hc sc env Mu s fl A E (.ok .next) s₃
      | .ret v =>RP X B Hc sc env Mu s fl A E (.ok (.ret v)) s₃) (notedBy (model X.prog X.w) A env fun e s' =>RP X B Hc sc env Mu s fl A E (.error e) s') s3) hlt hT' S' F' ok' hg1 fun s3 S3 F3 m3 hT3 =>?_) (fun r s1 h1 =>?_) fun _ _ e =>e
   ·have m23 : Mv (wr ++ Mu) s₂ s3:=m'.trans m3 fun a ha =>by
     rcases List.mem_append.mp ha with h | h
     ·exact .inl (List.mem_append_left _ h)
     ·rcases hm' a h with h | h
      ·exact .inl (List.mem_append_right _ h)
      ·exact .inr h
    have hm23 : ∀ a ∈ Mu',a ∈ wr ++ Mu ∨ s₂.heap.get? a = none:=fun a ha =>by
     rcases hm' a ha with h | h
     ·exact .inl (List.mem_append_right _ h)
     ·exact .inr h
    have keepT : ∀ {s4 : Shared},Mv Mu' s3 s4 → T (i + 1) s4.heap:=fun {s4} m4 =>frame _ _ _ hT3 fun a ha o e =>m4.keep a o (fun hm =>hdis a hm ha) e
    split at h'
    ·rename_i g2 hg2
     refine wpAny_mono (hb _ _ _ _ _ _ S3 F3 hg2) (fun f s4 hf =>?_) fun _ _ e =>e
     refine bc fun hN =>?_
     obtain ⟨rfl,H4,Mu4,S4,F4,m4,hm4⟩:=hf
     refine hN ?_; clear hN
     refine ⟨xs.length - (i + 1),by lia,i + 1,H4,Mu4,g2,hlt,rfl,S4,F4,keepT m4,m23.trans m4 hm23,fun a ha =>?_,h'⟩
     rcases hm4 a ha with h | h
     ·exact hm' a h
     ·by_cases hx : a ∈ wr ++ Mu
      ·rcases List.mem_append.mp hx with hx | hx
       ·exfalso
        refine bc fun hN =>?_
        obtain ⟨o',e'⟩:=hlive _ _ hT3 a hx
        refine hN ?_; clear hN
        rw [h] at e'; exact nS e'
       ·exact .inl hx
      ·cases e : s₂.heap.get? a with
       | none =>exact .inr rfl
       | some o =>rw [m23.keep a o hx e] at h; cases h
    ·rename_i g2 hg2
     obtain rfl:=Option.some.inj h'
     refine wpAny_mono (hb _ _ _ _ _ _ S3 F3 hg2) (fun f s4 hf =>?_) fun _ _ e =>e
     refine bc fun hN =>?_
     obtain ⟨rfl,nx⟩:=hf
     refine hN ?_; clear hN
     exact ⟨rfl,nx.trans (toS m23) (freshS hm')⟩
    ·rename_i v g2 hg2
     obtain rfl:=Option.some.inj h'
     refine wpAny_mono (hb _ _ _ _ _ _ S3 F3 hg2) (fun f s4 hf =>?_) fun _ _ e =>e
     refine bc fun hN =>?_
     obtain ⟨u,Mu3,rfl,r1,r2,r3,r4⟩:=FlP.trans (toS m23) (freshS hm') hf
     refine hN ?_; clear hN
     exact ⟨u,Mu3,rfl,r1,r2,r3,r4⟩
    ·exact nS h'
   ·obtain ⟨v,rfl,h1⟩:=h1
    exact h1
  ·exact nS h'
 ·have hie : i = xs.length:=Nat.le_antisymm hi hge
  subst hie
  rw [List.drop_length] at h'
  simp only [forV,Option.some.injEq] at h'; subst h'
  refine wpAny_mono (done H' Mu' g' s' _ (fun s3 =>wpAny (model X.prog X.w) A (execs [] env) (fun f s₃ =>RP X B Hc sc env Mu s (.next g') A E (.ok f) s₃) (notedBy (model X.prog X.w) A env fun e s' =>RP X B Hc sc env Mu s (.next g') A E (.error e) s') s3) hT' S' F' ok' fun s3 S3 F3 m3 =>?_) (fun r s1 h1 =>?_) fun _ _ e =>e
  ·refine wpAny_execs_nil ⟨rfl,H',Mu',S3,F3,?_,freshS hm'⟩
   exact toS (m'.trans m3 fun a ha =>by
     rcases List.mem_append.mp ha with h | h
     ·exact .inl (List.mem_append_left _ h)
     ·rcases hm' a h with h | h
      ·exact .inl (List.mem_append_right _ h)
      ·exact .inr h)
  ·obtain ⟨rfl,h1⟩:=h1
   exact h1
end
section
variable {X : Gx} {G : Ge} {N n : Nat} {B : Heap} {Hc H Mu : List Addr} {sc : Scope} {env : Env} {g g' : Gam} {s : Shared} {A : Around} {E : Value → Shared → Prop}
theorem Mv.left {wr Mu : List Addr} {s s' : Shared} (m : Mv Mu s s') : Mv (wr ++ Mu) s s':=by
 obtain ⟨h,t,rfl,k⟩:=m
 exact ⟨h,t,rfl,fun b o hb e =>k b o (fun hm =>hb (List.mem_append_right _ hm)) e⟩
theorem Mv.step {wr Mu : List Addr} {s s' s'' : Shared} (a : Mv (wr ++ Mu) s s') (b : Mv (wr ++ Mu) s' s'') : Mv (wr ++ Mu) s s'':=a.trans b fun _ h =>.inl h
theorem walk_turn (hX : X.p [] = X) (hh : A.handled = none) {tgt : Expr} {I : Addr} {fp wr : List Addr} {P : Nat → Value → Prop} {T : Nat → Heap → Prop} {xs : List V} {s₁ : Shared} (W : Walks X.prog X.w A I fp wr xs.length P T) (F1 : Fm X B Hc H Mu env s₁) (hw : ∀ b ∈ wr,s₁.heap.get? b = none)
  (hP : ∀ i u,P i u → ∃ x,xs[i]? = some x ∧ Rep (hideAll s₁.heap H) x u) (hns : ∀ (i : Nat) (h : Heap),T i h → ∀ b ∈ wr,(∃ o,h.get? b = some o) ∧ ∀ o,h.get? b = some o → ¬ IsSeq o ∧ o.data ≠ .plain)
  (hgo : ∀ (i : Nat) (u : Value) (s' : Shared) (tgt : Expr) (Q : Unit → Shared → Prop) (E : Value → Shared → Prop),T (i + 1) s'.heap → Q () s' → wpAny (model X.prog X.w) A (letOwnedTupleGo tgt (.ref I) u) Q E s') :
  TurnOK X B Hc sc env A tgt I wr T xs (bindT sc tgt) (fun H' Mu' s' =>SeqKeep (hideAll s₁.heap H) (hideAll s'.heap H') ∧ ∀ a ∈ Mu',a ∉ fp) ∧
  DoneOK X B Hc sc env A I wr T xs (fun H' Mu' s' =>SeqKeep (hideAll s₁.heap H) (hideAll s'.heap H') ∧ ∀ a ∈ Mu',a ∉ fp):=by
 have hB : ∀ a o,B.get? a = some o → a ∉ wr:=fun a o e hm =>by have:=F1.keep a o e; rw [hw a hm] at this; exact nS this
 constructor
 ·intro i H' Mu' g g' s' E Q hi hT S F hok hb q
  refine W.item i s' _ _ hi hT fun v h' tk hPv hT1 kb =>⟨v,rfl,?_⟩
  refine bc fun hN =>?_
  obtain ⟨S1,F',kr⟩:=S.irrP (c:=fun b =>b ∈ wr) (t:=tk) F kb (fun a ha hm =>hok.2 a ha (W.sub a hm)) hB fun a o hm e =>(hns i _ hT a hm).2 o e
  obtain ⟨x,ex,rx⟩:=hP i v hPv
  refine hN ?_; clear hN
  rw [List.getElem?_eq_getElem hi] at ex; obtain rfl:=Option.some.inj ex
  refine hgo i v { s' with heap:=h',toks:=tk } tgt _ _ hT1 ?_
  refine bind_ok hX hh S1 F' hb ((rx.mono hok.1).mono kr) fun s2 s3 k2 N =>q s3 N.1 N.2.1 ?_ ?_
  ·have m0 : Mv (wr ++ Mu') s' { s' with heap:=h',toks:=tk }:=⟨h',tk,rfl,fun b o hb e =>kb b o (fun hm =>hb (List.mem_append_left _ hm)) e⟩
   exact (m0.step (Mv.of_kp k2)).step N.2.2.1.left
  ·exact W.frame _ _ _ hT1 fun b hb o e =>N.2.2.1.keep b o (fun hm =>hok.2 b hm hb) (k2.keep b o e)
 ·intro H' Mu' g s' E Q hT S F hok q
  refine W.done s' _ _ hT fun h' tk kb =>⟨rfl,?_⟩
  refine bc fun hN =>?_
  obtain ⟨S1,F',kr⟩:=S.irrP (c:=fun b =>b ∈ wr) (t:=tk) F kb (fun a ha hm =>hok.2 a ha (W.sub a hm)) hB fun a o hm e =>(hns _ _ hT a hm).2 o e
  refine hN ?_; clear hN
  exact q _ S1 F' ⟨h',tk,rfl,fun b o hb e =>kb b o (fun hm =>hb (List.mem_append_left _ hm)) e⟩
theorem for_ok (hX : X.p [] = X) (hG : GOk2 X G N) (hA : Room A (N + n)) {tgt it : Expr} {b : List Stmt} {pos : Pos} {bv : Gam → Option Fl} {xs : List V} {fl : Fl} (hb : BodyOK X B Hc sc env A b bv) (S : St X sc env H Mu g s) (F : Fm X B Hc H Mu env s)
  (hi : evI n G sc g it = some xs) (h : forV (bindT sc tgt) bv xs g = some fl) : wpAny (model X.prog X.w) A (exec (.For tgt it b [] pos) env) (fun f s' =>FlP X B Hc sc env Mu s fl f s') E s:=by
 refine wpAny_For ((sound hG.toGOk n).i _ _ _ _ _ _ _ _ _ _ _ S hA hi fun itv s₁ s₂ k1 k2 IT =>?_) (folded_of hi)
 refine bc fun hN =>?_
 obtain ⟨I,fp,wr,P,T,rfl,W,hT0,hw,hfp,hP,hns,hgo⟩:=IT
 refine hN ?_; clear hN
 have S1:=S.kp k1
 have F1:=F.kp k1
 obtain ⟨turn,done⟩:=walk_turn hX hA.hh (tgt:=tgt) W F1 (fun b hb =>(hw b hb).1) hP hns hgo
 have live1 : ∀ a ∈ Mu,∃ o,s.heap.get? a = some o:=F.live
 refine for_core hb (fun i h hT a ha =>(hns i h hT a ha).1) turn done W.sub (fun i h h' hT hk =>W.frame i h h' hT hk) (S1.kp k2) (F1.kp k2) (k1.trans k2) live1 (fun a ha =>?_) (fun a ha =>get_none_of_kp k1 (hw a ha).1) hT0 (fun H' Mu' s' m F' hm hd =>⟨?_,hd⟩) h
 ·rcases hfp a ha with h1 | ⟨o,h1,h2,h3⟩
  ·refine ⟨fun hm =>?_,?_⟩
   ·obtain ⟨o,e⟩:=F1.live a hm
    rw [h1.2.1] at e; exact nS e
   ·exact (hns 0 _ hT0 a h1.1).1
  ·exact ⟨fun hm =>F1.ns a hm h2 o h1 h3,o,k2.keep a o h1⟩
 ·refine F1.seqKeep F' ?_ fun a ha =>?_
  ·obtain ⟨h1,t1,rfl,kk⟩:=k2
   obtain ⟨h2,t2,rfl,kk2⟩:=m
   refine ⟨h2,t2,rfl,fun a o ha e =>kk2 a o (fun hm =>?_) (kk a o e)⟩
   rcases List.mem_append.mp hm with hm | hm
   ·rw [(hw a hm).1] at e; exact nS e
   ·exact ha hm
  ·rcases hm a ha with h | h
   ·exact .inl h
   ·exact .inr (get_none_of_kp k2 h)
end
theorem enumL_length : ∀ (xs : List V) (k : Nat),(enumL k xs).length = xs.length
 | [],_ =>rfl
 | _ :: r,k =>congrArg Nat.succ (enumL_length r (k + 1))
theorem enumL_get : ∀ (xs : List V) (k i : Nat) (h : i < (enumL k xs).length) (h' : i < xs.length),(enumL k xs)[i] = .tup [.int ((k + i : Nat) : Int),xs[i]]
 | [],_,_,_,h' =>by simp at h'
 | x :: r,k,0,_,_ =>rfl
 | x :: r,k,i + 1,h,h' =>by
  refine (enumL_get r (k + 1) i (Nat.lt_of_succ_lt_succ h) (Nat.lt_of_succ_lt_succ h')).trans ?_
  rw [Nat.add_right_comm]; rfl
section
variable {X : Gx} {G : Ge} {N n : Nat} {B : Heap} {Hc H Mu : List Addr} {sc : Scope} {env : Env} {g g' : Gam} {s : Shared} {A : Around} {E : Value → Shared → Prop}
noncomputable def EnT (Ea It l : Addr) (us : List Value) (i : Nat) (h : Heap) : Prop:=∃ old,IsEnum h Ea It (i : Int) old ∧ h.IsListIter It l i ∧ h.IsList l us.toArray
theorem enum_turn (hX : X.p [] = X) (hh : A.handled = none) {ts : List Expr} {k0 : Nat} {tp : Pos} {Ea It l : Addr} {xs : List V} {us : List Value} {s₁ : Shared} (hEI : Ea ≠ It) (hEl : l ≠ Ea) (hIl : l ≠ It) (F1 : Fm X B Hc H Mu env s₁) (hw : ∀ b ∈ [Ea,It],s₁.heap.get? b = none)
  (hr : Reps (hideAll s₁.heap H) xs us) :
  TurnOK X B Hc sc env A (.Tuple ts k0 tp) Ea [Ea,It] (EnT Ea It l us) (enumL 0 xs) (bindT sc (.Tuple ts k0 tp)) (fun H' Mu' s' =>SeqKeep (hideAll s₁.heap H) (hideAll s'.heap H') ∧ ∀ a ∈ Mu',a ∉ [Ea,It,l]) ∧
  DoneOK X B Hc sc env A Ea [Ea,It] (EnT Ea It l us) (enumL 0 xs) (fun H' Mu' s' =>SeqKeep (hideAll s₁.heap H) (hideAll s'.heap H') ∧ ∀ a ∈ Mu',a ∉ [Ea,It,l]):=by
 have hB : ∀ a o,B.get? a = some o → a ∉ [Ea,It]:=fun a o e hm =>by have:=F1.keep a o e; rw [hw a hm] at this; exact nS this
 have sub : ∀ b ∈ [Ea,It],b ∈ [Ea,It,l]:=fun b hb =>by simp at hb ⊢; rcases hb with h | h <;> simp [h]
 have hc : ∀ {i : Nat} {h : Heap},EnT Ea It l us i h → ∀ a o,a ∈ [Ea,It] → h.get? a = some o → ¬ IsSeq o ∧ o.data ≠ .plain:=fun {i h} ⟨old,he,⟨o',ho',_,hd'⟩,_⟩ a o hm e =>by
  simp only [List.mem_cons,List.mem_nil_iff,or_false] at hm
  rcases hm with rfl | rfl
  ·have he' : h.get? _ = some _:=he
   rw [e] at he'; obtain rfl:=Option.some.inj he'
   exact ⟨fun ⟨_,_,hq⟩ =>(by cases hq),fun hq =>by cases hq⟩
  ·rw [e] at ho'; obtain rfl:=Option.some.inj ho'
   exact ⟨fun ⟨_,_,hq⟩ =>(by rw [hd'] at hq; cases hq),fun hq =>by rw [hd'] at hq; cases hq⟩
 have hlen:=hr.length
 constructor
 ·intro i H' Mu' g g' s' E Q hi hT S F hok hb q
  have hi' : i < xs.length:=by rw [enumL_length] at hi; exact hi
  refine bc fun hN =>?_
  obtain ⟨old,he,hit,hl⟩:=id hT
  refine hN ?_; clear hN
  have hiu : i < us.length:=by lia
  have hx : us.toArray[i]? = some us[i]:=by simp [hiu]
  obtain ⟨x,ex,rx⟩ : ∃ x,xs[i]? = some x ∧ Rep (hideAll s₁.heap H) x us[i]:=by
   refine bc fun hN =>?_
   obtain ⟨v,e1,rv⟩:=hr.get (List.getElem?_eq_getElem hi')
   refine hN ?_; clear hN
   rw [List.getElem?_eq_getElem hiu] at e1; obtain rfl:=Option.some.inj e1
   exact ⟨_,List.getElem?_eq_getElem hi',rv⟩
  rw [List.getElem?_eq_getElem hi'] at ex; obtain rfl:=Option.some.inj ex
  simp only [enumL_get xs 0 i hi hi',Nat.zero_add] at hb
  refine wpAny_pyNext_enum_item he hit hl hx hEI fun h1 heo hit1 ht1 hz1 hk1 =>⟨_,rfl,?_⟩
  refine wpAny_letOwnedTupleGo_enum heo fun h2 he2 hs2 =>?_
  have hs2' : Heap.SameBut Ea h1 h2:=hs2
  have kb : ∀ b o,b ∉ [Ea,It] → s'.heap.get? b = some o → h2.get? b = some o:=fun b o hb e =>by
   simp only [List.mem_cons,List.mem_nil_iff,or_false,not_or] at hb
   exact hs2'.extBut b o hb.1 (hk1 b o hb.1 hb.2 e)
  refine bc fun hN =>?_
  obtain ⟨S1,F',kr⟩:=S.irrP (c:=fun b =>b ∈ [Ea,It]) (h':=h2) (t:=s'.toks + 1) F kb (fun a ha hm =>hok.2 a ha (sub a hm)) hB fun a o hm e =>hc hT a o hm e
  refine hN ?_; clear hN
  have hEsz : Ea ≠ s'.heap.objs.size:=Nat.ne_of_lt (Heap.lt_size he)
  have ht2 : h2.get? s'.heap.objs.size = some { cls:=.type "tuple",data:=.seq #[.int i s'.toks,us[i]] }:=hs2'.extBut _ _ hEsz.symm ht1
  have hnH : s'.heap.objs.size ∉ H':=S.ho.fresh
  have rt : Rep (hideAll h2 H') (.tup [.int (i : Int),xs[i]]) (.ref s'.heap.objs.size):=by
   unfold Rep
   refine ⟨_,[.int i s'.toks,us[i]],rfl,⟨_,hideAll_get H' ht2 hnH,rfl,_,rfl⟩,.cons (by unfold Rep; exact ⟨_,rfl⟩) (.cons ((rx.mono hok.1).mono kr) .nil)⟩
  refine bind_ok hX hh S1 F' hb rt fun s2 s3 k2 Nn =>q s3 Nn.1 Nn.2.1 ?_ ?_
  ·have m0 : Mv ([Ea,It] ++ Mu') s' { s' with heap:=h2,toks:=s'.toks + 1 }:=⟨h2,_,rfl,fun b o hb e =>kb b o (fun hm =>hb (List.mem_append_left _ hm)) e⟩
   exact (m0.step (Mv.of_kp k2)).step Nn.2.2.1.left
  ·have keepF : ∀ b ∈ [Ea,It,l],∀ o,h2.get? b = some o → s3.heap.get? b = some o:=fun b hb o e =>Nn.2.2.1.keep b o (fun hm =>hok.2 b hm hb) (k2.keep b o e)
   refine ⟨us[i],?_,?_,?_⟩
   ·have : ((i + 1 : Nat) : Int) = (i : Int) + 1:=by push_cast; rfl
    rw [this]; exact keepF Ea (by simp) _ he2
   ·exact (hit1.extBut hs2'.extBut hEI.symm).at fun o e =>keepF It (by simp) o e
   ·exact ((hl.at fun o e =>hk1 l o hEl hIl e).extBut hs2'.extBut hEl).at fun o e =>keepF l (by simp) o e
 ·intro H' Mu' g s' E Q hT S F hok q
  rw [enumL_length] at hT
  refine bc fun hN =>?_
  obtain ⟨old,he,hit,hl⟩:=id hT
  refine hN ?_; clear hN
  refine wpAny_pyNext_enum_end hh he hit hl (by simp [hlen]) fun h' he' =>⟨rfl,?_⟩
  have kb : ∀ b o,b ∉ [Ea,It] → s'.heap.get? b = some o → h'.get? b = some o:=fun b o hb e =>by
   simp only [List.mem_cons,List.mem_nil_iff,or_false,not_or] at hb
   exact he' b o hb.2 e
  refine bc fun hN =>?_
  obtain ⟨S1,F',kr⟩:=S.irrP (c:=fun b =>b ∈ [Ea,It]) (h':=h') (t:=s'.toks) F kb (fun a ha hm =>hok.2 a ha (sub a hm)) hB fun a o hm e =>hc hT a o hm e
  refine hN ?_; clear hN
  exact q _ S1 F' ⟨h',_,rfl,fun b o hb e =>kb b o (fun hm =>hb (List.mem_append_left _ hm)) e⟩
theorem forEnum_ok (hX : X.p [] = X) (hG : GOk2 X G N) (hA : Room A (N + n)) {ts : List Expr} {k0 : Nat} {tp pf pc pos : Pos} {e : Expr} {b : List Stmt} {bv : Gam → Option Fl} {xs : List V} {fl : Fl} (hb : BodyOK X B Hc sc env A b bv) (S : St X sc env H Mu g s) (F : Fm X B Hc H Mu env s)
  (hf : isGlo sc "enumerate" = true) (he : ev n G sc g e = some (.list xs)) (h : forV (bindT sc (.Tuple ts k0 tp)) bv (enumL 0 xs) g = some fl) :
  wpAny (model X.prog X.w) A (exec (.For (.Tuple ts k0 tp) (.Call (.Name "enumerate" pf) [e] [] pc) b [] pos) env) (fun f s' =>FlP X B Hc sc env Mu s fl f s') E s:=by
 refine wpAny_For ?_
 refine wpAny_Call_Name_kw (load_blt S hf (by decide) ?_)
 have hbv : bltVal "enumerate" = .type "enumerate":=by decide
 rw [hbv]
 refine callWith_of (P:=fun _ =>True) (by rw [starEach_plain he]; rfl) (fun h _ =>⟨.machine,.inr (.inl rfl),Looks.of_pure rfl⟩) ?_
 rw [starEach_plain he]
 refine evalArgs_plain (x:=eval e env) (rest:=[]) (spliced_cons ((sound hG.toGOk n).e _ _ _ _ _ _ _ _ _ _ _ S hA he fun u s₁ k1 r =>spliced_nil ⟨trivial,?_⟩))
 unfold Rep at r
 refine bc fun hN =>?_
 obtain ⟨l,us,rfl,hl,hr⟩:=r
 obtain ⟨ol,hol,hcl,nl,hdl⟩:=id hl
 refine hN ?_; clear hN
 have hll:=Heap.lt_size (of_hideAll H hol)
 refine call_enumerate_list (unhide_list hl) fun h' hE hI hsz hk =>?_
 refine wpAny_pyIter_enum hE ?_
 have S1:=S.kp k1
 have F1:=F.kp k1
 have k2 : Kp s₁ { s₁ with heap:=h' }:=Kp.mk' (t:=s₁.toks) hk
 have hw : ∀ b ∈ [s₁.heap.objs.size + 1,s₁.heap.objs.size],s₁.heap.get? b = none:=fun b hb =>by
  cases e : s₁.heap.get? b with
  | none =>rfl
  | some o =>
   have:=Heap.lt_size e
   simp only [List.mem_cons,List.mem_nil_iff,or_false] at hb
   rcases hb with rfl | rfl
   ·exact absurd this (Nat.not_lt.mpr (Nat.le_succ _))
   ·exact absurd this (Nat.lt_irrefl _)
 have n1 : l ≠ s₁.heap.objs.size + 1:=Nat.ne_of_lt (Nat.lt_succ_of_lt hll)
 have n2 : l ≠ s₁.heap.objs.size:=Nat.ne_of_lt hll
 refine bc fun hN =>?_
 obtain ⟨turn,done⟩:=enum_turn (ts:=ts) (k0:=k0) (tp:=tp) (A:=A) (l:=l) (sc:=sc) hX hA.hh (Nat.succ_ne_self _) n1 n2 F1 hw hr
 refine hN ?_; clear hN
 have hlive : ∀ i h,EnT (s₁.heap.objs.size + 1) s₁.heap.objs.size l us i h → ∀ a ∈ [s₁.heap.objs.size + 1,s₁.heap.objs.size],∃ o,h.get? a = some o:=fun i h ⟨old,he,⟨o',ho',_⟩,_⟩ a ha =>by
  simp only [List.mem_cons,List.mem_nil_iff,or_false] at ha
  rcases ha with rfl | rfl
  ·exact ⟨_,he⟩
  ·exact ⟨_,ho'⟩
 have hT0 : EnT (s₁.heap.objs.size + 1) s₁.heap.objs.size l us 0 h':=⟨.none,hE,hI,(unhide_list hl).at fun o e =>hk l o e⟩
 refine for_core (fp:=[s₁.heap.objs.size + 1,s₁.heap.objs.size,l]) hb hlive turn done (fun a ha =>by simp at ha ⊢; rcases ha with h | h <;> simp [h]) (fun i h h2 ⟨old,a1,a2,a3⟩ hk =>⟨old,hk _ (by simp) _ a1,a2.at fun o e =>hk _ (by simp) o e,a3.at fun o e =>hk _ (by simp) o e⟩)
  (S1.kp k2) (F1.kp k2) (k1.trans k2) F.live (fun a ha =>?_) (fun a ha =>get_none_of_kp k1 (hw a ha)) hT0 (fun H' Mu' s' m F' hm hd =>⟨?_,hd⟩) h
 ·by_cases hal : a = l
  ·subst hal
   exact ⟨fun hm =>F1.ns _ hm (hide_off hol) ol (of_hideAll H hol) ⟨_,_,hdl⟩,ol,hk _ ol (of_hideAll H hol)⟩
  ·have ha' : a ∈ [s₁.heap.objs.size + 1,s₁.heap.objs.size]:=by simp at ha ⊢; rcases ha with h | h | h <;> simp_all
   refine ⟨fun hm =>?_,hlive 0 _ hT0 a ha'⟩
   refine bc fun hN =>?_
   obtain ⟨o,e⟩:=F1.live a hm
   refine hN ?_; clear hN
   rw [hw a ha'] at e; exact nS e
 ·refine F1.seqKeep F' ?_ fun a ha =>?_
  ·refine bc fun hN =>?_
   obtain ⟨h2,t2,rfl,kk2⟩:=m
   refine hN ?_; clear hN
   refine ⟨h2,t2,rfl,fun a o ha e =>kk2 a o (fun hm =>?_) (hk a o e)⟩
   rcases List.mem_append.mp hm with hm | hm
   ·rw [hw a hm] at e; exact nS e
   ·exact ha hm
  ·rcases hm a ha with h | h
   ·exact .inl h
   ·exact .inr (get_none_of_kp k2 h)
end
noncomputable def thawA : AV → AV
 | .own xs =>.val (.list xs)
 | a =>a
theorem thaw_lookup (x : Str) : ∀ (g : Gam),(thaw g).lookup x = (g.lookup x).map thawA
 | [] =>rfl
 | (y,.own xs) :: r =>by
  rw [thO,List.lookup_cons,List.lookup_cons]
  cases x == y
  ·exact thaw_lookup x r
  ·rfl
 | (y,.val v) :: r =>by
  rw [thV,List.lookup_cons,List.lookup_cons]
  cases x == y
  ·exact thaw_lookup x r
  ·rfl
 | (y,.inst C fl) :: r =>by
  rw [thI,List.lookup_cons,List.lookup_cons]
  cases x == y
  ·exact thaw_lookup x r
  ·rfl
section
variable {X : Gx} {G : Ge} {N n : Nat} {B : Heap} {Hc H Mu : List Addr} {sc : Scope} {env : Env} {g g' : Gam} {s : Shared} {A : Around} {E : Value → Shared → Prop}
theorem St.thaw (S : St X sc env H Mu g s) (F : Fm X B Hc H Mu env s) : St X sc env Hc Mu (thaw g) s:=by
 refine bc fun hN =>?_
 obtain ⟨m,ad,hn,hd,inj,h1,h2⟩:=S.held
 refine hN ?_; clear hN
 have kr : SeqKeep (hideAll s.heap H) (hideAll s.heap Hc):=.of (hide_sub F.hc)
 have core : ∀ y,isCore ((Mine.thaw g).lookup y) → isCore (g.lookup y):=fun y c =>by
  rw [thaw_lookup] at c
  cases e : g.lookup y with
  | none =>rw [e] at c; exact c
  | some av =>
   rw [e] at c
   cases av with
   | val v =>exact c
   | own xs =>exact trivial
   | inst C fl =>exact trivial
 refine ⟨S.base,S.kind,S.glob,S.blt,S.kinds,fun a ha =>S.ho a (F.hc a ha),m,ad,hn,fun x av hx hl =>?_,fun x y hx hy c1 c2 =>inj x y hx hy (core x c1) (core y c2),h1,fun y hy c =>h2 y hy (core y c)⟩
 rw [thaw_lookup] at hl
 refine bc fun hN =>?_
 refine map_el hl fun av0 h0 hEqq2 =>?_
 subst hEqq2
 refine hN ?_; clear hN
 have hh:=hd x av0 hx h0
 cases av0 with
 | val v =>obtain ⟨u,a,r⟩:=hh; exact ⟨u,a,r.mono kr⟩
 | own xs =>
  refine bc fun hN =>?_
  obtain ⟨us,e1,e2,⟨o,ho,e3,e4,e5⟩,e6,e7,r⟩:=hh
  refine hN ?_; clear hN
  refine ⟨.ref (ad x),.inl ⟨e1,e2⟩,?_⟩
  unfold Rep
  refine ⟨ad x,us,rfl,⟨o,hideAll_get Hc ho fun hm =>?_,e3,e5⟩,r.mono kr⟩
  refine bc fun hN =>?_
  obtain ⟨o',ho'⟩:=F.hcb _ hm
  refine hN ?_; clear hN
  rw [F.mu _ e7] at ho'; exact nS ho'
 | inst C fl =>
  refine bc fun hN =>?_
  obtain ⟨ix,Ca,es,k,e1,e2,e3,e4,e5,e6,e7,e8,r⟩:=hh
  refine hN ?_; clear hN
  exact ⟨ix,Ca,es,k,e1,e2,e3,e4,e5,fun hm =>e6 (F.hc _ hm),e7,e8,r.mono kr⟩
noncomputable def ExsOK (X : Gx) (G : Ge) (N n : Nat) : Prop:=∀ (B : Heap) (Hc : List Addr) (sc : Scope) (env : Env) (A : Around) (mu : List Str) (ss : List Stmt),Room A (N + n) → BodyOK X B Hc sc env A ss (exs n G sc mu ss)
noncomputable def ExOK (X : Gx) (G : Ge) (N n : Nat) : Prop:=∀ (B : Heap) (Hc : List Addr) (sc : Scope) (env : Env) (A : Around) (mu : List Str) (st : Stmt),Room A (N + n) →
 ∀ (H Mu : List Addr) (g : Gam) (s : Shared) (E : Value → Shared → Prop) (fl : Fl),St X sc env H Mu g s → Fm X B Hc H Mu env s → ex n G sc mu st g = some fl → wpAny (model X.prog X.w) A (exec st env) (fun f s' =>FlP X B Hc sc env Mu s fl f s') E s
theorem exs_ok (I : ExOK X G N n) (Is : ExsOK X G N n) : ExsOK X G N (n + 1):=by
 intro B Hc sc env A mu ss hA H Mu g s E fl S F h
 unfold exs at h
 split at h
 ·obtain rfl:=Option.some.inj h
  exact wpAny_execs_nil ⟨rfl,H,Mu,S,F,Mv.of_kp (Kp.refl s),fun _ h =>.inl h⟩
 ·rename_i st r
  cases he : ex n G sc mu st g with
  | none =>rw [he] at h; exact nS h
  | some fl1 =>
   rw [he] at h
   refine wpAny_execs_cons (wpAny_mono (I B Hc sc env A mu st hA.up H Mu g s E fl1 S F he) (fun f s' hf =>?_) fun _ _ e =>e)
   cases fl1 with
   | next g1 =>
    refine bc fun hN =>?_
    obtain ⟨rfl,H',Mu',S',F',m',hm'⟩:=hf
    refine hN ?_; clear hN
    exact wpAny_mono (Is B Hc sc env A mu r hA.up H' Mu' g1 s' E fl S' F' h) (fun f s'' h2 =>FlP.trans m' hm' h2) fun _ _ e =>e
   | brk g1 =>obtain rfl:=Option.some.inj h; obtain ⟨rfl,nx⟩:=hf; exact ⟨rfl,nx⟩
   | ret v g1 =>obtain rfl:=Option.some.inj h; obtain ⟨u,Mu',rfl,r1,r2,r3,r4⟩:=hf; exact ⟨u,Mu',rfl,r1,r2,r3,r4⟩
theorem one_arg {es : List Expr} {v : V} (h : mapO (ev n G sc g) es = some [v]) : es.length < 20:=by have:=mapO_len h; simp at this; lia
theorem append_ok (hG : GOk2 X G N) (hA : Room A (N + n)) {x : Str} {px pa p pos : Pos} {es : List Expr} {v : V} {xs : List V} (S : St X sc env H Mu g s) (F : Fm X B Hc H Mu env s) (hx : isLoc sc x = true) (hl : g.lookup x = some (.own xs)) (hline : lineOk pa p = true)
  (e : mapO (ev n G sc g) es = some [v]) (hz : xs.length < lid) : wpAny (model X.prog X.w) A (exec (.Expr (.Call (.Attribute (.Name x px) "append" pa) es [] p) pos) env) (fun f s' =>FlP X B Hc sc env Mu s (.next (setL x (.own (xs ++ [v])) g)) f s') E s:=by
 refine ownMeth_ok (sound hG.toGOk n).e hA S F hx hl hline (one_arg e) e slot_list_append PySem.F.type_list_append fun s' a us ws Q h1 h2 h3 q =>?_
 obtain ⟨u,rfl,hu⟩:=h3.one
 have:=h2.length; have:=lid_le
 exact append_own h1 (by lia) fun h' h4 kb =>q h' _ h4 (h2.append (.cons hu .nil)) kb
theorem extend_ok (hG : GOk2 X G N) (hA : Room A (N + n)) {x : Str} {px pa p pos : Pos} {es : List Expr} {ys : List V} {xs : List V} (S : St X sc env H Mu g s) (F : Fm X B Hc H Mu env s) (hx : isLoc sc x = true) (hl : g.lookup x = some (.own xs)) (hline : lineOk pa p = true)
  (e : mapO (ev n G sc g) es = some [.list ys]) (hz : xs.length + ys.length ≤ lid) : wpAny (model X.prog X.w) A (exec (.Expr (.Call (.Attribute (.Name x px) "extend" pa) es [] p) pos) env) (fun f s' =>FlP X B Hc sc env Mu s (.next (setL x (.own (xs ++ ys)) g)) f s') E s:=by
 refine ownMeth_ok (sound hG.toGOk n).e hA S F hx hl hline (one_arg e) e PySem.F.slot_list_extend PySem.F.type_list_extend fun s' a us ws Q h1 h2 h3 q =>?_
 obtain ⟨u,rfl,hu⟩:=h3.one
 unfold Rep at hu
 obtain ⟨b,ws,rfl,hb,hr⟩:=hu
 have:=h2.length; have:=hr.length; have:=lid_le
 exact extend_own h1 (unhide_list hb) (by lia) fun h' h4 kb =>q h' _ h4 (h2.append hr) kb
theorem reverse_ok (hG : GOk2 X G N) (hA : Room A (N + n)) {x : Str} {px pa p pos : Pos} {es : List Expr} {xs : List V} (S : St X sc env H Mu g s) (F : Fm X B Hc H Mu env s) (hx : isLoc sc x = true) (hl : g.lookup x = some (.own xs)) (hline : lineOk pa p = true)
  (e : mapO (ev n G sc g) es = some []) (hz : xs.length ≤ lid) : wpAny (model X.prog X.w) A (exec (.Expr (.Call (.Attribute (.Name x px) "reverse" pa) es [] p) pos) env) (fun f s' =>FlP X B Hc sc env Mu s (.next (setL x (.own xs.reverse) g)) f s') E s:=by
 refine ownMeth_ok (sound hG.toGOk n).e hA S F hx hl hline (by rw [mapO_nil e]; decide) e PySem.F.slot_list_reverse PySem.F.type_list_reverse fun s' a us ws Q h1 h2 h3 q =>?_
 unfold Reps at h3; subst h3
 have:=h2.length; have:=lid_le
 exact reverse_own h1 (by lia) fun h' h4 kb =>q h' _ h4 h2.reverse kb
end
section
variable {X : Gx} {G : Ge} {N n : Nat} {B : Heap} {Hc H Mu : List Addr} {sc : Scope} {env : Env} {g : Gam} {s : Shared} {A : Around} {E : Value → Shared → Prop}
theorem ex_meth (hG : GOk2 X G N) (hA : Room A (N + n)) (S : St X sc env H Mu g s) (F : Fm X B Hc H Mu env s) {x m : Str} {px pa p q : Pos} {es : List Expr} {xs vs : List V} {fl : Fl} (hx : isLoc sc x = true) (hl : lineOk pa p = true) (hg : g.lookup x = some (.own xs)) (hvs : mapO (ev n G sc g) es = some vs) (h : methK m x g xs vs = some fl) :
  wpAny (model X.prog X.w) A (exec (.Expr (.Call (.Attribute (.Name x px) m pa) es [] p) q) env) (fun f s' =>FlP X B Hc sc env Mu s fl f s') E s:=by
 unfold methK at h
 split at h
 ·rename_i hm
  have:=beq_iff_eq.mp hm
  subst this
  refine bc fun hN =>?_
  refine bind_el h fun v hv h2 =>?_
  refine itep_el h2 fun hz h3 =>?_
  refine hN ?_; clear hN
  obtain rfl:=Option.some.inj h3
  clear h h2
  cases one_some hv
  exact append_ok hG hA S F hx hg hl hvs hz
 ·split at h
  ·rename_i hm
   have:=beq_iff_eq.mp hm
   subst this
   refine bc fun hN =>?_
   refine bind_el h fun v hv h2 =>?_
   refine bind_el h2 fun ys hy h3 =>?_
   refine itep_el h3 fun hz h4 =>?_
   refine hN ?_; clear hN
   obtain rfl:=Option.some.inj h4
   clear h h2 h3
   cases one_some hv
   cases listOf_some hy
   exact extend_ok hG hA S F hx hg hl hvs hz
  ·split at h
   ·rename_i hm
    have:=beq_iff_eq.mp hm
    subst this
    refine bc fun hN =>?_
    refine ite_el h fun he h =>?_
    refine itep_el h fun hz h =>?_
    refine hN ?_; clear hN
    obtain rfl:=Option.some.inj h
    cases List.isEmpty_iff.mp he
    exact reverse_ok hG hA S F hx hg hl hvs hz
   ·exact nS h
theorem ex_feed (hG : GOk2 X G N) (hA : Room A (N + n)) (S : St X sc env H Mu g s) (F : Fm X B Hc H Mu env s) {x : Str} {px p : Pos} {e y : Expr} {o m : Str} {es : List Expr} {fl : Fl} (hf : feedOf sc x e = some (y,o,m,es)) (h : feedK G x o m g ((ev n G sc g y).bind listOf) (mapO (ev n G sc g) es) = some fl) :
  wpAny (model X.prog X.w) A (exec (.Assign [.Name x px] e p) env) (fun f s' =>FlP X B Hc sc env Mu s fl f s') E s:=by
 refine bc fun hN =>?_
 refine bind_el hf fun yc h1 f1 =>?_
 refine bind_el f1 fun yn h2 f2 =>?_
 refine bind_el f2 fun le h3 f3 =>?_
 refine bind_el f3 fun a h4 f4 =>?_
 refine bind_el f4 fun om h5 f5 =>?_
 refine ite_el f5 fun hc f6 =>?_
 refine hN ?_; clear hN
 cases f6
 clear hf f1 f2 f3 f4 f5
 refine bc fun hN =>?_
 obtain ⟨pb,rfl⟩:=addOf_some h1
 obtain ⟨py,ey⟩:=nameOf_some h2
 obtain ⟨pl,pd,ec⟩:=callOf_some h3
 rw [one_some h4] at ec
 obtain ⟨po,rfl⟩:=methOf_some h5
 refine hN ?_; clear hN
 rw [ec]
 rw [ey] at h ⊢
 simp only [Bool.and_eq_true,decide_eq_true_eq] at hc
 refine bc fun hN =>?_
 obtain ⟨⟨⟨⟨⟨⟨c1,c2⟩,c3⟩,c4⟩,c5⟩,c6⟩,c7⟩:=hc
 refine hN ?_; clear hN
 have cl:=beq_iff_eq.mp c1
 rw [cl] at c6 ⊢
 refine bc fun hN =>?_
 refine bind_el h fun cf hl g1 =>?_
 refine bind_el g1 fun ys hy g2 =>?_
 refine bind_el g2 fun vs hvs g3 =>?_
 refine bind_el g3 fun r hr g4 =>?_
 refine bind_el g4 fun zs hz g5 =>?_
 refine itep_el g5 fun hlen g6 =>?_
 refine hN ?_; clear hN
 obtain rfl:=Option.some.inj g6
 refine bc fun hN =>?_
 refine ite_el hr fun hn hm =>?_
 refine bind_el hy fun v hv hy =>?_
 rw [listOf_some hy] at hv
 obtain ⟨w,fl'⟩:=r
 refine hN ?_; clear hN
 have hw : w = .list zs:=listOf_some hz
 subst hw
 exact told_ok hG hA S F c5 c6 c7 c2 c3 (instOf_some hl) hv hvs (Option.isNone_iff_eq_none.mp hn) hm hlen
theorem name2_true {t : Expr} (h : name2 t = true) : ∃ ts k p,t = .Tuple ts k p:=by
 unfold name2 at h
 cases ht : tupOf t with
 | none =>rw [ht] at h; cases h
 | some ts =>obtain ⟨k,p,rfl⟩:=tupOf_some ht; exact ⟨ts,k,p,rfl⟩
theorem ex_ok (hX : X.p [] = X) (hG : GOk2 X G N) (Is : ExsOK X G N n) : ExOK X G N (n + 1):=by
 intro B Hc sc env A mu st hA H Mu g s E fl S F h
 have SS:=sound hG.toGOk n
 have hA':=hA.up
 have body : ∀ ss,BodyOK X B Hc sc env A ss (exs n G sc mu ss):=fun ss =>Is B Hc sc env A mu ss hA'
 cases st with
 | Return o p =>
  refine bc fun hN =>?_
  refine bind_el (show (o.bind fun e =>(ev n G sc (thaw g) e).map fun v =>Fl.ret v (thaw g)) = some fl from h) fun e hEqq1 h =>?_
  subst hEqq1
  refine map_el h fun v hv hEqq2 =>?_
  subst hEqq2
  refine hN ?_; clear hN
  exact wpAny_Return_some (SS.e _ _ _ _ _ _ _ _ _ _ _ (S.thaw F) hA' hv fun u s' k r =>⟨u,Mu,rfl,r,(S.thaw F).kp k,Mv.of_kp k,(F.kp k).keep⟩)
 | Break p =>
  cases (show some (Fl.brk g) = some fl from h)
  exact wpAny_Break ⟨rfl,H,Mu,S,F,Mv.of_kp (Kp.refl s),fun _ h =>.inl h⟩
 | If t a b p =>
  refine bc fun hN =>?_
  obtain ⟨c,ht,h⟩:=iteO_some' (show iteO (evT n G sc g t) (exs n G sc mu a g) (exs n G sc mu b g) = some fl from h)
  refine hN ?_; clear hN
  refine wpAny_If (SS.t _ _ _ _ _ _ _ _ _ _ _ S hA' ht fun s' k =>?_)
  cases c with
  | true =>exact wpAny_mono (body _ _ _ _ _ _ _ (S.kp k) (F.kp k) h) (fun f s'' hf =>FlP.trans (Mv.of_kp k) (fun _ h =>.inl h) hf) fun _ _ e =>e
  | false =>exact wpAny_mono (body _ _ _ _ _ _ _ (S.kp k) (F.kp k) h) (fun f s'' hf =>FlP.trans (Mv.of_kp k) (fun _ h =>.inl h) hf) fun _ _ e =>e
 | While t b e p =>
  refine bc fun hN =>?_
  refine ite_el (show (if e.isEmpty = true then whileV (evT n G sc · t) (exs n G sc mu b) 65536 g else .none) = some fl from h) fun he h =>?_
  refine hN ?_; clear hN
  cases List.isEmpty_iff.mp he
  exact wpAny_While (while_ok SS.t hA' (body _) S F h)
 | For t it b e p =>
  obtain ⟨he,h⟩:=ite_some' (show (if e.isEmpty = true then (match enumOf sc t it with
   | some a =>((ev n G sc g a).bind listOf).bind fun xs =>if xs.length ≤ lid then forV (bindT sc t) (exs n G sc mu b) (enumL 0 xs) g else .none
   | .none =>(evI n G sc g it).bind fun xs =>forV (bindT sc t) (exs n G sc mu b) xs g) else .none) = some fl from h)
  cases hen : enumOf sc t it with
  | some a =>
   rw [hen] at h
   refine bc fun hN =>?_
   refine bind_el h fun xs hx h2 =>?_
   refine bind_el hx fun v hv hx2 =>?_
   refine itep_el h2 fun hz h3 =>?_
   refine ite_el hen fun hn hen2 =>?_
   refine bind_el hen2 fun c hc hen3 =>?_
   refine ite_el hen3 fun hf hen4 =>?_
   rw [Bool.and_eq_true] at hf
   obtain ⟨f,es⟩:=c
   obtain ⟨pf,pc,rfl⟩ : ∃ p q,it = .Call (.Name f p) es [] q:=callOf_some hc
   obtain ⟨ts,k,tp,rfl⟩:=name2_true hn
   refine hN ?_; clear hN
   clear h h2 hx hen hen2 hen3 hc hn
   have hf2 : f = "enumerate":=beq_iff_eq.mp hf.2
   subst hf2
   cases one_some hen4
   cases listOf_some hx2
   cases List.isEmpty_iff.mp he
   exact forEnum_ok hX hG hA' (body _) S F hf.1 hv h3
  | none =>
   rw [hen] at h
   refine bc fun hN =>?_
   refine bind_el h fun xs hxs h2 =>?_
   refine hN ?_; clear hN
   clear h hen
   cases List.isEmpty_iff.mp he
   exact for_ok hX hG hA' (body _) S F hxs h2
 | Expr e p =>
  have h : (match methOf e with
   | some c =>if (isLoc sc c.1.1 && lineOk c.1.2.2 c.2.2) = true then (ownOf (g.lookup c.1.1)).bind fun xs =>(mapO (ev n G sc g) c.2.1).bind fun vs =>methK c.1.2.1 c.1.1 g xs vs else .none
   | .none =>(callOf e).bind fun _ =>(ev n G sc g e).bind fun v =>if isNoneV v = true then some (.next g) else .none) = some fl:=h
  cases hm : methOf e with
  | some c =>
   rw [hm] at h
   refine bc fun hN =>?_
   obtain ⟨px,rfl⟩:=methOf_some hm
   refine ite_el h fun hx h =>?_
   rw [Bool.and_eq_true] at hx
   refine bind_el h fun xs hg h =>?_
   refine bind_el h fun vs hvs h =>?_
   refine hN ?_; clear hN
   exact ex_meth hG hA' S F hx.1 hx.2 (ownOf_some hg) hvs h
  | none =>
   rw [hm] at h
   refine bc fun hN =>?_
   refine bind_el h fun c hc h2 =>?_
   refine bind_el h2 fun v hv h3 =>?_
   refine ite_el h3 fun hn h4 =>?_
   refine hN ?_; clear hN
   obtain rfl:=Option.some.inj h4
   refine bc fun hN =>?_
   obtain ⟨pf,q,rfl⟩:=callOf_some hc
   refine hN ?_; clear hN
   cases isNoneV_true hn
   exact wpAny_Expr_any (SS.e _ _ _ _ _ _ _ _ _ _ _ S hA' hv fun u s' k r =>⟨rfl,H,Mu,S.kp k,F.kp k,Mv.of_kp k,fun _ h =>.inl h⟩) (interactive_no S) rfl
 | Assign ts e p =>
  obtain ⟨t,ht,h⟩:=bind_some' (show ((one ts).bind fun t =>(match tupOf t with
   | some us =>(match tupOf e with
    | some es =>if (us.length = es.length && swOk es && es.length ≤ 30) = true then (mapO (fun (p : Expr × Expr) =>evR n G sc g (owned mu p.1) p.2) (us.zip es)).bind fun as =>storeTT G sc us as g else .none
    | .none =>(ev n G sc g e).bind fun v =>(bindT sc t v g).map .next)
   | .none =>(match (nameOf t).bind fun x =>(feedOf sc x e).map fun f =>(x,f) with
    | some f =>feedK G f.1 f.2.2.1 f.2.2.2.1 g ((ev n G sc g f.2.1).bind listOf) (mapO (ev n G sc g) f.2.2.2.2)
    | .none =>(evR n G sc g (owned mu t) e).bind fun a =>(asg G sc t a g).map .next))) = some fl from h)
  rw [one_some ht]
  clear ht
  cases htu : tupOf t with
  | some us =>
   rw [htu] at h
   refine bc fun hN =>?_
   obtain ⟨k,q,rfl⟩:=tupOf_some htu
   refine hN ?_; clear hN
   dsimp only at h
   cases hte : tupOf e with
   | some es =>
    rw [hte] at h
    refine bc fun hN =>?_
    obtain ⟨k2,q2,rfl⟩:=tupOf_some hte
    refine ite_el h fun hc h =>?_
    simp only [Bool.and_eq_true,decide_eq_true_eq] at hc
    refine bind_el h fun as has h =>?_
    refine hN ?_; clear hN
    unfold storeTT at h
    split at h
    ·rename_i xs hxs
     refine bc fun hN =>?_
     refine ite_el h fun hs h =>?_
     refine hN ?_; clear hN
     obtain rfl:=Option.some.inj h
     simp only [Bool.and_eq_true,decide_eq_true_eq] at hs
     exact tupNames_ok hX hG hA' S F hc.1.1 hc.2 hc.1.2 has hxs hs.1 hs.2
    ·rename_i hxs
     refine bc fun hN =>?_
     refine bind_el h fun vs hv h =>?_
     refine map_el h fun g1 hg1 hEqq2 =>?_
     subst hEqq2
     refine hN ?_; clear hN
     exact tupAttrs_ok hX hG hA' S F hc.1.1 hc.2 hc.1.2 has hxs hv hg1
   | none =>
    rw [hte] at h
    refine bc fun hN =>?_
    refine bind_el h fun v hv h =>?_
    refine map_el h fun g1 hg1 hEqq2 =>?_
    subst hEqq2
    refine hN ?_; clear hN
    exact tupVal_ok hX hG hA' S F hv (fun es k p he =>by rw [he] at hte; cases hte) hg1
  | none =>
   rw [htu] at h
   dsimp only at h
   cases hfe : (nameOf t).bind fun x =>(feedOf sc x e).map fun f =>(x,f) with
   | some f =>
    rw [hfe] at h
    refine bc fun hN =>?_
    refine bind_el hfe fun x hn hfe =>?_
    refine map_el hfe fun f hf hEqq2 =>?_
    subst hEqq2
    obtain ⟨px,rfl⟩:=nameOf_some hn
    refine hN ?_; clear hN
    exact ex_feed hG hA' S F hf h
   | none =>
    rw [hfe] at h
    refine bc fun hN =>?_
    refine bind_el h fun av hav h =>?_
    refine map_el h fun g1 hg1 hEqq2 =>?_
    subst hEqq2
    refine hN ?_; clear hN
    cases t with
    | Name x px =>
     refine bc fun hN =>?_
     refine ite_el (show (if stoOk sc x av = true then some (setL x av g) else .none) = some g1 from hg1) fun hs hg1 =>?_
     refine hN ?_; clear hN
     obtain rfl:=Option.some.inj hg1
     exact assign_name hX hG hA' S F hav hs
    | Attribute b f pa =>
     refine bc fun hN =>?_
     refine bind_el (show ((nameOf b).bind fun x =>(valO av).bind fun v =>if isLoc sc x = true then (instOf (g.lookup x)).bind (setFld G x f v g) else .none) = some g1 from hg1) fun x hn _ =>?_
     obtain ⟨px,rfl⟩:=nameOf_some hn
     refine hN ?_; clear hN
     exact assign_attr hX hG hA' S F hav hg1
    | _ =>exact nomatch (show (Option.none : Option Gam) = some g1 from hg1)
 | _ =>exact nomatch (show (Option.none : Option Fl) = some fl from h)
theorem exs_sound (hX : X.p [] = X) (hG : GOk2 X G N) : ∀ n,ExOK X G N n ∧ ExsOK X G N n
 | 0 =>⟨fun _ _ _ _ _ _ _ _ _ _ _ _ _ fl _ _ h =>(nomatch (show (Option.none : Option Fl) = some fl from h)),fun _ _ _ _ _ _ _ _ _ _ _ _ _ fl _ _ h =>(nomatch (show (Option.none : Option Fl) = some fl from h))⟩
 | n + 1 =>let ⟨a,b⟩:=exs_sound hX hG n
  ⟨ex_ok hX hG b,exs_ok a b⟩
end
theorem bindL_at {kindOf : Str → Option NameKind} {x : Str} (hk : kindOf x = some .local) : ∀ {bs : List (Str × Value)} {m : Str → Option Value},(bs.map (·.1)).Nodup → bindL kindOf bs m x = (bs.lookup x).or (m x)
 | [],m,_ =>by simp [bindL]
 | (n,v) :: r,m,h =>by
  obtain ⟨h1,h2⟩:=List.nodup_cons.mp h
  unfold bindL
  simp only [bindL_at hk h2,List.lookup_cons]
  by_cases hx : x = n
  ·subst hx
   have : r.lookup x = none:=by
    cases e : r.lookup x with
    | none =>rfl
    | some v =>exact absurd (List.mem_map_of_mem (lookup_mem e)) h1
   simp only [this,if_pos hk]; simp
  ·have : (x == n) = false:=by simpa using hx
   rw [this]
   congr 1
   split <;> simp [hx]
theorem bindC_at {kindOf : Str → Option NameKind} {x : Str} (hk : kindOf x ≠ some .local) : ∀ {bs : List (Str × Value)} {m : Str → Option Value},(bs.map (·.1)).Nodup → bindC kindOf bs m x = (bs.lookup x).or (m x)
 | [],m,_ =>by simp [bindC]
 | (n,v) :: r,m,h =>by
  obtain ⟨h1,h2⟩:=List.nodup_cons.mp h
  unfold bindC
  simp only [bindC_at hk h2,List.lookup_cons]
  by_cases hx : x = n
  ·subst hx
   have : r.lookup x = none:=by
    cases e : r.lookup x with
    | none =>rfl
    | some v =>exact absurd (List.mem_map_of_mem (lookup_mem e)) h1
   simp only [this,if_neg hk]; simp
  ·have : (x == n) = false:=by simpa using hx
   rw [this]
   congr 1
   split <;> simp [hx]
noncomputable def scOk (sc : Scope) (names : List Str) : Bool :=
 sc.kind == .function && !sc.isCoroutine && !sc.isGenerator && sc.names.all (fun p =>p.2 != .free) && decide ((cellsFrom 0 sc.names []).map (·.1)).Nodup && decide names.Nodup &&
  names.all (fun x =>sc.names.lookup x == some .local || (sc.names.lookup x == some .cell && ((cellsFrom 0 sc.names []).lookup x).isSome)) &&
  sc.names.all (fun p =>p.2 != .cell || ((cellsFrom 0 sc.names []).lookup p.1).isSome)
structure ScOk (sc : Scope) (names : List Str) : Prop where
 kind : sc.kind = .function
 co : sc.isCoroutine = false
 gen : sc.isGenerator = false
 free : ∀ p ∈ sc.names,p.2 ≠ .free
 cells : ((cellsFrom 0 sc.names []).map (·.1)).Nodup
 nd : names.Nodup
 par : ∀ x ∈ names,sc.names.lookup x = some .local ∨ (sc.names.lookup x = some .cell ∧ ((cellsFrom 0 sc.names []).lookup x).isSome = true)
 has : ∀ p ∈ sc.names,p.2 = .cell → ((cellsFrom 0 sc.names []).lookup p.1).isSome = true
theorem scOk_of {sc : Scope} {names : List Str} (h : scOk sc names = true) : ScOk sc names:=by
 unfold scOk at h
 simp only [Bool.and_eq_true,List.all_eq_true,Bool.or_eq_true,bne_iff_ne,beq_iff_eq,decide_eq_true_eq,Bool.not_eq_true'] at h
 obtain ⟨⟨⟨⟨⟨⟨⟨h1,h2⟩,h3⟩,h4⟩,h5⟩,h6⟩,h7⟩,h8⟩:=h
 exact ⟨h1,h2,h3,h4,h5,h6,h7,fun p hp hc =>(h8 p hp).resolve_left (fun hn =>hn hc)⟩
theorem cells_some {names : List (Str × NameKind)} {x : Str} {n m : Nat} (h : ((cellsFrom n names []).lookup x).isSome = true) : ((cellsFrom m names []).lookup x).isSome = true:=by
 have key : ∀ {l : List (Str × Addr)},(l.lookup x).isSome = true ↔ x ∈ l.map (·.1):=by
  intro l
  induction l with
  | nil =>simp
  | cons p r ih =>
   obtain ⟨y,c⟩:=p
   simp only [List.lookup_cons,List.map_cons,List.mem_cons]
   by_cases hx : x = y
   ·subst hx; simp
   ·have : (x == y) = false:=by simpa using hx
    simp only [this,ih]; simp [hx]
 rw [key] at h ⊢
 rw [cellsFrom_names names m n [] [] rfl]
 exact h
section
variable {X : Gx} {G : Ge} {N n : Nat} {B : Heap} {H : List Addr} {sc : Scope} {g : Gam} {s : Shared} {A : Around}
inductive GInst (X : Gx) (H D : List Addr) (h : Heap) (x : Str) (u : Value) (K : Option Addr) (fl : List (Str × V)) : Prop
 | mk (ix dx Ca : Addr) (es : List DictEntry) (n : Nat) (e1 : X.sv = some (ix,dx)) (e2 : x = ("self" : Str)) (e3 : u = .ref ix) (e4 : K = some Ca) (e5 : h.get? ix = some (instObj Ca dx)) (e6 : h.get? dx = some (dictOf es n)) (e7 : dx ∈ D) (e8 : ix ∉ D) (r : Flds (hideAll h H) fl es) : GInst X H D h x u K fl
structure Given (X : Gx) (B : Heap) (H D : List Addr) (sc : Scope) (bs : List (Str × Value)) (g : Gam) (s : Shared) : Prop where
 b0 : Sub X.B0 B
 keep : Sub B s.heap
 hcb : HOk H B
 dOff : ∀ a ∈ D,B.get? a = none ∧ ∃ es n,s.heap.get? a = some (dictOf es n)
 pn : X.pn = []
 ent : ∀ x av,g.lookup x = some av → ∃ u,bs.lookup x = some u ∧ (match av with
  | .val v =>Rep (hideAll s.heap H) v u
  | .own _ =>False
  | .inst C fl =>GInst X H D s.heap x u (X.clsA C) fl)
 self : ∀ ix dx,X.sv = some (ix,dx) → bs.lookup ("self" : Str) = some (.ref ix)
theorem frame_up {D : List Addr} {bs : List (Str × Value)} {qual : Str} {func : Option Addr} {code : Value} {s' : Shared} {env : Env} (R : Given X B H D sc bs g s) (C : ScOk sc (bs.map (·.1)))
  (he : env = newEnv sc s.heap.objs.size mainGlobals (cellsFrom (s.heap.objs.size + 1) sc.names []) qual func code none builtinsNs)
  (x : InCallC s env.locals (bindL env.kindOf bs fun _ =>none) env.cells (bindC env.kindOf bs fun _ =>none) s') :
  St X sc env H (env.locals :: (env.cells.map (·.2) ++ D)) g s' ∧ Fm X B H H (env.locals :: (env.cells.map (·.2) ++ D)) env s':=by
 have k:=x.toInCall.keep
 have hsc : env.scope = sc:=by rw [he]; rfl
 have hcl : env.cells = cellsFrom (s.heap.objs.size + 1) sc.names []:=by rw [he]; rfl
 have hloc : env.locals = s.heap.objs.size:=by rw [he]; rfl
 have hkn : ∀ y,env.kindOf y = sc.names.lookup y:=fun y =>by unfold Env.kindOf; rw [hsc]
 have hnd : (env.cells.map (·.1)).Nodup:=by rw [hcl,cellsFrom_names sc.names _ 0 [] [] rfl]; exact C.cells
 have hcell : ∀ n c,(n,c) ∈ env.cells → s'.heap.IsCell c (bindC env.kindOf bs (fun _ =>none) n) ∧ s.heap.get? c = none:=fun n c hm =>by
  refine ⟨x.cell n c (lookup_of_mem_nodup hnd hm),?_⟩
  have:=x.above n c hm
  cases e : s.heap.get? c with
  | none =>rfl
  | some o =>rw [hloc] at this; exact absurd (Heap.lt_size e) (Nat.not_lt.mpr (Nat.le_of_lt this))
 have hLn : s.heap.get? env.locals = none:=by
  rw [hloc]; exact get_size
 have off : ∀ a ∈ env.locals :: (env.cells.map (·.2) ++ D),B.get? a = none:=fun a ha =>by
  have none_of : s.heap.get? a = none → B.get? a = none:=fun h =>by
   cases e : B.get? a with
   | none =>rfl
   | some o =>rw [R.keep a o e] at h; cases h
  rcases List.mem_cons.mp ha with rfl | ha
  ·exact none_of hLn
  ·rcases List.mem_append.mp ha with ha | ha
   ·refine bc fun hN =>?_
    obtain ⟨p,hp,rfl⟩:=List.mem_map.mp ha
    refine hN ?_; clear hN
    exact none_of (hcell p.1 p.2 hp).2
   ·exact (R.dOff a ha).1
 have hH : ∀ a ∈ H,a ∉ env.locals :: (env.cells.map (·.2) ++ D):=fun a ha hm =>by
  refine bc fun hN =>?_
  obtain ⟨o,e⟩:=R.hcb a ha
  refine hN ?_; clear hN
  rw [off a hm] at e; exact nS e
 have kB : Sub B s'.heap:=fun b o e =>k b o (R.keep b o e)
 have hk : SeqKeep (hideAll s.heap H) (hideAll s'.heap H):=.of (hide_keep k)
 have hbn : (bs.map (·.1)).Nodup:=C.nd
 have hns:=x.toInCall.ns
 refine ⟨⟨fun b o e =>kB b o (R.b0 b o e),by rw [hsc]; exact C.kind,by rw [he]; rfl,by rw [he]; rfl,⟨fun y h =>(hkn y).trans h,fun y h =>(hkn y).trans h,fun y h =>absurd rfl (C.free _ (lookup_mem h)),fun y h =>(hkn y).trans h,fun y h =>?_⟩,fun a ha =>?_,_,fun _ =>(X.sv.map (·.2)).getD 0,hns,fun y av hy hl =>?_,fun y z hy hz c1 c2 _ =>?_,fun hs ix dx hsv =>?_,fun y hy c =>by rw [R.pn]; simp⟩,
  ⟨R.b0,kB,off,fun a ha =>?_,fun a ha =>.inl ha,fun a ha =>ha,R.hcb,fun a ha hn o e =>?_,⟨.head _,fun hm =>hH _ hm (.head _)⟩,fun y c h =>?_,fun y z c h1 h2 =>?_⟩⟩
 ·rw [hcl]
  rcases h with h | h
  ·exact cells_some (C.has _ (lookup_mem h) rfl)
  ·exact absurd rfl (C.free _ (lookup_mem h))
 ·refine bc fun hN =>?_
  obtain ⟨o,e⟩:=R.hcb a ha
  refine hN ?_; clear hN
  exact ⟨o,kB a o e⟩
 ·refine bc fun hN =>?_
  obtain ⟨u,hu,hr⟩:=R.ent y av hl
  refine hN ?_; clear hN
  have hyn : y ∈ bs.map (·.1):=List.mem_map_of_mem (lookup_mem hu)
  have hat : At env s'.heap (bindL env.kindOf bs fun _ =>none) y u:=by
   rcases C.par y hyn with h | ⟨h,hc⟩
   ·refine .inl ⟨(hkn y).trans h,?_⟩
    simp only [bindL_at ((hkn y).trans h) hbn,hu]; rfl
   ·refine bc fun hN =>?_
    obtain ⟨c,hc'⟩:=Option.isSome_iff_exists.mp (cells_some (m:=s.heap.objs.size + 1) hc)
    refine hN ?_; clear hN
    rw [← hcl] at hc'
    refine .inr ⟨.inl ((hkn y).trans h),c,hc',?_⟩
    have:=(hcell y c (lookup_mem hc')).1
    rw [bindC_at (by simp only [hkn,h]; decide) hbn,hu] at this
    exact this
  cases av with
  | val v =>exact ⟨u,hat,hr.mono hk⟩
  | own _ =>exact hr.elim
  | inst Cn fl =>
   refine bc fun hN =>?_
   obtain ⟨ix,dx,Ca,es,n,e1,e2,e3,e4,e5,e6,e7,e8,e9⟩:=hr
   refine hN ?_; clear hN
   subst e3
   have had : (X.sv.map (·.2)).getD 0 = dx:=by rw [e1]; rfl
   refine ⟨ix,Ca,es,n,hat,e4,?_,?_,?_,?_,fun hm =>?_,?_,e9.mono hk⟩
   ·show s'.heap.get? ix = some (instObj Ca ((X.sv.map (·.2)).getD 0))
    rw [had]; exact k _ _ e5
   ·show s'.heap.get? ((X.sv.map (·.2)).getD 0) = _
    rw [had]; exact k _ _ e6
   ·show (X.sv.map (·.2)).getD 0 ∈ _
    rw [had]; exact .tail _ (List.mem_append_right _ e7)
   ·show (X.sv.map (·.2)).getD 0 ∉ _
    rw [had]; exact fun hm =>hH _ hm (.tail _ (List.mem_append_right _ e7))
   ·rcases List.mem_cons.mp hm with h | hm
    ·simp only [h,hLn] at e5; exact nS e5
    ·rcases List.mem_append.mp hm with hm | hm
     ·obtain ⟨p,hp,hpe⟩:=List.mem_map.mp hm
      have:=(hcell p.1 p.2 hp).2
      simp only [hpe,e5] at this; cases this
     ·exact e8 hm
   ·show (X.sv.map (·.2)).getD 0 ≠ _
    rw [had]; intro h; simp only [h,hLn] at e6; exact nS e6
 ·have only : ∀ y,isLoc sc y = true → isCore (g.lookup y) → y = ("self" : Str):=fun y hy c =>by
   cases e : g.lookup y with
   | none =>rw [e] at c; exact c.elim
   | some av =>
    rw [e] at c
    obtain ⟨u,_,hr⟩:=R.ent y av e
    cases av with
    | val v =>exact c.elim
    | own _ =>exact hr.elim
    | inst Cn fl =>obtain ⟨_,_,_,_,_,_,e2,_⟩:=hr; exact e2
  simp only [only y hy c1,only z hz c2]
 ·refine ⟨?_,by rw [hsv]; rfl⟩
  simp only [bindL_at ((hkn _).trans hs) hbn,R.self ix dx hsv]; rfl
 ·rcases List.mem_cons.mp ha with rfl | ha
  ·obtain ⟨o,_,_,ho,_⟩:=hns; exact ⟨o,ho⟩
  ·rcases List.mem_append.mp ha with ha | ha
   ·refine bc fun hN =>?_
    obtain ⟨p,hp,rfl⟩:=List.mem_map.mp ha
    obtain ⟨o,ho,_⟩:=(hcell p.1 p.2 hp).1
    refine hN ?_; clear hN
    exact ⟨o,ho⟩
   ·refine bc fun hN =>?_
    obtain ⟨_,es,k2,ho⟩:=R.dOff a ha
    refine hN ?_; clear hN
    exact ⟨_,k _ _ ho⟩
 ·rcases List.mem_cons.mp ha with rfl | ha
  ·exact notSeq_ns hns e
  ·rcases List.mem_append.mp ha with ha | ha
   ·obtain ⟨p,hp,rfl⟩:=List.mem_map.mp ha
    obtain ⟨o',ho,hd⟩:=(hcell p.1 p.2 hp).1
    rw [e] at ho; obtain rfl:=Option.some.inj ho
    exact fun ⟨_,_,hq⟩ =>by rw [hd] at hq; cases hq
   ·obtain ⟨_,es,k2,ho⟩:=R.dOff a ha
    rw [k _ _ ho] at e; obtain rfl:=Option.some.inj e
    exact fun ⟨_,_,hq⟩ =>by cases hq
 ·exact ⟨.tail _ (List.mem_append_left _ (List.mem_map_of_mem (lookup_mem h))),_,(hcell y c (lookup_mem h)).1⟩
 ·exact name_of_addr x.apart (lookup_mem h1) (lookup_mem h2)
end
structure FnRec where
 names : List Str
 body : List Stmt
 sc : Scope
 mu : List Str
 pats : List (Nat × List Str)
 dfl : List (Str × V)
noncomputable def restOf (names : List Str) (kvs : List (Str × V)) : List V:=names.map fun x =>(kvs.lookup x).getD .none
structure FnAt (X : Gx) (r : FnRec) (f : Addr) (o : Obj) (fd : FuncData) : Prop where
 at_ : X.B0.get? f = some o
 data : o.data = .func fd
 code : X.B0.CodeRec fd.code fd.qualname
 body : fd.body = .stmts r.body
 sc : fd.scope = r.sc
 glob : fd.globals = mainGlobals
 blt : fd.builtins = builtinsNs
 clo : fd.closure = []
 bind : ∀ (us kus : List Value) (kwn : List Str) (s : Shared),(us.length,kwn) ∈ r.pats → kus.length = kwn.length → Sub X.B0 s.heap → ∃ ws,BindsTo s fd ⟨us,kwn.zip kus⟩ (r.names.zip (us ++ ws)) ∧ us.length + ws.length = r.names.length ∧
  ∀ h (kvs : List (Str × V)),kvs.map (·.1) = kwn → Reps h (kvs.map (·.2)) kus → Reps h (restOf (r.names.drop us.length) (kvs ++ r.dfl)) ws
noncomputable def Gx.v (X : Gx) (sv : Option (Addr × Addr)) : Gx:={ X with sv:=sv,pn:=[] }
theorem GOk2.v {X : Gx} {G : Ge} {N : Nat} (h : GOk2 X G N) (sv : Option (Addr × Addr)) : GOk2 (X.v sv) G N :=
 { cst:=h.cst,fn:=h.fn,pm:=fun C m vs r Ca h1 h2 =>let ⟨f,M,F⟩:=h.pm C m vs r Ca h1 h2; ⟨f,⟨M.get,M.find,M.fn,M.keep⟩,F⟩,flds:=fun C f Ca h1 h2 =>let F:=h.flds C f Ca h1 h2; ⟨F.get,F.has,F.find⟩,cls:=h.cls,mth:=fun C m fl vs r fl' Ca h1 h2 =>let ⟨f,M,F⟩:=h.mth C m fl vs r fl' Ca h1 h2; ⟨f,⟨M.get,M.find,M.fn,M.keep⟩,F⟩,sets:=fun C f Ca h1 h2 =>let F:=h.sets C f Ca h1 h2; ⟨F.set,F.over,F.take,F.has⟩ }
section
variable {X : Gx} {G : Ge} {N n : Nat} {B : Heap} {H : List Addr} {g : Gam} {s : Shared} {A : Around} {r : FnRec} {f : Addr} {o : Obj} {fd : FuncData}
inductive ERet (X : Gx) (B : Heap) (H : List Addr) (sc : Scope) (s : Shared) (v : V) (g' : Gam) (u : Value) (s' : Shared) : Prop
 | mk (e : HT s s') (b : Sub B s'.heap) (r : Rep (hideAll s'.heap H) v u) (env : Env) (Mu' : List Addr) (S : St X sc env H Mu' g' s') : ERet X B H sc s v g' u s'
inductive ENext (X : Gx) (B : Heap) (H : List Addr) (sc : Scope) (s : Shared) (g' : Gam) (u : Value) (s' : Shared) : Prop
 | mk (e : u = .none) (t : HT s s') (b : Sub B s'.heap) (env : Env) (H' Mu' : List Addr) (k : ∀ a ∈ H,a ∈ H') (S : St X sc env H' Mu' g' s') : ENext X B H sc s g' u s'
noncomputable def Ended (X : Gx) (B : Heap) (H : List Addr) (sc : Scope) (s : Shared) : Fl → Value → Shared → Prop
 | .ret v g',u,s' =>ERet X B H sc s v g' u s'
 | .next g',u,s' =>ENext X B H sc s g' u s'
 | .brk _,_,_ =>False
theorem call_body (hG : GOk2 X G N) (hX : X.p [] = X) (K : FnAt X r f o fd) {D : List Addr} {bs : List (Str × Value)} {args : Args} {fl : Fl} {R : Result → Shared → Prop} (C : ScOk r.sc (bs.map (·.1))) (hA : Room A (N + n + 1)) (hs : Sub X.B0 s.heap)
  (hb : BindsTo s fd args bs) (GV : Given X B H D r.sc bs g s) (hfl : ∀ g',fl ≠ .brk g') (h : exs n G r.sc r.mu r.body g = some fl) (q : ∀ u s',Ended X B H r.sc s fl u s' → R (.ok (.ret u)) s') :
  codeAny (model X.prog X.w) A (.call (.ref f) args) R s:=by
 refine codeAny_call_function hA.d (hs _ _ K.at_) K.data (by rw [K.sc]; exact C.co) (by rw [K.sc]; exact C.gen) K.body (K.code.keeps hs) (hb _ _ _ _ ?_)
 simp only [K.sc,K.glob,K.clo,K.blt]
 refine wpAny_newFunctionEnv_cells C.kind (fun y hy =>?_) fun env he s' x =>?_
 ·rcases C.par y.1 (List.mem_map_of_mem hy) with h | ⟨h1,h2⟩
  ·exact .inl h
  ·exact .inr ⟨h1,cells_some h2⟩
 ·refine ⟨(X.lim.keeps hs).keeps x.toInCall.keep,codeAny_func ?_⟩
  refine bc fun hN =>?_
  obtain ⟨S,F⟩:=frame_up GV C he x
  refine hN ?_; clear hN
  have hA2 : Room (A.deeper env) (N + n):=⟨hA.hh,by have:=hA.depth; show A.depth + 1 + _ < 600; lia,by have:=hA.units; show A.units + 3 + _ < 9000; lia⟩
  refine bc fun hN =>?_
  obtain ⟨h1,t1,e1,_⟩:=x.done
  refine hN ?_; clear hN
  have same : ∀ {s'' : Shared},Mv (env.locals :: (env.cells.map (·.2) ++ D)) s' s'' → HT s s'':=fun {s''} m =>by
   refine bc fun hN =>?_
   obtain ⟨h2,t2,rfl,_⟩:=m
   refine hN ?_; clear hN
   exact ⟨h2,t2,by rw [e1]⟩
  refine wpAny_mono ((exs_sound hX hG n).2 _ _ _ _ _ _ _ hA2 _ _ _ _ (fun _ _ =>False) fl S F h) (fun fw s'' hf =>?_) fun _ _ e =>e.elim
  cases fl with
  | next g' =>
   refine bc fun hN =>?_
   obtain ⟨rfl,H',Mu',S',F',m,_⟩:=hf
   refine hN ?_; clear hN
   exact q _ _ ⟨rfl,same m,F'.keep,env,H',Mu',F'.hc,S'⟩
  | brk g' =>exact absurd rfl (hfl g')
  | ret v g' =>
   refine bc fun hN =>?_
   obtain ⟨u,Mu',rfl,hr,S',m,hB⟩:=hf
   refine hN ?_; clear hN
   exact q _ _ ⟨same m,hB,hr,env,Mu',S'⟩
noncomputable def runF (r : FnRec) (n : Nat) (G : Ge) (vs : List V) (kvs : List (Str × V)) : Option V :=
 if r.pats.contains (vs.length,kvs.map (·.1)) && scOk r.sc r.names then
  match exs n G r.sc r.mu r.body (r.names.zip ((vs ++ restOf (r.names.drop vs.length) (kvs ++ r.dfl)).map .val)) with
  | some (.ret v _) =>some v
  | some (.next _) =>some .none
  | _ =>Option.none
 else Option.none
theorem lookup_zip2 {α β : Type} {P : α → β → Prop} : ∀ {ns : List Str} {as : List α} {bs : List β} {x : Str} {a : α},as.length = bs.length → (∀ i (h1 : i < as.length) (h2 : i < bs.length),P as[i] bs[i]) → (ns.zip as).lookup x = some a → ∃ b,(ns.zip bs).lookup x = some b ∧ P a b
 | [],_,_,_,_,_,_,h =>by simp at h
 | _ :: _,[],_,_,_,_,_,h =>by simp at h
 | _ :: _,_ :: _,[],_,_,h,_,_ =>by simp at h
 | n :: ns,a :: as,b :: bs,x,c,hl,hP,h =>by
  simp only [List.zip_cons_cons,List.lookup_cons] at h ⊢
  cases hx : x == n with
  | true =>
   rw [hx] at h; obtain rfl:=Option.some.inj h
   exact ⟨b,rfl,hP 0 (by simp) (by simp)⟩
  | false =>
   rw [hx] at h
   exact lookup_zip2 (by simpa using hl) (fun i h1 h2 =>hP (i + 1) (by simpa using h1) (by simpa using h2)) h
theorem Reps.at {h : Heap} : ∀ {vs : List V} {us : List Value},Reps h vs us → ∀ i (h1 : i < (vs.map AV.val).length) (h2 : i < us.length),∃ v,(vs.map AV.val)[i] = .val v ∧ Rep h v us[i]:=by
 intro vs us r i h1 h2
 have h1' : i < vs.length:=by simpa using h1
 refine bc fun hN =>?_
 obtain ⟨u,e,hr⟩:=r.get (List.getElem?_eq_getElem h1')
 refine hN ?_; clear hN
 rw [List.getElem?_eq_getElem h2] at e; obtain rfl:=Option.some.inj e
 exact ⟨vs[i],by simp,hr⟩
theorem fnSpec_of (hG : GOk2 X G N) (K : FnAt X r f o fd) {vs : List V} {kvs : List (Str × V)} {v : V} (h : runF r n G vs kvs = some v) : FnSpec X (N + n + 1) (.ref f) vs kvs v:=by
 intro A s H us kus Q E hA hs ho hr hk q
 unfold runF at h
 split at h
 ·rename_i hc
  simp only [Bool.and_eq_true,List.contains_iff_mem] at hc
  have C:=scOk_of hc.2
  have hul:=hr.length
  have hkl:=hk.length
  refine bc fun hN =>?_
  obtain ⟨ws,hb,hwl,hw⟩:=K.bind us kus (kvs.map (·.1)) s (by rw [hul]; exact hc.1) (by rw [hkl]; simp) hs
  refine hN ?_; clear hN
  have hws:=hw (hideAll s.heap H) kvs rfl hk
  have hall : Reps (hideAll s.heap H) (vs ++ restOf (r.names.drop vs.length) (kvs ++ r.dfl)) (us ++ ws):=by
   rw [hul] at hws
   exact hr.append hws
  have hX : (X.v none).p [] = X.v none:=rfl
  have K' : FnAt (X.v none) r f o fd:=⟨K.at_,K.data,K.code,K.body,K.sc,K.glob,K.blt,K.clo,K.bind⟩
  have hfst : (r.names.zip (us ++ ws)).map (·.1) = r.names:=List.map_fst_zip (by rw [List.length_append]; lia)
  have GV : Given (X.v none) s.heap H [] r.sc (r.names.zip (us ++ ws)) (r.names.zip ((vs ++ restOf (r.names.drop vs.length) (kvs ++ r.dfl)).map .val)) s:=by
   refine ⟨hs,fun _ _ e =>e,ho,fun a ha =>(by cases ha),rfl,fun x av hl =>?_,fun ix dx e =>by cases e⟩
   have:=lookup_zip2 (P:=fun (a : AV) (u : Value) =>∃ v,a = .val v ∧ Rep (hideAll s.heap H) v u) (bs:=us ++ ws) (by rw [List.length_map]; exact hall.length.symm) (hall.at) hl
   refine bc fun hN =>?_
   obtain ⟨u,hu,v,rfl,hv⟩:=this
   refine hN ?_; clear hN
   exact ⟨u,hu,hv⟩
  have go : ∀ fl,exs n G r.sc r.mu r.body (r.names.zip ((vs ++ restOf (r.names.drop vs.length) (kvs ++ r.dfl)).map .val)) = some fl → (∀ g',fl ≠ .brk g') → (∀ u s',Ended (X.v none) s.heap H r.sc s fl u s' → Kp s s' ∧ Rep (hideAll s'.heap H) v u) →
    wpAny (model X.prog X.w) A (call (.ref f) us ((kvs.map (·.1)).zip kus)) Q E s:=fun fl hfl hnb hend =>
   wpAny_call (call_body (X:=X.v none) (hG.v none) hX K' (by rw [hfst]; exact C) hA hs hb GV hnb hfl fun u s' he =>let ⟨k,rr⟩:=hend u s' he; q u s' k rr)
  split at h
  ·rename_i v' g' hfl
   obtain rfl:=Option.some.inj h
   refine go _ hfl (fun _ h =>by cases h) fun u s' ⟨⟨h1,t1,e1⟩,hB,hr',_,_,_⟩ =>⟨⟨h1,t1,e1,?_⟩,hr'⟩
   subst e1; exact hB
  ·rename_i g' hfl
   obtain rfl:=Option.some.inj h
   refine go _ hfl (fun _ h =>by cases h) fun u s' ⟨hu,⟨h1,t1,e1⟩,hB,_,_,_,_,_⟩ =>⟨⟨h1,t1,e1,?_⟩,by unfold Rep; exact hu⟩
   subst e1; exact hB
  ·exact nS h
 ·exact nS h
end
section
variable {X : Gx} {G : Ge} {N n : Nat} {B : Heap} {H : List Addr} {g : Gam} {s : Shared} {A : Around} {r : FnRec} {f : Addr} {o : Obj} {fd : FuncData}
theorem self_fields {sc : Scope} {env : Env} {H' Mu' : List Addr} {g' : Gam} {s'' : Shared} {ix dx : Addr} {C : Str} {fl : List (Str × V)} (S : St X sc env H' Mu' g' s'') (hsv : X.sv = some (ix,dx)) (hk : sc.names.lookup ("self" : Str) = some .local) (hl : g'.lookup ("self" : Str) = some (.inst C fl)) :
  ∃ es n,s''.heap.get? dx = some (dictOf es n) ∧ Flds (hideAll s''.heap H') fl es:=by
 refine bc fun hN =>?_
 obtain ⟨m,ad,hn,hd,inj,h1,h2⟩:=S.held
 obtain ⟨e1,e2⟩:=h1 hk ix dx hsv
 have hloc : isLoc sc ("self" : Str) = true:=by
  unfold isLoc
  rw [hk]
  have : dbg ("self" : Str) = false:=by decide
  rw [this]; rfl
 obtain ⟨ix',Ca,es,n,a,_,_,e4,_,_,_,_,rf⟩:=hd _ _ hloc hl
 refine hN ?_; clear hN
 rw [e2] at e4
 exact ⟨es,n,e4,rf⟩
noncomputable def selfOk (r : FnRec) (k : Nat) : Bool:=r.pats.contains (k + 1,[]) && scOk r.sc r.names && r.names.head? == some ("self" : Str) && r.sc.names.lookup ("self" : Str) == some .local
noncomputable def parsOf (r : FnRec) (vs : List V) : Gam:=(r.names.drop 1).zip ((vs ++ restOf (r.names.drop (vs.length + 1)) r.dfl).map .val)
noncomputable def runP (r : FnRec) (n : Nat) (G : Ge) (vs : List V) : Option V :=
 if selfOk r vs.length then
  match exs n G r.sc r.mu r.body (parsOf r vs) with
  | some (.ret v _) =>some v
  | _ =>Option.none
 else Option.none
noncomputable def runM (r : FnRec) (n : Nat) (G : Ge) (C : Str) (fl : List (Str × V)) (vs : List V) : Option (V × List (Str × V)) :=
 if selfOk r vs.length then
  match exs n G r.sc r.mu r.body (("self",.inst C fl) :: parsOf r vs) with
  | some (.ret v g') =>match g'.lookup ("self" : Str) with
   | some (.inst _ fl') =>some (v,fl')
   | _ =>Option.none
  | _ =>Option.none
 else Option.none
noncomputable def runC (r : FnRec) (n : Nat) (G : Ge) (C : Str) (vs : List V) : Option (List (Str × V)) :=
 if selfOk r vs.length then
  match exs n G r.sc r.mu r.body (("self",.inst C []) :: parsOf r vs) with
  | some (.next g') =>match g'.lookup ("self" : Str) with
   | some (.inst _ fl') =>some fl'
   | _ =>Option.none
  | _ =>Option.none
 else Option.none
theorem FnAt.v (K : FnAt X r f o fd) (sv : Option (Addr × Addr)) : FnAt (X.v sv) r f o fd:=⟨K.at_,K.data,K.code,K.body,K.sc,K.glob,K.blt,K.clo,K.bind⟩
inductive MPe (H : List Addr) (h : Heap) (bs : List (Str × Value)) (x : Str) (av : AV) : Prop
 | mk (ne : x ≠ ("self" : Str)) (u : Value) (v : V) (h1 : bs.lookup x = some u) (e : av = .val v) (r : Rep (hideAll h H) v u) : MPe H h bs x av
inductive MPars (H : List Addr) (s : Shared) (r : FnRec) (fd : FuncData) (u0 : Value) (vs : List V) (us : List Value) : Prop
 | mk (bs : List (Str × Value)) (hb : BindsTo s fd ⟨u0 :: us,[]⟩ bs) (hn : bs.map (·.1) = r.names) (C : ScOk r.sc r.names) (hself : bs.lookup ("self" : Str) = some u0) (hloc : r.sc.names.lookup ("self" : Str) = some .local)
   (he : ∀ x av,(parsOf r vs).lookup x = some av → MPe H s.heap bs x av) : MPars H s r fd u0 vs us
theorem meth_pars (K : FnAt X r f o fd) {vs : List V} {us : List Value} (u0 : Value) (hs : Sub X.B0 s.heap) (hc : selfOk r vs.length = true) (hr : Reps (hideAll s.heap H) vs us) :
  MPars H s r fd u0 vs us:=by
 unfold selfOk at hc
 simp only [Bool.and_eq_true,List.contains_iff_mem,beq_iff_eq] at hc
 refine bc fun hN =>?_
 obtain ⟨⟨⟨h1,h2⟩,h3⟩,h4⟩:=hc
 have C:=scOk_of h2
 have hul:=hr.length
 obtain ⟨ws,hb,hwl,hw⟩:=K.bind (u0 :: us) [] [] s (by simpa [hul] using h1) rfl hs
 have hws:=hw (hideAll s.heap H) [] rfl .nil
 obtain ⟨rest,hn⟩ : ∃ rest,r.names = ("self" : Str) :: rest:=by
  cases e : r.names with
  | nil =>rw [e] at h3; exact nS h3
  | cons a b =>rw [e] at h3; obtain rfl:=Option.some.inj h3; exact ⟨b,rfl⟩
 have hnd:=C.nd
 rw [hn] at hnd
 obtain ⟨hn1,hn2⟩:=List.nodup_cons.mp hnd
 refine hN ?_; clear hN
 refine ⟨_,hb,List.map_fst_zip (by rw [List.length_append]; lia),C,by rw [hn]; rfl,h4,fun x av hl =>?_⟩
 have hall : Reps (hideAll s.heap H) (vs ++ restOf (r.names.drop (vs.length + 1)) r.dfl) (us ++ ws):=by
  have : (u0 :: us).length = vs.length + 1:=by simp [hul]
  simp only [this,List.nil_append] at hws
  exact hr.append hws
 unfold parsOf at hl
 refine bc fun hN =>?_
 obtain ⟨u,hu,v,rfl,hv⟩:=lookup_zip2 (P:=fun (a : AV) (u : Value) =>∃ v,a = .val v ∧ Rep (hideAll s.heap H) v u) (bs:=us ++ ws) (by rw [List.length_map]; exact hall.length.symm) (hall.at) hl
 refine hN ?_; clear hN
 have hx : x ≠ ("self" : Str):=fun h =>by
  have:=(List.of_mem_zip (lookup_mem hl)).1
  rw [hn] at this
  exact hn1 (h ▸ this)
 refine ⟨hx,u,v,?_,rfl,hv⟩
 rw [hn] at hu ⊢
 show List.lookup x ((("self" : Str),u0) :: rest.zip (us ++ ws)) = some u
 rw [List.lookup_cons]
 have : (x == ("self" : Str)) = false:=by simpa using hx
 rw [this]; exact hu
theorem pmSpec_of (hG : GOk2 X G N) (K : FnAt X r f o fd) {Ca : Addr} {vs : List V} {v : V} (h : runP r n G vs = some v) : PmSpec X (N + n + 1) Ca f vs v:=by
 intro A s H ix dx us Q E hA hs ho hix hr q
 unfold runP at h
 split at h
 ·rename_i hc
  refine bc fun hN =>?_
  obtain ⟨bs,hb,hbn,C,hself,hloc,hent⟩:=meth_pars (H:=H) K (.ref ix) hs hc hr
  refine hN ?_; clear hN
  split at h
  ·rename_i v' g' hfl
   obtain rfl:=Option.some.inj h
   have GV : Given (X.v none) s.heap H [] r.sc bs (parsOf r vs) s:=by
    refine ⟨hs,fun _ _ e =>e,ho,fun a ha =>(by cases ha),rfl,fun x av hl =>?_,fun ix dx e =>by cases e⟩
    refine bc fun hN =>?_
    obtain ⟨_,u,v,h1,rfl,h3⟩:=hent x av hl
    refine hN ?_; clear hN
    exact ⟨u,h1,h3⟩
   refine wpAny_call (call_body (X:=X.v none) (hG.v none) rfl (K.v none) (by rw [hbn]; exact C) hA hs hb GV (fun _ h =>by cases h) hfl fun u s' ⟨⟨h1,t1,e1⟩,hB,hr',_,_,_⟩ =>q u s' ⟨h1,t1,e1,?_⟩ hr')
   subst e1; exact hB
  ·exact nS h
 ·exact nS h
theorem given_self {ix dx Ca : Addr} {C : Str} {fl : List (Str × V)} {es : List DictEntry} {k : Nat} {bs : List (Str × Value)} {vs : List V} (hs : Sub X.B0 s.heap) (ho : HOk H s.heap) (hix : s.heap.get? ix = some (instObj Ca dx)) (hdx : s.heap.get? dx = some (dictOf es k)) (hdH : dx ∉ H) (hdB : X.B0.get? dx = none) (hCa : X.clsA C = some Ca)
  (hfl : Flds (hideAll s.heap H) fl es) (hself : bs.lookup ("self" : Str) = some (.ref ix)) (hent : ∀ x av,(parsOf r vs).lookup x = some av → MPe H s.heap bs x av) :
  Given (X.v (some (ix,dx))) (hideAll s.heap [dx]) H [dx] r.sc bs (("self",.inst C fl) :: parsOf r vs) s:=by
 have hne : ix ≠ dx:=fun h =>by simp only [h,hdx] at hix; cases hix
 refine ⟨fun b o (e : X.B0.get? b = some o) =>hideAll_get _ (hs b o e) (fun hm =>by rw [List.mem_singleton.mp hm] at e; rw [hdB] at e; exact nS e),fun b o e =>of_hideAll _ e,fun a ha =>?_,fun a ha =>?_,rfl,fun x av hl =>?_,fun i d e =>?_⟩
 ·refine bc fun hN =>?_
  obtain ⟨ob,e⟩:=ho a ha
  refine hN ?_; clear hN
  exact ⟨ob,hideAll_get _ e fun hm =>hdH (by rw [← List.mem_singleton.mp hm]; exact ha)⟩
 ·rw [List.mem_singleton.mp ha]
  exact ⟨hideAll_none _ (.head _),es,k,hdx⟩
 ·rw [List.lookup_cons] at hl
  by_cases hx : x = ("self" : Str)
  ·subst hx
   simp only [beq_self_eq_true] at hl
   obtain rfl:=Option.some.inj hl
   exact ⟨.ref ix,hself,ix,dx,Ca,es,k,rfl,rfl,rfl,hCa,hix,hdx,.head _,fun hm =>hne (List.mem_singleton.mp hm),hfl⟩
  ·have : (x == ("self" : Str)) = false:=by simpa using hx
   rw [this] at hl
   refine bc fun hN =>?_
   obtain ⟨_,u,v,h1,rfl,h3⟩:=hent x av hl
   refine hN ?_; clear hN
   exact ⟨u,h1,h3⟩
 ·cases e; exact hself
theorem mSpec_of (hG : GOk2 X G N) (K : FnAt X r f o fd) {Ca : Addr} {C : Str} {fl fl' : List (Str × V)} {vs : List V} {v : V} (hCa : X.clsA C = some Ca) (h : runM r n G C fl vs = some (v,fl')) : MSpec X (N + n + 1) Ca f fl vs v fl':=by
 intro A s H ix dx es k us Q E hA hs ho hix hdx hdH hdB hfl hr q
 unfold runM at h
 split at h
 ·rename_i hc
  refine bc fun hN =>?_
  obtain ⟨bs,hb,hbn,C',hself,hloc,hent⟩:=meth_pars (H:=H) K (.ref ix) hs hc hr
  refine hN ?_; clear hN
  split at h
  ·rename_i v' g' hex
   split at h
   ·rename_i C2 fl2 hg
    cases h
    have GV:=given_self (C:=C) hs ho hix hdx hdH hdB hCa hfl hself hent
    refine wpAny_call (call_body (X:=X.v (some (ix,dx))) (hG.v _) rfl (K.v _) (by rw [hbn]; exact C') hA hs hb GV (fun _ h =>by cases h) hex fun u s' ⟨⟨h1,t1,e1⟩,hB,hr',env,Mu',S'⟩ =>?_)
    refine bc fun hN =>?_
    obtain ⟨es',n',hd',hf'⟩:=self_fields S' rfl hloc hg
    refine hN ?_; clear hN
    subst e1
    exact q u h1 t1 es' n' (fun b o hb e =>hB b o (hideAll_get _ e fun hm =>hb (List.mem_singleton.mp hm))) hd' hf' hr'
   ·exact nS h
  ·exact nS h
 ·exact nS h
theorem under_new {Ca : Addr} {us : List Value} (hA : Room A (n + 1)) : Room (A.under (.builtin "type.__call__" ⟨.ref Ca :: us,[]⟩)) n:=by
 have w : (Code.builtin "type.__call__" ⟨.ref Ca :: us,[]⟩).weight = 1:=by kernel_rfl
 have c : (Code.builtin "type.__call__" ⟨.ref Ca :: us,[]⟩).cUnits = 1:=by kernel_rfl
 refine ⟨hA.hh,?_,?_⟩
 ·have:=hA.depth
  show A.depth + (Code.builtin "type.__call__" ⟨.ref Ca :: us,[]⟩).weight + n < 600
  rw [w]; lia
 ·have:=hA.units
  show A.units + (Code.builtin "type.__call__" ⟨.ref Ca :: us,[]⟩).cUnits + 8 * n < 9000
  rw [c]; lia
theorem cSpec_of (hG : GOk2 X G N) (K : FnAt X r f o fd) {Ca : Addr} {C : Str} {fl : List (Str × V)} {vs : List V} (hCa : X.clsA C = some Ca) (hm : makesIn X.K Ca = true) (hi : findIn X.K (.ref Ca) "__init__" = some (some (.ref f))) (hf : typeIn X.K (.ref f) = some (.type "function"))
  (h : runC r n G C vs = some fl) : CSpec X (N + n + 2) Ca vs fl:=by
 intro A s H us Q E hA hs ho hr q
 unfold runC at h
 split at h
 ·rename_i hc
  split at h
  ·rename_i g' hex
   split at h
   ·rename_i C2 fl2 hg
    obtain rfl:=Option.some.inj h
    refine bc fun hN =>?_
    obtain ⟨hh,gg,dd,tt,os⟩:=s
    refine hN ?_; clear hN
    have XK : X.K.In hh:=X.kin.keeps hs
    refine wpAny_call (make_core (makes_of XK hm) (looks_findIn XK hi) (fun self =>bind_fn XK self hf) (.inl rfl) ?_)
    let s1 : Shared:=⟨(hh.push emptyDict).push (instObj Ca hh.objs.size),gg,dd,tt,os⟩
    have k1 : Kp (⟨hh,gg,dd,tt,os⟩ : Shared) s1:=⟨_,tt,rfl,fun b o e =>Heap.get?_push_of_some _ (Heap.get?_push_of_some _ e)⟩
    have hix : s1.heap.get? (hh.objs.size + 1) = some (instObj Ca hh.objs.size):=by
     have : ((hh.push emptyDict).push (instObj Ca hh.objs.size)).get? (hh.push emptyDict).objs.size = some (instObj Ca hh.objs.size):=Heap.get?_push_size _ rfl
     rwa [Heap.size_push] at this
    have hdx : s1.heap.get? hh.objs.size = some (dictOf [] 0):=Heap.get?_push_of_some _ (Heap.get?_push_size _ rfl)
    have n0 : hh.get? hh.objs.size = none:=get_size
    have n1 : hh.get? (hh.objs.size + 1) = none:=by
     cases e : hh.get? (hh.objs.size + 1) with
     | none =>rfl
     | some o =>exact absurd (Heap.lt_size e) (Nat.not_lt.mpr (Nat.le_succ _))
    have hdB : X.B0.get? hh.objs.size = none:=by
     cases e : X.B0.get? hh.objs.size with
     | none =>rfl
     | some o =>have:=hs _ _ e; simp only [show ({ heap:=hh,gens:=gg,drawn:=dd,toks:=tt,os:=os } : Shared).heap.get? hh.objs.size = none from n0] at this; exact nS this
    have hdH : hh.objs.size ∉ H:=ho.fresh
    have hs1 : Sub X.B0 s1.heap:=fun b o e =>k1.keep b o (hs b o e)
    have hr1:=hr.kp k1
    have ho1:=ho.kp k1
    refine bc fun hN =>?_
    obtain ⟨bs,hb,hbn,C',hself,hloc,hent⟩:=meth_pars (s:=s1) (H:=H) K (.ref (hh.objs.size + 1)) hs1 hc hr1
    refine hN ?_; clear hN
    have GV:=given_self (s:=s1) (C:=C) hs1 ho1 hix hdx hdH hdB hCa (fl:=[]) (by unfold Flds; rfl) hself hent
    refine call_body (s:=s1) (X:=X.v (some (hh.objs.size + 1,hh.objs.size))) (hG.v _) rfl (K.v _) (by rw [hbn]; exact C') (under_new (n:=N + n + 1) hA) hs1 hb GV (fun _ h =>by cases h) hex fun u s' ⟨hu,⟨h1,t1,e1⟩,hB,env,H',Mu',hHH,S'⟩ =>?_
    refine bc fun hN =>?_
    obtain ⟨es',n',hd',hf'⟩:=self_fields S' rfl hloc hg
    refine hN ?_; clear hN
    refine ⟨hu,?_⟩
    subst e1
    have kB : ∀ b o,b ≠ hh.objs.size → s1.heap.get? b = some o → h1.get? b = some o:=fun b o hb e =>hB b o (hideAll_get _ e fun hm =>hb (List.mem_singleton.mp hm))
    refine q (hh.objs.size + 1) hh.objs.size es' n' _ ⟨h1,t1,rfl,fun b o e =>kB b o (fun hb =>?_) (k1.keep b o e)⟩ n1 n0 (Nat.succ_ne_self _) (kB _ _ (Nat.succ_ne_self _) hix) hd' (hf'.mono (.of (hide_sub hHH)))
    rw [hb] at e
    simp only [show ({ heap:=hh,gens:=gg,drawn:=dd,toks:=tt,os:=os } : Shared).heap.get? hh.objs.size = none from n0] at e; exact nS e
   ·exact nS h
  ·exact nS h
 ·exact nS h
end
structure Tab where
 cst : Str → Option V
 fn : Str → Option FnRec
 meth : Str → Str → Option FnRec
 flds : Str → List Str
noncomputable abbrev fuel : Nat:=40
noncomputable def geOf (T : Tab) : Nat → Ge
 | 0 =>{ cst:=T.cst,fn:=fun _ _ _ =>.none,pm:=fun _ _ _ =>.none,cls:=fun _ _ =>.none,flds:=T.flds,mth:=fun _ _ _ _ =>.none }
 | k + 1 =>{
  cst:=T.cst
  fn:=fun f vs kvs =>(T.fn f).bind fun r =>runF r fuel (geOf T k) vs kvs
  pm:=fun C m vs =>(T.meth C m).bind fun r =>runP r fuel (geOf T k) vs
  cls:=fun C vs =>(T.meth C "__init__").bind fun r =>runC r fuel (geOf T k) C vs
  flds:=T.flds
  mth:=fun C m fl vs =>(T.meth C m).bind fun r =>runM r fuel (geOf T k) C fl vs }
structure TabOk (X : Gx) (T : Tab) : Prop where
 cst : ∀ x v,T.cst x = some v → ∃ u,X.mg x = some u ∧ ∀ h,Rep h v u
 fn : ∀ f r,T.fn f = some r → ∃ a o fd,X.mg f = some (.ref a) ∧ keepIn X.K (.ref a) = true ∧ FnAt X r a o fd
 meth : ∀ C m r Ca,T.meth C m = some r → X.clsA C = some Ca → ∃ a o fd,MethAt X Ca m a ∧ FnAt X r a o fd
 init : ∀ C r,T.meth C "__init__" = some r → ∃ Ca a o fd,X.clsA C = some Ca ∧ X.mg C = some (.ref Ca) ∧ keepIn X.K (.ref Ca) = true ∧ makesIn X.K Ca = true ∧ findIn X.K (.ref Ca) "__init__" = some (some (.ref a)) ∧ typeIn X.K (.ref a) = some (.type "function") ∧ FnAt X r a o fd
 flds : ∀ C f Ca,f ∈ T.flds C → X.clsA C = some Ca → FieldAt X Ca f ∧ SetAt X Ca f
theorem ge_ok {X : Gx} {T : Tab} (h : TabOk X T) : ∀ k,GOk2 X (geOf T k) (42 * k)
 | 0 =>{ cst:=h.cst,fn:=fun _ _ _ _ e =>(by exact nS e),pm:=fun _ _ _ _ _ e =>(by exact nS e),flds:=fun C f Ca h1 h2 =>(h.flds C f Ca h1 h2).1,cls:=fun _ _ _ e =>(by exact nS e),mth:=fun _ _ _ _ _ _ _ e =>(by exact nS e),sets:=fun C f Ca h1 h2 =>(h.flds C f Ca h1 h2).2 }
 | k + 1 =>by
  have ih:=ge_ok h k
  have e1 : 42 * k + fuel + 1 ≤ 42 * (k + 1):=by show 42 * k + 40 + 1 ≤ _; lia
  have e2 : 42 * k + fuel + 2 ≤ 42 * (k + 1):=by show 42 * k + 40 + 2 ≤ _; lia
  refine { cst:=h.cst,fn:=fun f vs kvs r e =>?_,pm:=fun C m vs r Ca e hC =>?_,flds:=fun C f Ca h1 h2 =>(h.flds C f Ca h1 h2).1,cls:=fun C vs fl e =>?_,mth:=fun C m fl vs r fl' Ca e hC =>?_,sets:=fun C f Ca h1 h2 =>(h.flds C f Ca h1 h2).2 }
  ·refine bc fun hN =>?_
   refine bind_el e fun rr hr e =>?_
   obtain ⟨a,o,fd,hm,hk,FA⟩:=h.fn f rr hr
   refine hN ?_; clear hN
   exact ⟨a,hm,hk,fun A s H us kus Q E hA =>fnSpec_of ih FA e A s H us kus Q E (hA.mono e1)⟩
  ·refine bc fun hN =>?_
   refine bind_el e fun rr hr e =>?_
   obtain ⟨a,o,fd,M,FA⟩:=h.meth C m rr Ca hr hC
   refine hN ?_; clear hN
   exact ⟨a,M,fun A s H ix dx us Q E hA =>pmSpec_of ih FA e A s H ix dx us Q E (hA.mono e1)⟩
  ·refine bc fun hN =>?_
   refine bind_el e fun rr hr e =>?_
   obtain ⟨Ca,a,o,fd,h1,h2,h3,h4,h5,h6,FA⟩:=h.init C rr hr
   refine hN ?_; clear hN
   exact ⟨Ca,h1,h2,h3,fun A s H us Q E hA =>cSpec_of ih FA h1 h4 h5 h6 e A s H us Q E (hA.mono e2)⟩
  ·refine bc fun hN =>?_
   refine bind_el e fun rr hr e =>?_
   obtain ⟨a,o,fd,M,FA⟩:=h.meth C m rr Ca hr hC
   refine hN ?_; clear hN
   exact ⟨a,M,fun A s H ix dx es n us Q E hA =>mSpec_of ih FA hC e A s H ix dx es n us Q E (hA.mono e1)⟩
end Mine
end
section
namespace Mine
open PySem
section
noncomputable def recOf (st : Option Stmt) (mu : List Str) (pats : List (Nat × List Str)) (dfl : List (Str × V)) : FnRec:={ names:=(arO st).args.map fun (q : Arg) =>q.arg,body:=bdO st,sc:=scO st,mu:=mu,pats:=pats,dfl:=dfl }
noncomputable def fnk (k : Nat) (mu : List Str) (pats : List (Nat × List Str)) (dfl : List (Str × V)) : FnRec:=recOf mbody[k]? mu pats dfl
noncomputable def mtk (k j : Nat) (mu : List Str) (pats : List (Nat × List Str)) (dfl : List (Str × V)) : FnRec:=recOf (inCls mbody[k]? j) mu pats dfl
noncomputable abbrev ent {α : Type} (x : Str) (a : α) : Str × α:=(x,a)
noncomputable def fnTab : List (Str × FnRec):=[
 ent "is_code" (fnk 12 [] [(1,[])] []),ent "is_high" (fnk 13 [] [(1,[])] []),ent "is_low" (fnk 14 [] [(1,[])] []),ent "is_surrogate" (fnk 15 [] [(1,[])] []),ent "is_scalar" (fnk 16 [] [(1,[])] []),ent "check_scalars" (fnk 17 [] [(1,[])] []),
 ent "utf8_octets" (fnk 25 [] [(1,[])] []),ent "encode_utf8" (fnk 26 ["found"] [(1,[])] []),ent "utf8_lead" (fnk 27 [] [(1,[])] []),ent "utf8_piece" (fnk 28 [] [(2,[])] []),ent "decode_utf8" (fnk 29 ["found"] [(1,[])] []),ent "decode_utf8_replaced" (fnk 30 ["found"] [(1,[])] []),
 ent "utf16_units" (fnk 36 ["found"] [(1,[])] []),ent "utf16_joined" (fnk 37 [] [(2,[])] []),ent "utf16_octets" (fnk 38 [] [(2,[])] []),ent "utf16_unit" (fnk 39 [] [(3,[])] []),
 ent "encode_utf16" (fnk 40 ["found"] [(2,[]),(2,["with_mark"])] [("with_mark",.bool false)]),ent "utf16_step" (fnk 41 [] [(3,[])] []),ent "utf16_start" (fnk 42 [] [(2,[])] []),ent "decode_utf16_replaced" (fnk 43 ["found"] [(2,[])] []),
 ent "encode_utf32" (fnk 45 ["found"] [(2,[]),(2,["with_mark"])] [("with_mark",.bool false)]),ent "utf32_step" (fnk 46 ["row"] [(3,[])] []),ent "utf32_start" (fnk 47 [] [(2,[])] []),ent "decode_utf32" (fnk 48 ["found"] [(2,[])] []),
 ent "encoding_marks" (fnk 49 [] [(0,[])] []),ent "sniffed" (fnk 50 [] [(1,[])] []),ent "unmarked" (fnk 51 [] [(1,[])] []),
 ent "_law_is_begun" (fnk 54 [] [(1,[])] []),ent "_law_code" (fnk 55 [] [(1,[])] []),ent "_law_cut" (fnk 56 ["found"] [(1,[])] []),ent "_law_written" (fnk 57 [] [(1,[])] []),ent "_law_codes" (fnk 58 [] [(2,[])] []),ent "_law_halves" (fnk 59 ["found"] [(1,[])] []),ent "_law_units" (fnk 60 [] [(2,[])] []),
 ent "_law_wide" (fnk 61 [] [(3,[])] []),ent "_law_pieces" (fnk 62 [] [(2,[])] []),ent "_law_streams_right" (fnk 63 [] [(2,[])] []),ent "_law_round_right" (fnk 64 [] [(3,[])] []),ent "law" (fnk 65 [] [(1,[])] [])]
noncomputable def cstTab : List (Str × V):=[ent "MAX_CODE" (.int 1114111),ent "HIGH_FIRST" (.int 55296),ent "HIGH_LAST" (.int 56319),ent "LOW_FIRST" (.int 56320),ent "LOW_LAST" (.int 57343),ent "REPLACEMENT" (.int 65533),ent "ORDER_MARK" (.int 65279),ent "SUPPLEMENTARY" (.int 65536),
 ent "UTF8_ALONE" (.str "a trail octet without a lead"),ent "UTF8_NEVER" (.str "an octet that never stands"),ent "UTF8_BROKEN" (.str "a sequence that breaks off"),ent "UTF8_SHORT" (.str "a sequence that is cut short"),ent "UTF8_TRAIL" (.int 128),ent "UTF8_PLANE" (.int 65536),
 ent "BIG" (.str "be"),ent "HALF_BITS" (.int 10),ent "HALF_MASK" (.int 1023),ent "_law_octets" (.bytes [65,127,128,143,144,159,160,191,192,194,223,224,225,237,239,240,241,244,245,255,216,220,254,0])]
noncomputable def methTab : List ((Str × Str) × FnRec):=[
 (("Utf8Stream","__init__"),mtk 31 0 [] [(1,[])] [("is_strict",.bool false)]),(("Utf8Stream","feed"),mtk 31 1 ["found"] [(3,[])] []),
 (("Utf16Stream","__init__"),mtk 44 0 [] [(1,[]),(3,[])] [("order",.none),("is_strict",.bool true)]),(("Utf16Stream","is_lacking"),mtk 44 1 [] [(4,[])] []),(("Utf16Stream","feed"),mtk 44 2 ["found"] [(3,[])] [])]
noncomputable def fldTab : List (Str × List Str):=[("Utf8Stream",["is_strict","waiting","place"]),("Utf16Stream",["order","is_strict","left","used"])]
noncomputable def tab : Tab where
 cst x:=cstTab.lookup x
 fn f:=fnTab.lookup f
 meth C m:=methTab.lookup (C,m)
 flds C:=(fldTab.lookup C).getD []
end
end Mine
end
section
namespace Mine
open PySem PySem.W PyProof.Rows
noncomputable def FnGood (X : Gx) (f : Str) (r : FnRec) : Prop:=∃ a o fd,X.mg f = some (.ref a) ∧ keepIn X.K (.ref a) = true ∧ FnAt X r a o fd
noncomputable def BindOk (X : Gx) (r : FnRec) (fd : FuncData) : Prop:=∀ (us kus : List Value) (kwn : List Str) (s : Shared),(us.length,kwn) ∈ r.pats → kus.length = kwn.length → Sub X.B0 s.heap → ∃ ws,BindsTo s fd ⟨us,kwn.zip kus⟩ (r.names.zip (us ++ ws)) ∧ us.length + ws.length = r.names.length ∧
  ∀ h (kvs : List (Str × V)),kvs.map (·.1) = kwn → Reps h (kvs.map (·.2)) kus → Reps h (restOf (r.names.drop us.length) (kvs ++ r.dfl)) ws
theorem bind_plain {X : Gx} {r : FnRec} {fd : FuncData} {n : Nat} {ns : List Str} (hp : r.pats = [(n,[])]) (hns : r.names = ns) (hn : ns.length = n) (h : ∀ us : List Value,us.length = n → bindArgs fd ⟨us,[]⟩ = pure (ns.zip us)) : BindOk X r fd:=by
 subst hns
 intro us kus kwn s hm hk hs
 rw [hp] at hm
 have:=List.mem_singleton.mp hm
 cases this
 have hk0 : kus = []:=List.length_eq_zero_iff.mp hk
 subst hk0
 refine ⟨[],BindsTo.of_eq ?_,by simp [hn],fun h' kvs _ _ =>?_⟩
 ·rw [List.append_nil]; exact h us rfl
 ·rw [List.drop_eq_nil_of_le (by omega)]; exact .nil
section
variable {X : Gx} {K : Frag} {f : Str} {r : FnRec} {a : Addr} {oc : Value} {od : Option Addr} {osl : Array (Option Value)} {fd : FuncData}
theorem fnAt_of (hK : X.K = K) (h2 : K.lookup a = some ⟨oc,od,.func fd,osl⟩) (h3 : codeIn K fd.code fd.qualname = true) (hb : fd.body = .stmts r.body) (hs : fd.scope = r.sc) (hg : fd.globals = mainGlobals) (hbl : fd.builtins = builtinsNs) (hc : fd.closure = [])
  (hbind : BindOk X r fd) : FnAt X r a ⟨oc,od,.func fd,osl⟩ fd:=by
 subst hK
 exact ⟨X.kin _ _ h2,rfl,codeRec_of X.kin h3,hb,hs,hg,hbl,hc,hbind⟩
end
section
variable {X : Gx} {P : Params} {f : Str} {st : Option Stmt} {mu : List Str} {pats : List (Nat × List Str)} {dfl : List (Str × V)} {a : Addr} {m d : Value} {q : Str}
theorem fnat_K (hK : X.K = Kd P) (h2 : (Kd P).lookup a = some (fnO a st q m d).2) (h3 : codeIn (Kd P) (.ref (a - 1)) q = true) (hbind : BindOk X (recOf st mu pats dfl) (fdO a st q m d)) : FnAt X (recOf st mu pats dfl) a (fnO a st q m d).2 (fdO a st q m d) :=
 fnAt_of hK h2 h3 rfl rfl rfl rfl rfl hbind
theorem good_K (hK : X.K = Kd P) (a : Addr) (m d : Value) (h1 : nsIn (Kd P) mainGlobals f = some (some (.ref a))) (h4 : keepIn (Kd P) (.ref a) = true) (h2 : (Kd P).lookup a = some (fnO a st f m d).2) (h3 : codeIn (Kd P) (.ref (a - 1)) f = true) (hbind : BindOk X (recOf st mu pats dfl) (fdO a st f m d)) : FnGood X f (recOf st mu pats dfl) :=
 ⟨a,_,_,mg_of X.kin X.g (by rw [hK]; exact h1),by rw [hK]; exact h4,fnat_K hK h2 h3 hbind⟩
theorem good_F (hK : X.K = Kd P) (f : Str) (k : Nat) (mu : List Str) (pats : List (Nat × List Str)) (dfl : List (Str × V)) (a : Addr) (m d : Value) (h1 : nsIn (Kd P) mainGlobals f = some (some (.ref a))) (h4 : keepIn (Kd P) (.ref a) = true) (h2 : (Kd P).lookup a = some (fnO a mbody[k]? f m d).2) (h3 : codeIn (Kd P) (.ref (a - 1)) f = true) (hbind : BindOk X (recOf mbody[k]? mu pats dfl) (fdO a mbody[k]? f m d)) : FnGood X f (fnk k mu pats dfl):=good_K hK a m d h1 h4 h2 h3 hbind
end
section
variable {X : Gx} {r : FnRec} {fd : FuncData}
theorem bp0 (hp : r.pats = [(0,[])]) (hn : r.names.length = 0) (h : bindArgs fd ⟨[],[]⟩ = pure (r.names.zip [])) : BindOk X r fd:=bind_plain hp rfl hn fun us hu =>by
 cases us with
 | nil =>exact h
 | cons _ _ =>cases hu
theorem bp1 (hp : r.pats = [(1,[])]) (hn : r.names.length = 1) (h : ∀ u,bindArgs fd ⟨[u],[]⟩ = pure (r.names.zip [u])) : BindOk X r fd:=bind_plain hp rfl hn fun us hu =>by
 rcases us with _ | ⟨u1,_ | ⟨u2,us⟩⟩ <;> first | exact h _ | simp at hu
theorem bp2 (hp : r.pats = [(2,[])]) (hn : r.names.length = 2) (h : ∀ u v,bindArgs fd ⟨[u,v],[]⟩ = pure (r.names.zip [u,v])) : BindOk X r fd:=bind_plain hp rfl hn fun us hu =>by
 rcases us with _ | ⟨u1,_ | ⟨u2,_ | ⟨u3,us⟩⟩⟩ <;> first | exact h _ _ | simp at hu
theorem bp3 (hp : r.pats = [(3,[])]) (hn : r.names.length = 3) (h : ∀ u v w,bindArgs fd ⟨[u,v,w],[]⟩ = pure (r.names.zip [u,v,w])) : BindOk X r fd:=bind_plain hp rfl hn fun us hu =>by
 rcases us with _ | ⟨u1,_ | ⟨u2,_ | ⟨u3,_ | ⟨u4,us⟩⟩⟩⟩ <;> first | exact h _ _ _ | simp at hu
theorem bp4 (hp : r.pats = [(4,[])]) (hn : r.names.length = 4) (h : ∀ u v w x,bindArgs fd ⟨[u,v,w,x],[]⟩ = pure (r.names.zip [u,v,w,x])) : BindOk X r fd:=bind_plain hp rfl hn fun us hu =>by
 rcases us with _ | ⟨u1,_ | ⟨u2,_ | ⟨u3,_ | ⟨u4,_ | ⟨u5,us⟩⟩⟩⟩⟩ <;> first | exact h _ _ _ _ | simp at hu
end
section
variable {X : Gx} {r : FnRec} {fd : FuncData}
noncomputable def BindAt (X : Gx) (r : FnRec) (fd : FuncData) (n : Nat) (k : List Str) : Prop:=∀ (us kus : List Value) (s : Shared),us.length = n → kus.length = k.length → Sub X.B0 s.heap → ∃ ws,BindsTo s fd ⟨us,k.zip kus⟩ (r.names.zip (us ++ ws)) ∧ us.length + ws.length = r.names.length ∧
  ∀ h (kvs : List (Str × V)),kvs.map (·.1) = k → Reps h (kvs.map (·.2)) kus → Reps h (restOf (r.names.drop us.length) (kvs ++ r.dfl)) ws
theorem bk1 {n : Nat} {k : List Str} (hp : r.pats = [(n,k)]) (h : BindAt X r fd n k) : BindOk X r fd:=fun us kus kwn s hm hk hs =>by
 rw [hp] at hm
 cases List.mem_singleton.mp hm
 exact h us kus s rfl hk hs
theorem bk2 {n n' : Nat} {k k' : List Str} (hp : r.pats = [(n,k),(n',k')]) (h : BindAt X r fd n k) (h' : BindAt X r fd n' k') : BindOk X r fd:=fun us kus kwn s hm hk hs =>by
 rw [hp] at hm
 rcases List.mem_cons.mp hm with e | e
 ·cases e; exact h us kus s rfl hk hs
 ·cases List.mem_singleton.mp e; exact h' us kus s rfl hk hs
theorem len1 {α : Type} {us : List α} (h : us.length = 1) : ∃ a,us = [a]:=List.length_eq_one_iff.mp h
theorem len2 {α : Type} {us : List α} (h : us.length = 2) : ∃ a b,us = [a,b]:=by
 cases us with
 | nil =>cases h
 | cons a us =>
  obtain ⟨b,rfl⟩:=len1 (Nat.succ.inj h)
  exact ⟨a,b,rfl⟩
theorem len3 {α : Type} {us : List α} (h : us.length = 3) : ∃ a b c,us = [a,b,c]:=by
 cases us with
 | nil =>cases h
 | cons a us =>
  obtain ⟨b,c,rfl⟩:=len2 (Nat.succ.inj h)
  exact ⟨a,b,c,rfl⟩
theorem bat0 {n : Nat} (h : ∀ (us : List Value) (s : Shared),us.length = n → Sub X.B0 s.heap → ∃ ws,BindsTo s fd ⟨us,[]⟩ (r.names.zip (us ++ ws)) ∧ us.length + ws.length = r.names.length ∧ ∀ h,Reps h (restOf (r.names.drop us.length) r.dfl) ws) : BindAt X r fd n []:=fun us kus s hl hk hs =>by
 obtain rfl:=List.length_eq_zero_iff.mp hk
 refine bc fun hN =>?_
 obtain ⟨ws,a,b,c⟩:=h us s hl hs
 refine hN ?_
 exact ⟨ws,a,b,fun h kvs e _ =>by obtain rfl:=List.map_eq_nil_iff.mp e; exact c h⟩
theorem kv1 {x : Str} {kvs : List (Str × V)} (h : kvs.map (·.1) = [x]) : ∃ v,kvs = [(x,v)]:=by
 obtain ⟨⟨y,v⟩,rfl⟩:=len1 ((List.length_map _).symm.trans (congrArg List.length h))
 obtain rfl:=(List.cons.inj h).1
 exact ⟨v,rfl⟩
end
noncomputable def clsAd (C : Str) : Option Addr:=List.lookup C [ent "Utf8Stream" 169,ent "Utf16Stream" 264]
theorem g_encode_utf16 {X : Gx} {P : Params} (hK : X.K = Kd P) : FnGood X "encode_utf16" (fnk 40 ["found"] [(2,[]),(2,["with_mark"])] [("with_mark",.bool false)]):=by
 exact good_K hK 209 (.str "unicore.utf16" 432) (.ref 202) (by kernel_rfl) (by kernel_rfl) (by kernel_rfl) (by kernel_rfl) (
 bk2 rfl (bat0 fun us s hl hs =>by
  obtain ⟨u1,u2,rfl⟩:=len2 hl
  have XK : (Kd P).In s.heap:=by rw [← hK]; exact X.kin.keeps hs
  refine' ⟨[_],binds_K XK rfl ?ho1 ?sq1 ?b1 ?c1,?hl1,fun h =>(.cons (show Rep h (.bool false) _ by unfold Rep; rfl) .nil)⟩
  case ho1 =>rfl
  case sq1 =>rfl
  case b1 =>rfl
  case c1 =>rfl
  case hl1 =>rfl)
  (fun us kus s hl hk hs =>by
  obtain ⟨u1,u2,rfl⟩:=len2 hl
  obtain ⟨k1,rfl⟩:=len1 hk
  have XK : (Kd P).In s.heap:=by rw [← hK]; exact X.kin.keeps hs
  refine' ⟨[k1],binds_K XK rfl ?ho2 ?sq2 ?b2 ?c2,?hl2,fun h kvs hkv hr =>?hr2⟩
  case ho2 =>rfl
  case sq2 =>rfl
  case b2 =>rfl
  case c2 =>rfl
  case hl2 =>rfl
  case hr2 =>
   obtain ⟨v,rfl⟩:=kv1 hkv
   obtain ⟨w,hw,rw⟩:=hr.one
   obtain rfl:=(List.cons.inj hw).1
   exact .cons rw .nil))
theorem g_decode_utf16_replaced {X : Gx} {P : Params} (hK : X.K = Kd P) : FnGood X "decode_utf16_replaced" (fnk 43 ["found"] [(2,[])] []):=by
 exact good_K hK 231 (.str "unicore.utf16" 432) (.ref 224) (by kernel_rfl) (by kernel_rfl) (by kernel_rfl) (by kernel_rfl) (
 bk1 rfl (bat0 fun us s hl hs =>by
  obtain ⟨u1,u2,rfl⟩:=len2 hl
  have XK : (Kd P).In s.heap:=by rw [← hK]; exact X.kin.keeps hs
  refine' ⟨[],binds_K XK rfl ?ho1 ?sq1 ?b1 ?c1,?hl1,fun h =>.nil⟩
  case ho1 =>rfl
  case sq1 =>rfl
  case b1 =>rfl
  case c1 =>rfl
  case hl1 =>rfl))
theorem g_encode_utf32 {X : Gx} {P : Params} (hK : X.K = Kd P) : FnGood X "encode_utf32" (fnk 45 ["found"] [(2,[]),(2,["with_mark"])] [("with_mark",.bool false)]):=by
 exact good_K hK 276 (.str "unicore.utf16" 432) (.ref 269) (by kernel_rfl) (by kernel_rfl) (by kernel_rfl) (by kernel_rfl) (
 bk2 rfl (bat0 fun us s hl hs =>by
  obtain ⟨u1,u2,rfl⟩:=len2 hl
  have XK : (Kd P).In s.heap:=by rw [← hK]; exact X.kin.keeps hs
  refine' ⟨[_],binds_K XK rfl ?ho1 ?sq1 ?b1 ?c1,?hl1,fun h =>(.cons (show Rep h (.bool false) _ by unfold Rep; rfl) .nil)⟩
  case ho1 =>rfl
  case sq1 =>rfl
  case b1 =>rfl
  case c1 =>rfl
  case hl1 =>rfl)
  (fun us kus s hl hk hs =>by
  obtain ⟨u1,u2,rfl⟩:=len2 hl
  obtain ⟨k1,rfl⟩:=len1 hk
  have XK : (Kd P).In s.heap:=by rw [← hK]; exact X.kin.keeps hs
  refine' ⟨[k1],binds_K XK rfl ?ho2 ?sq2 ?b2 ?c2,?hl2,fun h kvs hkv hr =>?hr2⟩
  case ho2 =>rfl
  case sq2 =>rfl
  case b2 =>rfl
  case c2 =>rfl
  case hl2 =>rfl
  case hr2 =>
   obtain ⟨v,rfl⟩:=kv1 hkv
   obtain ⟨w,hw,rw⟩:=hr.one
   obtain rfl:=(List.cons.inj hw).1
   exact .cons rw .nil))
theorem g_decode_utf32 {X : Gx} {P : Params} (hK : X.K = Kd P) : FnGood X "decode_utf32" (fnk 48 ["found"] [(2,[])] []):=by
 exact good_K hK 298 (.str "unicore.utf16" 432) (.ref 291) (by kernel_rfl) (by kernel_rfl) (by kernel_rfl) (by kernel_rfl) (
 bk1 rfl (bat0 fun us s hl hs =>by
  obtain ⟨u1,u2,rfl⟩:=len2 hl
  have XK : (Kd P).In s.heap:=by rw [← hK]; exact X.kin.keeps hs
  refine' ⟨[],binds_K XK rfl ?ho1 ?sq1 ?b1 ?c1,?hl1,fun h =>.nil⟩
  case ho1 =>rfl
  case sq1 =>rfl
  case b1 =>rfl
  case c1 =>rfl
  case hl1 =>rfl))
noncomputable def CstGood (X : Gx) (x : Str) (v : V) : Prop:=∃ u,X.mg x = some u ∧ ∀ h,Rep h v u
theorem cst_int {X : Gx} {K : Frag} {x : Str} {i : Int} {t : Tok} (hK : X.K = K) (h : nsIn K mainGlobals x = some (some (.int i t))) : CstGood X x (.int i):=⟨_,by subst hK; exact mg_of X.kin X.g h,fun _ =>by unfold Rep; exact ⟨_,rfl⟩⟩
theorem cst_str {X : Gx} {K : Frag} {x y : Str} {t : Tok} (hK : X.K = K) (h : nsIn K mainGlobals x = some (some (.str y t))) : CstGood X x (.str y):=⟨_,by subst hK; exact mg_of X.kin X.g h,fun _ =>by unfold Rep; exact ⟨_,rfl⟩⟩
theorem cst_bytes {X : Gx} {K : Frag} {x : Str} {b : Array UInt8} {ks : List Int} {t : Tok} (hK : X.K = K) (h : nsIn K mainGlobals x = some (some (.bytes b t))) (e : KBw.bInts b = ks) : CstGood X x (.bytes ks):=⟨_,by subst hK; exact mg_of X.kin X.g h,fun _ =>by unfold Rep; exact ⟨_,_,rfl,e⟩⟩
noncomputable def MethGood (X : Gx) (Ca : Addr) (m : Str) (r : FnRec) : Prop:=∃ a o fd,MethAt X Ca m a ∧ FnAt X r a o fd ∧ findIn X.K (.ref Ca) m = some (some (.ref a)) ∧ typeIn X.K (.ref a) = some (.type "function")
theorem meth_of {X : Gx} {K : Frag} {m : Str} {r : FnRec} {Ca a : Addr} {oc : Value} {od : Option Addr} {osl : Array (Option Value)} {fd : FuncData} (hK : X.K = K) (h1 : findIn K (.ref Ca) m = some (some (.ref a))) (h4 : plainGet K Ca m = true) (h5 : isFn K (.ref a) = true) (h6 : keepIn K (.ref a) = true)
  (h2 : K.lookup a = some ⟨oc,od,.func fd,osl⟩) (h3 : codeIn K fd.code fd.qualname = true) (hb : fd.body = .stmts r.body) (hs : fd.scope = r.sc) (hg : fd.globals = mainGlobals)
  (hbl : fd.builtins = builtinsNs) (hc : fd.closure = []) (hbind : BindOk X r fd) : MethGood X Ca m r :=
 ⟨a,_,fd,by subst hK; exact ⟨h4,h1,h5,h6⟩,fnAt_of hK h2 h3 hb hs hg hbl hc hbind,by rw [hK]; exact h1,by rw [hK]; exact beq_iff_eq.mp h5⟩
theorem meth_K {X : Gx} {P : Params} {f : Str} {st : Option Stmt} {mu : List Str} {pats : List (Nat × List Str)} {dfl : List (Str × V)} {Ca : Addr} (hK : X.K = Kd P) (a : Addr) (q : Str) (m d : Value) (h1 : findIn (Kd P) (.ref Ca) f = some (some (.ref a))) (h4 : plainGet (Kd P) Ca f = true) (h5 : isFn (Kd P) (.ref a) = true) (h6 : keepIn (Kd P) (.ref a) = true) (h2 : (Kd P).lookup a = some (fnO a st q m d).2) (h3 : codeIn (Kd P) (.ref (a - 1)) q = true) (hbind : BindOk X (recOf st mu pats dfl) (fdO a st q m d)) : MethGood X Ca f (recOf st mu pats dfl) :=
 meth_of hK h1 h4 h5 h6 h2 h3 rfl rfl rfl rfl rfl hbind
theorem m_Utf8Stream_init {X : Gx} {P : Params} (hK : X.K = Kd P) : MethGood X 169 "__init__" (mtk 31 0 [] [(1,[])] [("is_strict",.bool false)]):=by
 exact meth_K hK 158 "Utf8Stream.__init__" (.str "unicore.utf8" 309) (.ref 151) (by kernel_rfl) (by kernel_rfl) (by kernel_rfl) (by kernel_rfl) (by kernel_rfl) (by kernel_rfl) (
 bk1 rfl (bat0 fun us s hl hs =>by
  obtain ⟨u1,rfl⟩:=len1 hl
  have XK : (Kd P).In s.heap:=by rw [← hK]; exact X.kin.keeps hs
  refine' ⟨[_],binds_K XK rfl ?ho1 ?sq1 ?b1 ?c1,?hl1,fun h =>(.cons (show Rep h (.bool false) _ by unfold Rep; rfl) .nil)⟩
  case ho1 =>rfl
  case sq1 =>rfl
  case b1 =>rfl
  case c1 =>rfl
  case hl1 =>rfl))
theorem m_Utf8Stream_feed {X : Gx} {P : Params} (hK : X.K = Kd P) : MethGood X 169 "feed" (mtk 31 1 ["found"] [(3,[])] []):=by
 exact meth_K hK 166 "Utf8Stream.feed" (.str "unicore.utf8" 309) (.ref 159) (by kernel_rfl) (by kernel_rfl) (by kernel_rfl) (by kernel_rfl) (by kernel_rfl) (by kernel_rfl) (
 bk1 rfl (bat0 fun us s hl hs =>by
  obtain ⟨u1,u2,u3,rfl⟩:=len3 hl
  have XK : (Kd P).In s.heap:=by rw [← hK]; exact X.kin.keeps hs
  refine' ⟨[],binds_K XK rfl ?ho1 ?sq1 ?b1 ?c1,?hl1,fun h =>.nil⟩
  case ho1 =>rfl
  case sq1 =>rfl
  case b1 =>rfl
  case c1 =>rfl
  case hl1 =>rfl))
theorem m_Utf16Stream_init {X : Gx} {P : Params} (hK : X.K = Kd P) : MethGood X 264 "__init__" (mtk 44 0 [] [(1,[]),(3,[])] [("order",.none),("is_strict",.bool true)]):=by
 exact meth_K hK 246 "Utf16Stream.__init__" (.str "unicore.utf16" 432) (.ref 239) (by kernel_rfl) (by kernel_rfl) (by kernel_rfl) (by kernel_rfl) (by kernel_rfl) (by kernel_rfl) (
 bk2 rfl (bat0 fun us s hl hs =>by
  obtain ⟨u1,rfl⟩:=len1 hl
  have XK : (Kd P).In s.heap:=by rw [← hK]; exact X.kin.keeps hs
  refine' ⟨[_,_],binds_K XK rfl ?ho1 ?sq1 ?b1 ?c1,?hl1,fun h =>(.cons (show Rep h .none _ by unfold Rep; rfl) (.cons (show Rep h (.bool true) _ by unfold Rep; rfl) .nil))⟩
  case ho1 =>rfl
  case sq1 =>rfl
  case b1 =>rfl
  case c1 =>rfl
  case hl1 =>rfl)
  (bat0 fun us s hl hs =>by
  obtain ⟨u1,u2,u3,rfl⟩:=len3 hl
  have XK : (Kd P).In s.heap:=by rw [← hK]; exact X.kin.keeps hs
  refine' ⟨[],binds_K XK rfl ?ho2 ?sq2 ?b2 ?c2,?hl2,fun h =>.nil⟩
  case ho2 =>rfl
  case sq2 =>rfl
  case b2 =>rfl
  case c2 =>rfl
  case hl2 =>rfl))
theorem m_Utf16Stream_is_lacking {X : Gx} {P : Params} (hK : X.K = Kd P) : MethGood X 264 "is_lacking" (mtk 44 1 [] [(4,[])] []):=meth_K hK 253 "Utf16Stream.is_lacking" (.str "unicore.utf16" 432) .none (by kernel_rfl) (by kernel_rfl) (by kernel_rfl) (by kernel_rfl) (by kernel_rfl) (by kernel_rfl) (bp4 rfl rfl fun _ _ _ _ =>rfl)
theorem m_Utf16Stream_feed {X : Gx} {P : Params} (hK : X.K = Kd P) : MethGood X 264 "feed" (mtk 44 2 ["found"] [(3,[])] []):=by
 exact meth_K hK 261 "Utf16Stream.feed" (.str "unicore.utf16" 432) (.ref 254) (by kernel_rfl) (by kernel_rfl) (by kernel_rfl) (by kernel_rfl) (by kernel_rfl) (by kernel_rfl) (
 bk1 rfl (bat0 fun us s hl hs =>by
  obtain ⟨u1,u2,u3,rfl⟩:=len3 hl
  have XK : (Kd P).In s.heap:=by rw [← hK]; exact X.kin.keeps hs
  refine' ⟨[],binds_K XK rfl ?ho1 ?sq1 ?b1 ?c1,?hl1,fun h =>.nil⟩
  case ho1 =>rfl
  case sq1 =>rfl
  case b1 =>rfl
  case c1 =>rfl
  case hl1 =>rfl))
structure ClsGood (X : Gx) (C : Str) (Ca : Addr) : Prop where
 g : X.mg C = some (.ref Ca)
 k : keepIn X.K (.ref Ca) = true
 m : makesIn X.K Ca = true
theorem cls_of {X : Gx} {K : Frag} {C : Str} {Ca : Addr} (hK : X.K = K) (h1 : nsIn K mainGlobals C = some (some (.ref Ca))) (h2 : keepIn K (.ref Ca) = true) (h3 : makesIn K Ca = true) : ClsGood X C Ca:=by subst hK; exact ⟨mg_of X.kin X.g h1,h2,h3⟩
theorem fld_of {X : Gx} {K : Frag} {f : Str} {Ca : Addr} (hK : X.K = K) (h1 : plainGet K Ca f = true) (h2 : hasDictIn K Ca = true) (h3 : findIn K (.ref Ca) f = some none) (h4 : findIn K (.ref Ca) "__setattr__" = some (some (.builtin "object.__setattr__"))) (h5 : plainOver K Ca = true) (h6 : takerIn K Ca f = some none) : FieldAt X Ca f ∧ SetAt X Ca f:=by
 subst hK; exact ⟨⟨h1,h2,h3⟩,⟨h4,h5,h6,h2⟩⟩
theorem k_Utf8Stream {X : Gx} {P : Params} (hK : X.K = Kd P) : ClsGood X "Utf8Stream" 169:=by
 refine' cls_of hK ?h1 ?h2 ?h3
 case h1 =>kernel_rfl
 case h2 =>kernel_rfl
 case h3 =>kernel_rfl
theorem k_Utf16Stream {X : Gx} {P : Params} (hK : X.K = Kd P) : ClsGood X "Utf16Stream" 264:=by
 refine' cls_of hK ?h1 ?h2 ?h3
 case h1 =>kernel_rfl
 case h2 =>kernel_rfl
 case h3 =>kernel_rfl
theorem f_Utf8Stream_is_strict {X : Gx} {P : Params} (hK : X.K = Kd P) : FieldAt X 169 "is_strict" ∧ SetAt X 169 "is_strict":=by
 refine' fld_of hK ?h1 ?h2 ?h3 ?h4 ?h5 ?h6
 case h1 =>kernel_rfl
 case h2 =>kernel_rfl
 case h3 =>kernel_rfl
 case h4 =>kernel_rfl
 case h5 =>kernel_rfl
 case h6 =>kernel_rfl
theorem f_Utf8Stream_waiting {X : Gx} {P : Params} (hK : X.K = Kd P) : FieldAt X 169 "waiting" ∧ SetAt X 169 "waiting":=by
 refine' fld_of hK ?h1 ?h2 ?h3 ?h4 ?h5 ?h6
 case h1 =>kernel_rfl
 case h2 =>kernel_rfl
 case h3 =>kernel_rfl
 case h4 =>kernel_rfl
 case h5 =>kernel_rfl
 case h6 =>kernel_rfl
theorem f_Utf8Stream_place {X : Gx} {P : Params} (hK : X.K = Kd P) : FieldAt X 169 "place" ∧ SetAt X 169 "place":=by
 refine' fld_of hK ?h1 ?h2 ?h3 ?h4 ?h5 ?h6
 case h1 =>kernel_rfl
 case h2 =>kernel_rfl
 case h3 =>kernel_rfl
 case h4 =>kernel_rfl
 case h5 =>kernel_rfl
 case h6 =>kernel_rfl
theorem f_Utf16Stream_order {X : Gx} {P : Params} (hK : X.K = Kd P) : FieldAt X 264 "order" ∧ SetAt X 264 "order":=by
 refine' fld_of hK ?h1 ?h2 ?h3 ?h4 ?h5 ?h6
 case h1 =>kernel_rfl
 case h2 =>kernel_rfl
 case h3 =>kernel_rfl
 case h4 =>kernel_rfl
 case h5 =>kernel_rfl
 case h6 =>kernel_rfl
theorem f_Utf16Stream_is_strict {X : Gx} {P : Params} (hK : X.K = Kd P) : FieldAt X 264 "is_strict" ∧ SetAt X 264 "is_strict":=by
 refine' fld_of hK ?h1 ?h2 ?h3 ?h4 ?h5 ?h6
 case h1 =>kernel_rfl
 case h2 =>kernel_rfl
 case h3 =>kernel_rfl
 case h4 =>kernel_rfl
 case h5 =>kernel_rfl
 case h6 =>kernel_rfl
theorem f_Utf16Stream_left {X : Gx} {P : Params} (hK : X.K = Kd P) : FieldAt X 264 "left" ∧ SetAt X 264 "left":=by
 refine' fld_of hK ?h1 ?h2 ?h3 ?h4 ?h5 ?h6
 case h1 =>kernel_rfl
 case h2 =>kernel_rfl
 case h3 =>kernel_rfl
 case h4 =>kernel_rfl
 case h5 =>kernel_rfl
 case h6 =>kernel_rfl
theorem f_Utf16Stream_used {X : Gx} {P : Params} (hK : X.K = Kd P) : FieldAt X 264 "used" ∧ SetAt X 264 "used":=by
 refine' fld_of hK ?h1 ?h2 ?h3 ?h4 ?h5 ?h6
 case h1 =>kernel_rfl
 case h2 =>kernel_rfl
 case h3 =>kernel_rfl
 case h4 =>kernel_rfl
 case h5 =>kernel_rfl
 case h6 =>kernel_rfl
theorem an {α : Type} {p : α → Prop} : ∀ x ∈ ([] : List α),p x:=fun x h =>by cases h
theorem ac {α : Type} {p : α → Prop} {a : α} {l : List α} (h : p a) (t : ∀ x ∈ l,p x) : ∀ x ∈ a :: l,p x:=fun x hx =>by
 rcases List.mem_cons.mp hx with rfl | hx
 ·exact h
 ·exact t x hx
theorem mem_of_lookup2 {α β : Type} [BEq α] [LawfulBEq α] {l : List (α × β)} {x : α} {k : β} (h : l.lookup x = some k) : (x,k) ∈ l:=by
 induction l with
 | nil =>simp at h
 | cons p r ih =>
  obtain ⟨n,k'⟩:=p
  rw [List.lookup_cons] at h
  cases e : x == n with
  | true =>rw [e] at h; cases h; rw [beq_iff_eq.mp e]; exact .head _
  | false =>rw [e] at h; exact .tail _ (ih h)
theorem all_fn {X : Gx} {P : Params} (hK : X.K = Kd P) : ∀ p ∈ fnTab,FnGood X p.1 p.2:=ac (good_F hK "is_code" 12 [] [(1,[])] [] 66 (.str "unicore.base" 187) .none (by kernel_rfl) (by kernel_rfl) (by kernel_rfl) (by kernel_rfl) (bp1 rfl rfl fun _ =>rfl)) (ac (good_F hK "is_high" 13 [] [(1,[])] [] 73 (.str "unicore.base" 187) .none (by kernel_rfl) (by kernel_rfl) (by kernel_rfl) (by kernel_rfl) (bp1 rfl rfl fun _ =>rfl)) (ac (good_F hK "is_low" 14 [] [(1,[])] [] 80 (.str "unicore.base" 187) .none (by kernel_rfl) (by kernel_rfl) (by kernel_rfl) (by kernel_rfl) (bp1 rfl rfl fun _ =>rfl)) (ac (good_F hK "is_surrogate" 15 [] [(1,[])] [] 87 (.str "unicore.base" 187) .none (by kernel_rfl) (by kernel_rfl) (by kernel_rfl) (by kernel_rfl) (bp1 rfl rfl fun _ =>rfl)) (ac (good_F hK "is_scalar" 16 [] [(1,[])] [] 94 (.str "unicore.base" 187) .none (by kernel_rfl) (by kernel_rfl) (by kernel_rfl) (by kernel_rfl) (bp1 rfl rfl fun _ =>rfl)) (ac (good_F hK "check_scalars" 17 [] [(1,[])] [] 101 (.str "unicore.base" 187) .none (by kernel_rfl) (by kernel_rfl) (by kernel_rfl) (by kernel_rfl) (bp1 rfl rfl fun _ =>rfl)) (ac (good_F hK "utf8_octets" 25 [] [(1,[])] [] 108 (.str "unicore.utf8" 309) .none (by kernel_rfl) (by kernel_rfl) (by kernel_rfl) (by kernel_rfl) (bp1 rfl rfl fun _ =>rfl)) (ac (good_F hK "encode_utf8" 26 ["found"] [(1,[])] [] 115 (.str "unicore.utf8" 309) .none (by kernel_rfl) (by kernel_rfl) (by kernel_rfl) (by kernel_rfl) (bp1 rfl rfl fun _ =>rfl)) (ac (good_F hK "utf8_lead" 27 [] [(1,[])] [] 122 (.str "unicore.utf8" 309) .none (by kernel_rfl) (by kernel_rfl) (by kernel_rfl) (by kernel_rfl) (bp1 rfl rfl fun _ =>rfl)) (ac (good_F hK "utf8_piece" 28 [] [(2,[])] [] 129 (.str "unicore.utf8" 309) .none (by kernel_rfl) (by kernel_rfl) (by kernel_rfl) (by kernel_rfl) (bp2 rfl rfl fun _ _ =>rfl)) (ac (good_F hK "decode_utf8" 29 ["found"] [(1,[])] [] 136 (.str "unicore.utf8" 309) .none (by kernel_rfl) (by kernel_rfl) (by kernel_rfl) (by kernel_rfl) (bp1 rfl rfl fun _ =>rfl)) (ac (good_F hK "decode_utf8_replaced" 30 ["found"] [(1,[])] [] 143 (.str "unicore.utf8" 309) .none (by kernel_rfl) (by kernel_rfl) (by kernel_rfl) (by kernel_rfl) (bp1 rfl rfl fun _ =>rfl)) (ac (good_F hK "utf16_units" 36 ["found"] [(1,[])] [] 180 (.str "unicore.utf16" 432) .none (by kernel_rfl) (by kernel_rfl) (by kernel_rfl) (by kernel_rfl) (bp1 rfl rfl fun _ =>rfl)) (ac (good_F hK "utf16_joined" 37 [] [(2,[])] [] 187 (.str "unicore.utf16" 432) .none (by kernel_rfl) (by kernel_rfl) (by kernel_rfl) (by kernel_rfl) (bp2 rfl rfl fun _ _ =>rfl)) (ac (good_F hK "utf16_octets" 38 [] [(2,[])] [] 194 (.str "unicore.utf16" 432) .none (by kernel_rfl) (by kernel_rfl) (by kernel_rfl) (by kernel_rfl) (bp2 rfl rfl fun _ _ =>rfl)) (ac (good_F hK "utf16_unit" 39 [] [(3,[])] [] 201 (.str "unicore.utf16" 432) .none (by kernel_rfl) (by kernel_rfl) (by kernel_rfl) (by kernel_rfl) (bp3 rfl rfl fun _ _ _ =>rfl)) (ac (g_encode_utf16 hK) (ac (good_F hK "utf16_step" 41 [] [(3,[])] [] 216 (.str "unicore.utf16" 432) .none (by kernel_rfl) (by kernel_rfl) (by kernel_rfl) (by kernel_rfl) (bp3 rfl rfl fun _ _ _ =>rfl)) (ac (good_F hK "utf16_start" 42 [] [(2,[])] [] 223 (.str "unicore.utf16" 432) .none (by kernel_rfl) (by kernel_rfl) (by kernel_rfl) (by kernel_rfl) (bp2 rfl rfl fun _ _ =>rfl)) (ac (g_decode_utf16_replaced hK) (ac (g_encode_utf32 hK) (ac (good_F hK "utf32_step" 46 ["row"] [(3,[])] [] 283 (.str "unicore.utf16" 432) .none (by kernel_rfl) (by kernel_rfl) (by kernel_rfl) (by kernel_rfl) (bp3 rfl rfl fun _ _ _ =>rfl)) (ac (good_F hK "utf32_start" 47 [] [(2,[])] [] 290 (.str "unicore.utf16" 432) .none (by kernel_rfl) (by kernel_rfl) (by kernel_rfl) (by kernel_rfl) (bp2 rfl rfl fun _ _ =>rfl)) (ac (g_decode_utf32 hK) (ac (good_F hK "encoding_marks" 49 [] [(0,[])] [] 303 (.str "unicore.utf16" 432) .none (by kernel_rfl) (by kernel_rfl) (by kernel_rfl) (by kernel_rfl) (bp0 rfl rfl rfl)) (ac (good_F hK "sniffed" 50 [] [(1,[])] [] 310 (.str "unicore.utf16" 432) .none (by kernel_rfl) (by kernel_rfl) (by kernel_rfl) (by kernel_rfl) (bp1 rfl rfl fun _ =>rfl)) (ac (good_F hK "unmarked" 51 [] [(1,[])] [] 317 (.str "unicore.utf16" 432) .none (by kernel_rfl) (by kernel_rfl) (by kernel_rfl) (by kernel_rfl) (bp1 rfl rfl fun _ =>rfl)) (ac (good_F hK "_law_is_begun" 54 [] [(1,[])] [] 322 (.str "law_nt0019_01" 645) .none (by kernel_rfl) (by kernel_rfl) (by kernel_rfl) (by kernel_rfl) (bp1 rfl rfl fun _ =>rfl)) (ac (good_F hK "_law_code" 55 [] [(1,[])] [] 329 (.str "law_nt0019_01" 645) .none (by kernel_rfl) (by kernel_rfl) (by kernel_rfl) (by kernel_rfl) (bp1 rfl rfl fun _ =>rfl)) (ac (good_F hK "_law_cut" 56 ["found"] [(1,[])] [] 336 (.str "law_nt0019_01" 645) .none (by kernel_rfl) (by kernel_rfl) (by kernel_rfl) (by kernel_rfl) (bp1 rfl rfl fun _ =>rfl)) (ac (good_F hK "_law_written" 57 [] [(1,[])] [] 343 (.str "law_nt0019_01" 645) .none (by kernel_rfl) (by kernel_rfl) (by kernel_rfl) (by kernel_rfl) (bp1 rfl rfl fun _ =>rfl)) (ac (good_F hK "_law_codes" 58 [] [(2,[])] [] 348 (.str "law_nt0019_01" 645) .none (by kernel_rfl) (by kernel_rfl) (by kernel_rfl) (by kernel_rfl) (bp2 rfl rfl fun _ _ =>rfl)) (ac (good_F hK "_law_halves" 59 ["found"] [(1,[])] [] 353 (.str "law_nt0019_01" 645) .none (by kernel_rfl) (by kernel_rfl) (by kernel_rfl) (by kernel_rfl) (bp1 rfl rfl fun _ =>rfl)) (ac (good_F hK "_law_units" 60 [] [(2,[])] [] 360 (.str "law_nt0019_01" 645) .none (by kernel_rfl) (by kernel_rfl) (by kernel_rfl) (by kernel_rfl) (bp2 rfl rfl fun _ _ =>rfl)) (ac (good_F hK "_law_wide" 61 [] [(3,[])] [] 367 (.str "law_nt0019_01" 645) .none (by kernel_rfl) (by kernel_rfl) (by kernel_rfl) (by kernel_rfl) (bp3 rfl rfl fun _ _ _ =>rfl)) (ac (good_F hK "_law_pieces" 62 [] [(2,[])] [] 372 (.str "law_nt0019_01" 645) .none (by kernel_rfl) (by kernel_rfl) (by kernel_rfl) (by kernel_rfl) (bp2 rfl rfl fun _ _ =>rfl)) (ac (good_F hK "_law_streams_right" 63 [] [(2,[])] [] 379 (.str "law_nt0019_01" 645) .none (by kernel_rfl) (by kernel_rfl) (by kernel_rfl) (by kernel_rfl) (bp2 rfl rfl fun _ _ =>rfl)) (ac (good_F hK "_law_round_right" 64 [] [(3,[])] [] 384 (.str "law_nt0019_01" 645) .none (by kernel_rfl) (by kernel_rfl) (by kernel_rfl) (by kernel_rfl) (bp3 rfl rfl fun _ _ _ =>rfl)) (ac (good_F hK "law" 65 [] [(1,[])] [] 389 (.str "law_nt0019_01" 645) .none (by kernel_rfl) (by kernel_rfl) (by kernel_rfl) (by kernel_rfl) (bp1 rfl rfl fun _ =>rfl)) (an)))))))))))))))))))))))))))))))))))))))
theorem all_cst {X : Gx} {P : Params} (hK : X.K = Kd P) : ∀ p ∈ cstTab,CstGood X p.1 p.2:=ac (cst_int (x:="MAX_CODE") (i:=1114111) (t:=189) hK (by kernel_rfl)) (ac (cst_int (x:="HIGH_FIRST") (i:=55296) (t:=191) hK (by kernel_rfl)) (ac (cst_int (x:="HIGH_LAST") (i:=56319) (t:=193) hK (by kernel_rfl)) (ac (cst_int (x:="LOW_FIRST") (i:=56320) (t:=195) hK (by kernel_rfl)) (ac (cst_int (x:="LOW_LAST") (i:=57343) (t:=197) hK (by kernel_rfl)) (ac (cst_int (x:="REPLACEMENT") (i:=65533) (t:=199) hK (by kernel_rfl)) (ac (cst_int (x:="ORDER_MARK") (i:=65279) (t:=201) hK (by kernel_rfl)) (ac (cst_int (x:="SUPPLEMENTARY") (i:=65536) (t:=203) hK (by kernel_rfl)) (ac (cst_str (x:="UTF8_ALONE") (y:="a trail octet without a lead") (t:=311) hK (by kernel_rfl)) (ac (cst_str (x:="UTF8_NEVER") (y:="an octet that never stands") (t:=313) hK (by kernel_rfl)) (ac (cst_str (x:="UTF8_BROKEN") (y:="a sequence that breaks off") (t:=315) hK (by kernel_rfl)) (ac (cst_str (x:="UTF8_SHORT") (y:="a sequence that is cut short") (t:=317) hK (by kernel_rfl)) (ac (cst_int (x:="UTF8_TRAIL") (i:=128) (t:=319) hK (by kernel_rfl)) (ac (cst_int (x:="UTF8_PLANE") (i:=65536) (t:=321) hK (by kernel_rfl)) (ac (cst_str (x:="BIG") (y:="be") (t:=434) hK (by kernel_rfl)) (ac (cst_int (x:="HALF_BITS") (i:=10) (t:=436) hK (by kernel_rfl)) (ac (cst_int (x:="HALF_MASK") (i:=1023) (t:=438) hK (by kernel_rfl)) (ac (cst_bytes (x:="_law_octets") (ks:=[65,127,128,143,144,159,160,191,192,194,223,224,225,237,239,240,241,244,245,255,216,220,254,0]) (t:=647) (b:=#[65,127,128,143,144,159,160,191,192,194,223,224,225,237,239,240,241,244,245,255,216,220,254,0]) hK (by kernel_rfl) (by kernel_rfl)) (an))))))))))))))))))
theorem all_meth {X : Gx} {P : Params} (hK : X.K = Kd P) : ∀ p ∈ methTab,∃ Ca,clsAd p.1.1 = some Ca ∧ ClsGood X p.1.1 Ca ∧ MethGood X Ca p.1.2 p.2 :=
 ac ⟨169,rfl,k_Utf8Stream hK,m_Utf8Stream_init hK⟩ (ac ⟨169,rfl,k_Utf8Stream hK,m_Utf8Stream_feed hK⟩ (ac ⟨264,rfl,k_Utf16Stream hK,m_Utf16Stream_init hK⟩ (ac ⟨264,rfl,k_Utf16Stream hK,m_Utf16Stream_is_lacking hK⟩ (ac ⟨264,rfl,k_Utf16Stream hK,m_Utf16Stream_feed hK⟩ an))))
theorem all_fld {X : Gx} {P : Params} (hK : X.K = Kd P) : ∀ p ∈ fldTab,∀ f ∈ p.2,∀ Ca,clsAd p.1 = some Ca → FieldAt X Ca f ∧ SetAt X Ca f :=
 ac (ac (fun Ca h =>by cases h; exact f_Utf8Stream_is_strict hK) (ac (fun Ca h =>by cases h; exact f_Utf8Stream_waiting hK) (ac (fun Ca h =>by cases h; exact f_Utf8Stream_place hK) an)))
  (ac (ac (fun Ca h =>by cases h; exact f_Utf16Stream_order hK) (ac (fun Ca h =>by cases h; exact f_Utf16Stream_is_strict hK) (ac (fun Ca h =>by cases h; exact f_Utf16Stream_left hK) (ac (fun Ca h =>by cases h; exact f_Utf16Stream_used hK) an)))) an)
theorem tab_ok {X : Gx} {P : Params} (hK : X.K = Kd P) (hC : X.clsA = clsAd) : TabOk X tab where
 cst x v h:=all_cst hK (x,v) (mem_of_lookup2 h)
 fn f r h:=all_fn hK (f,r) (mem_of_lookup2 h)
 meth C m r Ca h hCa:=by
  refine bc fun hN =>?_
  obtain ⟨Ca',h1,_,a,o,fd,h2,h3,_⟩:=all_meth hK ((C,m),r) (mem_of_lookup2 h)
  refine hN ?_; clear hN
  simp only [hC,h1] at hCa; cases hCa
  exact ⟨a,o,fd,h2,h3⟩
 init C r h:=by
  refine bc fun hN =>?_
  obtain ⟨Ca,h1,g,a,o,fd,h2,h3,h4,h5⟩:=all_meth hK ((C,"__init__"),r) (mem_of_lookup2 h)
  refine hN ?_; clear hN
  exact ⟨Ca,a,o,fd,by rw [hC]; exact h1,g.g,g.k,g.m,h4,h5,h3⟩
 flds C f Ca h hCa:=by
  rw [hC] at hCa
  have h' : f ∈ (fldTab.lookup C).getD []:=h
  cases e : fldTab.lookup C with
  | none =>rw [e] at h'; cases h'
  | some fs =>rw [e] at h'; exact all_fld hK (C,fs) (mem_of_lookup2 e) f h' Ca hCa
end Mine
end
section
namespace Mine
open PySem PySem.W PyProof.Rows PySem.Calls PySem.SeqAt
theorem law_join {X : Gx} {G : Ge} {N n : Nat} {sc : Scope} {name x : Str} {a : Addr} {cd u : Value} {s₁ : Shared} {h₁ : Heap} {t : Nat} {v w : V} {g' : Gam} {body : List Stmt} {mu : List Str} {A : Around} {E : Value → Shared → Prop}
  (hX : X.p [] = X) (hG : GOk2 X G N) (C : ScOk sc [x]) (hk : sc.names.lookup x = some .local) (hcl : ∀ k,cellsFrom k sc.names [] = []) (hB : X.B0 = s₁.heap) (hsv : X.sv = none)
  (F : Fr s₁.heap s₁.heap.objs.size h₁ fun y =>List.lookup y [(x,u)].reverse) (hr : Rep s₁.heap v u) (hA : Room A (N + n))
  (h : exs n G sc mu body [(x,.val v)] = some (.ret w g')) :
  wpAny (model X.prog X.w) A (execs body (envOf name sc s₁.heap.objs.size a cd)) (fun f s' =>∃ u,f = .ret u ∧ Rep s'.heap w u ∧ (∃ h t,s' = { s₁ with heap:=h,toks:=t }) ∧ ∀ b o,s₁.heap.get? b = some o → s'.heap.get? b = some o) E { s₁ with heap:=h₁,toks:=t }:=by
 have henv : envOf name sc s₁.heap.objs.size a cd = newEnv sc s₁.heap.objs.size mainGlobals (cellsFrom (s₁.heap.objs.size + 1) sc.names []) (name ++ ".<locals>.") (some a) cd none builtinsNs:=by rw [hcl]; rfl
 have hm : (fun y =>List.lookup y [(x,u)].reverse) = bindL (envOf name sc s₁.heap.objs.size a cd).kindOf [(x,u)] fun _ =>none:=by
  funext y
  have hkx : (envOf name sc s₁.heap.objs.size a cd).kindOf x = some .local:=hk
  unfold bindL
  rw [if_pos hkx]
  unfold bindL
  simp only [List.reverse_cons,List.reverse_nil,List.nil_append,List.lookup_cons,List.lookup_nil]
  by_cases hy : y = x
  ·subst hy; simp
  ·have : (y == x) = false:=by simpa using hy
   simp only [this,if_neg hy]
 have GV : Given X s₁.heap [] [] sc [(x,u)] [(x,.val v)] s₁:=by
  refine ⟨by rw [hB]; exact fun _ _ e =>e,fun _ _ e =>e,fun a ha =>(by cases ha),fun a ha =>(by cases ha),?_,fun y av hl =>?_,fun ix dx e =>by rw [hsv] at e; cases e⟩
  ·rw [← hX]; rfl
  ·rw [List.lookup_cons] at hl ⊢
   by_cases hy : y = x
   ·subst hy
    simp only [beq_self_eq_true] at hl ⊢
    obtain rfl:=Option.some.inj hl
    exact ⟨u,rfl,hr⟩
   ·have : (y == x) = false:=by simpa using hy
    rw [this] at hl; exact nS hl
 have IC : InCallC s₁ (envOf name sc s₁.heap.objs.size a cd).locals (bindL (envOf name sc s₁.heap.objs.size a cd).kindOf [(x,u)] fun _ =>none) (envOf name sc s₁.heap.objs.size a cd).cells (bindC (envOf name sc s₁.heap.objs.size a cd).kindOf [(x,u)] fun _ =>none) { s₁ with heap:=h₁,toks:=t }:=by
  rw [← hm]
  exact ⟨⟨⟨h₁,t,rfl⟩,F.ns,F.keep,F.above⟩,fun n c e =>(by exact nS e),List.Pairwise.nil,fun n c e =>(by cases e)⟩
 refine bc fun hN =>?_
 obtain ⟨S,Fm⟩:=frame_up GV C henv IC
 refine hN ?_; clear hN
 refine wpAny_mono ((exs_sound hX hG n).2 _ _ _ _ _ _ _ hA _ _ _ _ E _ S Fm h) (fun f s' hf =>?_) fun _ _ e =>e
 refine bc fun hN =>?_
 obtain ⟨u,Mu',rfl,hr',_,⟨h2,t2,e2,_⟩,hB'⟩:=hf
 refine hN ?_; clear hN
 exact ⟨u,rfl,hr',⟨h2,t2,e2⟩,hB'⟩
noncomputable def Plain : Prop:=∀ ns : List Int,ns.length ≤ 63 → (geOf tab 7).fn "law" [.list (ns.map .int)] [] = some (.bool true)
noncomputable abbrev lawRec : FnRec:=fnk 65 [] [(1,[])] []
theorem plain_exs (h : Plain) {ns : List Int} (hn : ns.length ≤ 63) : ∃ g',exs 40 (geOf tab 6) lawRec.sc lawRec.mu lawRec.body [("script",.val (.list (ns.map .int)))] = some (.ret (.bool true) g'):=by
 have e:=h ns hn
 have : (geOf tab 7).fn "law" [.list (ns.map .int)] [] = runF lawRec 40 (geOf tab 6) [.list (ns.map .int)] []:=rfl
 rw [this] at e
 unfold runF at e
 split at e
 ·split at e
  ·rename_i v g' hfl
   obtain rfl:=Option.some.inj e
   exact ⟨g',hfl⟩
  ·cases e
  ·exact nS e
 ·exact nS e
end Mine
end
section
open PySem PySem.W PyProof.Rows PySem.Calls PySem.SeqAt
namespace Mine
theorem blt_b {mb : Str → Option Value} (hb : ∀ x : Str,x ≠ "__name__" → mb x = bootBuiltins x) {f : Str} (h : isBlt f = true) : mb f = some (bltVal f):=by
 have hm : f ∈ (["len","bytes","list","sorted","int","tuple","range","enumerate"] : List Str):=List.contains_iff_mem.mp h
 have hn : f ≠ "__name__":=by
  intro e; subst e; revert h; decide
 rw [hb f hn]
 have go : ∀ g ∈ (["len","bytes","list","sorted","int","tuple","range","enumerate"] : List Str),bootBuiltins g = some (bltVal g):=by
  refine ac ?_ (ac ?_ (ac ?_ (ac ?_ (ac ?_ (ac ?_ (ac ?_ (ac ?_ an))))))) <;> rfl
 exact go f hm
theorem blt_g {K : Frag} {P : Params} {h : Heap} {mg : Str → Option Value} (hK : K = Kd P) (X : K.In h) (G : h.Ns mainGlobals mg) {f : Str} (hf : isBlt f = true) : mg f = none:=by
 have hm : f ∈ (["len","bytes","list","sorted","int","tuple","range","enumerate"] : List Str):=List.contains_iff_mem.mp hf
 subst hK
 have go : ∀ g ∈ (["len","bytes","list","sorted","int","tuple","range","enumerate"] : List Str),nsIn (Kd P) mainGlobals g = some none:=by
  refine ac ?_ (ac ?_ (ac ?_ (ac ?_ (ac ?_ (ac ?_ (ac ?_ (ac ?_ an))))))) <;> kernel_rfl
 exact mg_none_of X G (go f hm)
end Mine
end
section
open PySem PySem.W PyProof.Rows PySem.Calls PySem.SeqAt
namespace Mine
theorem law_walk (PL : Plain) {P : Params} {prog : Program} {w : World} {loose : List Str} {p : Program} {mg mb : Str → Option Value} {s₁ : Shared} {h₁ : Heap} {t : Nat} {a : Addr} {cd : Value} {us : List Value} {ns : List Int} {ad : Addr}
  {E : Value → Shared → Prop} {Q : Flow → Shared → Prop} {name : Str}
  (KX : (Kd P).In s₁.heap) (T : TopRead p loose mg mb s₁.heap) (hL : s₁.heap.IsList ad us.toArray) (hI : IntsAre us ns) (hn : ns.length ≤ 63)
  (F : Fr s₁.heap s₁.heap.objs.size h₁ fun y =>List.lookup y [(("script" : Str),Value.ref ad)].reverse)
  (q : ∀ h t,(∀ b o,s₁.heap.get? b = some o → h.get? b = some o) → Q (.ret (.bool true)) { s₁ with heap:=h,toks:=t }) :
  wpAny (model prog w) (callerA.deeper (envOf name lawRec.sc s₁.heap.objs.size a cd)) (execs lawRec.body (envOf name lawRec.sc s₁.heap.objs.size a cd)) Q E { s₁ with heap:=h₁,toks:=t }:=by
 refine bc fun hN =>?_
 obtain ⟨g',hx⟩:=plain_exs PL hn
 refine hN ?_; clear hN
 let X : Gx:={ prog:=prog,w:=w,K:=Kd P,B0:=s₁.heap,mg:=mg,mb:=mb,kin:=KX,g:=T.g,b:=T.b,lim:=T.nolimit,bl:=fun f hf =>⟨blt_g rfl KX T.g hf,blt_b T.builtins hf⟩,clsA:=clsAd,sv:=none,pn:=[] }
 have hT : TabOk X tab:=tab_ok rfl rfl
 have hG:=ge_ok hT 6
 have hr : Rep s₁.heap (.list (ns.map .int)) (.ref ad):=by
  unfold Rep
  exact ⟨ad,us,rfl,hL,Reps.of_ints hI⟩
 have hA : Room (callerA.deeper (envOf name lawRec.sc s₁.heap.objs.size a cd)) (42 * 6 + 40):=⟨rfl,by show 301 + 1 + 292 < 600; omega,by show 4 + 3 + 8 * 292 < 9000; omega⟩
 have C : ScOk lawRec.sc [("script" : Str)]:=scOk_of (by rfl)
 refine wpAny_mono (law_join (X:=X) (name:=name) (a:=a) (cd:=cd) (t:=t) (E:=E) rfl hG C rfl (fun _ =>rfl) rfl rfl F hr hA hx) (fun f s' hf =>?_) fun _ _ e =>e
 refine bc fun hN =>?_
 obtain ⟨u,rfl,hu,⟨h,t',rfl⟩,k⟩:=hf
 refine hN ?_; clear hN
 unfold Rep at hu
 subst hu
 exact q h t' k
end Mine
end
section
namespace Mine
open PySem
theorem ofString_inj {a b : String} (h : Str.ofString a = Str.ofString b) : a = b:=by
 simp only [Str.ofString_eq_toList,Str.ofString_eq_toList] at h
 have h2 : a.toList.map Char.toNat = b.toList.map Char.toNat:=by
  have:=congrArg (fun s : Str =>s.cps.toList) h
  simpa using this
 have hinj : Function.Injective Char.toNat:=by
  intro x y e
  exact Char.ext (UInt32.toNat_inj.mp e)
 have key : ∀ (l m : List Char),l.map Char.toNat = m.map Char.toNat → l = m:=by
  intro l
  induction l with
  | nil =>intro m e; cases m with
   | nil =>rfl
   | cons _ _ =>simp at e
  | cons c r ih =>intro m e; cases m with
   | nil =>simp at e
   | cons d s =>
    simp only [List.map_cons,List.cons.injEq] at e
    simp only [hinj e.1,ih _ e.2]
 have h3:=key _ _ h2
 rw [← String.ofList_toList (s:=a),← String.ofList_toList (s:=b),h3]
theorem ofString_beq (a b : String) : (Str.ofString a == Str.ofString b) = (a == b):=by
 by_cases h : a = b
 ·subst h; simp
 ·have : Str.ofString a ≠ Str.ofString b:=fun e =>h (ofString_inj e)
  simp only [beq_eq_false_iff_ne.mpr this,beq_eq_false_iff_ne.mpr h]
noncomputable def Out {α : Type} (o : Option α) (P : α → Prop) : Prop:=∃ a,o = some a ∧ P a
noncomputable def whileX (n : Nat) (G : Ge) (sc : Scope) (mu : List Str) (t : Expr) (b : List Stmt) (k : Nat) (g : Gam) : Option Fl:=whileV (evT n G sc · t) (exs n G sc mu b) k g
noncomputable def forX (n : Nat) (G : Ge) (sc : Scope) (mu : List Str) (t : Expr) (b : List Stmt) (xs : List V) (g : Gam) : Option Fl:=forV (bindT sc t) (exs n G sc mu b) xs g
theorem lk_cons {κ α : Type} [BEq κ] {y x : κ} {a : α} {r : List (κ × α)} : List.lookup y ((x,a) :: r) = if (y == x) = true then some a else List.lookup y r:=by
 rw [List.lookup_cons]; cases y == x <;> rfl
theorem lk_set {α : Type} {x y : Str} {a : α} : ∀ {g : List (Str × α)},(setL x a g).lookup y = if (y == x) = true then some a else g.lookup y
 | [] =>by simp only [setL,lk_cons]
 | (z,b) :: r =>by
  rw [setL]
  split
  ·rename_i h
   have : z = x:=by simpa using h
   subst this
   simp only [lk_cons,lk_cons]
   split
   ·rfl
   ·rfl
  ·rename_i h
   simp only [lk_cons,lk_cons,lk_set]
   by_cases h1 : (y == z) = true
   ·have : y = z:=by simpa using h1
    subst this
    rw [if_pos h1,if_neg (by simpa using h),if_pos h1]
   ·rw [if_neg h1,if_neg h1]
section
variable {a b : Int}
theorem b_mulI : binV .Mult (.int a) (.int b) = if (small a && small b) = true then some (.int (a * b)) else .none:=rfl
theorem b_fdiv : binV .FloorDiv (.int a) (.int b) = if b ≠ 0 ∧ small b = true then some (.int (a.fdiv b)) else .none:=rfl
theorem b_mod : binV .Mod (.int a) (.int b) = if b ≠ 0 then some (.int (a.fmod b)) else .none:=rfl
theorem b_shl : binV .LShift (.int a) (.int b) = if 0 ≤ b ∧ b ≤ 64 ∧ small a = true then some (.int (a * 2 ^ b.toNat)) else .none:=rfl
theorem b_shr : binV .RShift (.int a) (.int b) = if 0 ≤ b then some (.int (a.fdiv (2 ^ b.toNat))) else .none:=rfl
theorem b_addB {x y : List Int} : binV .Add (.bytes x) (.bytes y) = if x.length + y.length ≤ lid then some (.bytes (x ++ y)) else .none:=rfl
theorem b_addL {x y : List V} : binV .Add (.list x) (.list y) = if x.length + y.length ≤ lid then some (.list (x ++ y)) else .none:=rfl
theorem eq_int : eqV (.int a) (.int b) = some (a == b):=rfl
theorem eq_str {x y : Str} : eqV (.str x) (.str y) = some (x == y):=rfl
theorem eq_bytes {x y : List Int} : eqV (.bytes x) (.bytes y) = some (x == y):=rfl
end
theorem len_bytes {k : List Int} : lenV (.bytes k) = if k.length ≤ lid then some k.length else .none:=rfl
theorem len_list {k : List V} : lenV (.list k) = if k.length ≤ lid then some k.length else .none:=rfl
theorem item_bytes {ks : List Int} {i : Int} : itemV (.bytes ks) (.int i) = if ks.length ≤ lid then (itemAt ks i).map .int else .none:=rfl
theorem item_list {ks : List V} {i : Int} : itemV (.list ks) (.int i) = if ks.length ≤ lid then itemAt ks i else .none:=rfl
theorem slice_bytes {ks : List Int} {lo hi : Option Int} : sliceV (.bytes ks) lo hi = if ks.length ≤ lid then some (.bytes (cut ks lo hi)) else .none:=rfl
theorem slice_list {ks : List V} {lo hi : Option Int} : sliceV (.list ks) lo hi = if ks.length ≤ lid then some (.list (cut ks lo hi)) else .none:=rfl
theorem part_int {i : Int} : partV (some (.int i)) = if i.natAbs < 4611686018427387904 then some (some i) else .none:=rfl
theorem items_list {xs : List V} : itemsV (.list xs) = if xs.length ≤ lid then some xs else .none:=rfl
theorem items_tup {xs : List V} : itemsV (.tup xs) = if xs.length ≤ lid then some xs else .none:=rfl
theorem items_bytes {ks : List Int} : itemsV (.bytes ks) = if ks.length ≤ lid then some (ks.map .int) else .none:=rfl
theorem bl_len {v : V} : bltV "len" [v] = (lenV v).map fun (n : Nat) =>V.int n:=by rfl
theorem bl_bytes {xs : List V} : bltV "bytes" [.list xs] = (intsV xs).bind fun ns =>if ns.length ≤ lid ∧ ∀ n ∈ ns,0 ≤ n ∧ n < 256 then some (.bytes ns) else .none:=by rfl
theorem bl_listL {xs : List V} : bltV "list" [.list xs] = if xs.length ≤ lid then some (.list xs) else .none:=by rfl
noncomputable def contF (o : Option Fl) (k : Gam → Option Fl) : Option Fl:=match o with
 | some (.next g) =>k g
 | some (.brk g) =>some (.next g)
 | some (.ret v g) =>some (.ret v g)
 | .none =>.none
section
variable {n : Nat} {G : Ge} {sc : Scope} {mu : List Str} {t : Expr} {b : List Stmt} {g : Gam}
theorem forX_cons {x : V} {r : List V} : forX n G sc mu t b (x :: r) g = (bindT sc t x g).bind fun g' =>contF (exs n G sc mu b g') (forX n G sc mu t b r):=by
 unfold forX
 rw [forV]
 cases bindT sc t x g with
 | none =>rfl
 | some g' =>
  simp only [Option.bind_some]
  cases exs n G sc mu b g' with
  | none =>rfl
  | some f =>cases f <;> rfl
theorem whileX_succ {k : Nat} : whileX n G sc mu t b (k + 1) g = iteO (evT n G sc g t) (contF (exs n G sc mu b g) (whileX n G sc mu t b k)) (some (.next g)):=by
 unfold whileX
 rw [whileV]
 cases evT n G sc g t with
 | none =>rfl
 | some c =>cases c with
  | false =>rfl
  | true =>
   show _ = contF (exs n G sc mu b g) _
   cases exs n G sc mu b g with
   | none =>rfl
   | some f =>cases f <;> rfl
end
theorem it_range1 {b : Int} : iterV "range" [.int b] = if (decide (b ≤ (1048576 : Int)) && small b) = true then some (rangeL 0 b) else .none:=by rfl
theorem it_range3 {a b c : Int} : iterV "range" [.int a,.int b,.int c] = if (small a && decide (b ≤ (1048576 : Int)) && small b && decide (1 ≤ c) && decide (c ≤ 64)) = true then some (rangeL3 a b c) else .none:=by rfl
theorem en_cons {k : Nat} {x : V} {r : List V} : enumL k (x :: r) = .tup [.int k,x] :: enumL (k + 1) r:=rfl
noncomputable def compC (o : Option (Option V)) (r : Option (List V)) : Option (List V):=match o with
 | some (some y) =>r.map (y :: ·)
 | some .none =>r
 | .none =>.none
theorem cv_cons {f : V → Option (Option V)} {x : V} {r : List V} : compV f (x :: r) = compC (f x) (compV f r):=by
 rw [compV]
 cases f x with
 | none =>rfl
 | some o =>cases o <;> rfl
noncomputable def andO2 (x y : Option Bool) : Option Bool:=match x,y with
 | some a,some b =>some (a && b)
 | _,_ =>.none
theorem eqvs_cons {a b : V} {r s : List V} : eqVs (a :: r) (b :: s) = andO2 (eqI a b) (eqVs r s):=by
 show ((eqI a b).bind fun x =>(eqVs r s).bind fun y =>some (x && y)) = _; unfold andO2
 cases eqI a b <;> cases eqVs r s <;> rfl
noncomputable def mapK {α β ρ : Type} (f : α → (β → Option ρ) → Option ρ) : List α → (List β → Option ρ) → Option ρ
 | [],K =>K []
 | a :: r,K =>f a fun b =>mapK f r fun bs =>K (b :: bs)
theorem mpO_cons {α β : Type} {f : α → Option β} {a : α} {r : List α} : mapO f (a :: r) = (f a).bind fun b =>(mapO f r).map (b :: ·):=by
 show (match f a with | some b =>(mapO f r).map (b :: ·) | .none =>.none) = _; cases f a <;> rfl
theorem map_bd {α β γ : Type} {o : Option α} {f : α → β} {K : β → Option γ} : (o.map f).bind K = o.bind fun a =>K (f a):=by cases o <;> rfl
theorem mapK_eq {α β ρ : Type} {f : α → (β → Option ρ) → Option ρ} {f0 : α → Option β} (h : ∀ a K,f a K = (f0 a).bind K) : ∀ (l : List α) (K : List β → Option ρ),mapK f l K = (mapO f0 l).bind K
 | [],K =>rfl
 | a :: r,K =>by
  refine (h a _).trans ?_
  rw [mpO_cons,Option.bind_assoc]
  congr 1
  funext b
  rw [mapK_eq h r,map_bd]
noncomputable def clsC {ρ : Type} (o : Option (List (Str × V))) (a : List (Str × V) → Option ρ) (b : Option ρ) : Option ρ:=match o with
 | some fl =>a fl
 | .none =>b
noncomputable def subC {ρ : Type} (o : Option (List V)) (j : V) (K : V → Option ρ) (alt : Option ρ) : Option ρ:=match o with
 | some xs =>(itemV (.list xs) j).bind K
 | .none =>alt
noncomputable def lenC {ρ : Type} (o : Option (List V)) (A : List V → Option ρ) (B : Option ρ) : Option ρ:=match o with
 | some xs =>A xs
 | .none =>B
noncomputable def lenArg (f : Str) (sc : Scope) (g : Gam) (es : List Expr) : Option (List V):=if f == ("len" : Str) then (one es).bind (locOwn sc g) else .none
noncomputable def ownC {ρ : Type} (v : V) (K : List Int → Option ρ) : Option ρ:=(bytesOf v).bind fun ks =>if ks.length ≤ lid then K ks else .none
noncomputable def extC {ρ : Type} (v : V) (K : List V → Option ρ) : Option ρ:=(listOf v).bind K
noncomputable def methC {ρ : Type} (m x : Str) (g : Gam) (xs vs : List V) (K : Fl → Option ρ) : Option ρ :=
 if m == ("append" : Str) then (one vs).bind fun v =>if xs.length < lid then K (.next (setL x (.own (xs ++ [v])) g)) else .none
 else if m == ("extend" : Str) then (one vs).bind fun v =>extC v fun ys =>if xs.length + ys.length ≤ lid then K (.next (setL x (.own (xs ++ ys)) g)) else .none
 else if m == ("reverse" : Str) then (if vs.isEmpty = true then (if xs.length ≤ lid then K (.next (setL x (.own xs.reverse) g)) else .none) else .none)
 else .none
noncomputable def flC {ρ : Type} (fl : Fl) (A B : Gam → Option ρ) (D : V → Gam → Option ρ) : Option ρ:=match fl with
 | .next g =>A g
 | .brk g =>B g
 | .ret v g =>D v g
noncomputable def tupO : V → Option (List V)
 | .tup vs =>some vs
 | _ =>.none
noncomputable def two' {α : Type} : List α → Option (α × α)
 | [] =>.none
 | a :: r =>(one r).map fun b =>(a,b)
noncomputable def un2 {ρ : Type} (v : V) (K : V → V → Option ρ) : Option ρ:=(tupO v).bind fun l =>(two' l).bind fun p =>K p.1 p.2
noncomputable def un3 {ρ : Type} (v : V) (K : V → V → V → Option ρ) : Option ρ:=(tupO v).bind fun l =>match l with
 | [] =>.none
 | a :: r =>(two' r).bind fun p =>K a p.1 p.2
noncomputable def unK {ρ : Type} (n : Nat) (v : V) (K : V → Option ρ) : Option ρ :=
 if n = 2 then un2 v fun a b =>K (.tup [a,b]) else if n = 3 then un3 v fun a b c =>K (.tup [a,b,c]) else K v
mutual
noncomputable def evK {ρ : Type} : Nat → Ge → Scope → Gam → Expr → (V → Option ρ) → Option ρ
 | 0,_,_,_,_,_ =>.none
 | n + 1,G,sc,g,e,K =>match e with
  | .Constant c _ _ =>(constV c).bind K
  | .Name x _ =>if isLoc sc x = true then (valOf (g.lookup x)).bind K else if isGlo sc x = true then (G.cst x).bind K else .none
  | .BinOp a op b _ =>evK n G sc g a fun x =>evK n G sc g b fun y =>(binV op x y).bind K
  | .UnaryOp op a _ =>(match op with
   | .USub =>((intLit a).map fun i =>V.int (-i)).bind K
   | .Not =>evK n G sc g a fun x =>x.tru.bind fun b =>K (.bool !b)
   | _ =>.none)
  | .BoolOp op es _ =>evBK n G sc g op es K
  | .Compare a ops es _ =>if lastMarks ops es = true then .none else evK n G sc g a fun x =>evCK n G sc g x ops es fun b =>K (.bool b)
  | .IfExp t a b _ =>evTK n G sc g t fun c =>cond c (evK n G sc g a K) (evK n G sc g b K)
  | .List es _ =>mapK (evK n G sc g) es fun vs =>if vs.length ≤ lid then K (.list vs) else .none
  | .Tuple es _ _ =>mapK (evK n G sc g) es fun vs =>if vs.length ≤ lid then K (.tup vs) else .none
  | .Attribute v f _ =>(nameOf v).bind fun x =>if isLoc sc x = true then (fldO G f (g.lookup x)).bind K else .none
  | .Subscript a i _ =>(match dctOf a with
   | some kv =>(mapO litKey kv.1).bind fun kl =>mapK (evK n G sc g) kv.2 fun vl =>evK n G sc g i fun j =>(dictG kl vl j).bind K
   | .none =>(match sliceOf i with
    | some s =>(match s.2.2 with
     | .none =>evK n G sc g a fun x =>evOK n G sc g s.1 fun l =>evOK n G sc g s.2.1 fun h =>(sliceV x l h).bind K
     | some st =>if isRev s.1 s.2.1 st = true then ((ev n G sc g a).bind revV).bind K else .none)
    | .none =>evK n G sc g i fun j =>subC (locOwn sc g a) j K (evK n G sc g a fun w =>(itemV w j).bind K)))
  | .Call f es ks p =>(match f with
   | .Name f q =>if isGlo sc f = true then (if ks.isEmpty = true then lenC (lenArg f sc g es) (fun xs =>((lenV (.list xs)).map fun (k : Nat) =>V.int k).bind K) (mapK (evK n G sc g) es fun vs =>(orO (G.fn f vs []) (bltV f vs)).bind K)
    else (ev (n + 1) G sc g (.Call (.Name f q) es ks p)).bind K) else .none
   | .Attribute b m pa =>if ks.isEmpty = true then (match nameOf b with
    | some x =>if (isLoc sc x && lineOk pa p && decide (es.length < 20)) = true then (instOf (g.lookup x)).bind fun cf =>mapK (evK n G sc g) es fun vs =>if (cf.2.lookup m).isNone = true then (G.pm cf.1 m vs).bind K else .none else .none
    | .none =>if (isEBE b && (m == ("join" : Str) && lineOk pa p)) = true then (one es).bind fun e =>evK n G sc g e fun v =>((listOf v).bind joinV).bind K else .none) else .none
   | _ =>.none)
  | .ListComp elt gens csc _ =>(compOf gens).bind fun c =>if compOk sc csc c.1 = true then evIK n G sc g c.2.1 fun xs =>if xs.length ≤ lid then (compV (fun x =>evIfsK n G csc (setL c.1 (.val x) g) c.2.2 fun b =>cond b (evK n G csc (setL c.1 (.val x) g) elt fun v =>some (some v)) (some .none)) xs).bind fun vs =>K (.list vs) else .none else .none
  | _ =>.none
noncomputable def evOK {ρ : Type} : Nat → Ge → Scope → Gam → Option Expr → (Option Int → Option ρ) → Option ρ
 | 0,_,_,_,_,_ =>.none
 | n + 1,G,sc,g,o,K =>match o with
  | .none =>K .none
  | some e =>evK n G sc g e fun v =>(partV (some v)).bind K
noncomputable def evIK {ρ : Type} : Nat → Ge → Scope → Gam → Expr → (List V → Option ρ) → Option ρ
 | 0,_,_,_,_,_ =>.none
 | n + 1,G,sc,g,e,K =>match callOf e with
  | some c =>if (isGlo sc c.1 && c.1 == ("range" : Str)) = true then mapK (evK n G sc g) c.2 fun vs =>(iterV c.1 vs).bind K else evK n G sc g e fun v =>(itemsV v).bind K
  | .none =>evK n G sc g e fun v =>(itemsV v).bind K
noncomputable def evIfsK {ρ : Type} : Nat → Ge → Scope → Gam → List Expr → (Bool → Option ρ) → Option ρ
 | 0,_,_,_,_,_ =>.none
 | n + 1,G,sc,g,es,K =>match es with
  | [] =>K true
  | e :: r =>(match r with
   | [] =>evTK n G sc g e K
   | _ :: _ =>.none)
noncomputable def evTK {ρ : Type} : Nat → Ge → Scope → Gam → Expr → (Bool → Option ρ) → Option ρ
 | 0,_,_,_,_,_ =>.none
 | n + 1,G,sc,g,e,K =>match e with
  | .UnaryOp op a p =>(match op with
   | .Not =>evTK n G sc g a fun b =>K !b
   | op =>evK n G sc g (.UnaryOp op a p) fun v =>v.tru.bind K)
  | .BoolOp op es _ =>evAK n G sc g op es K
  | .IfExp t a b _ =>evTK n G sc g t fun c =>cond c (evTK n G sc g a K) (evTK n G sc g b K)
  | .Compare a ops es _ =>if lastMarks ops es = true then .none else evK n G sc g a fun x =>evCK n G sc g x ops es K
  | e =>evK n G sc g e fun v =>v.tru.bind K
noncomputable def evBK {ρ : Type} : Nat → Ge → Scope → Gam → BoolOp → List Expr → (V → Option ρ) → Option ρ
 | 0,_,_,_,_,_,_ =>.none
 | n + 1,G,sc,g,op,es,K =>match es with
  | [] =>.none
  | e :: r =>(match r with
   | [] =>evK n G sc g e K
   | _ :: _ =>evK n G sc g e fun v =>v.tru.bind fun b =>(match op with
    | .And =>cond b (evBK n G sc g .And r K) (K v)
    | .Or =>cond b (K v) (evBK n G sc g .Or r K)))
noncomputable def evAK {ρ : Type} : Nat → Ge → Scope → Gam → BoolOp → List Expr → (Bool → Option ρ) → Option ρ
 | 0,_,_,_,_,_,_ =>.none
 | n + 1,G,sc,g,op,es,K =>match es with
  | [] =>K (op == .And)
  | e :: r =>evTK n G sc g e fun b =>(match op with
   | .And =>cond b (evAK n G sc g .And r K) (K false)
   | .Or =>cond b (K true) (evAK n G sc g .Or r K))
noncomputable def evCK {ρ : Type} : Nat → Ge → Scope → Gam → V → List CmpOp → List Expr → (Bool → Option ρ) → Option ρ
 | 0,_,_,_,_,_,_,_ =>.none
 | n + 1,G,sc,g,x,ops,es,K =>match ops with
  | [] =>.none
  | op :: ops =>(match es with
   | [] =>.none
   | e :: es =>evK n G sc g e fun y =>(cmpV op x y).bind fun b =>(match ops with
    | [] =>(match es with
     | [] =>K b
     | _ :: _ =>.none)
    | _ :: _ =>(match es with
     | [] =>.none
     | _ :: _ =>cond b (evCK n G sc g y ops es K) (K false))))
end
noncomputable def evRK {ρ : Type} (n : Nat) (G : Ge) (sc : Scope) (g : Gam) (o : Bool) (e : Expr) (K : AV → Option ρ) : Option ρ :=
 if (o && isNilL e) = true then K (.own []) else match callOf e with
  | some c =>if o = true then (if (c.1 == ("list" : Str) && isGlo sc c.1 && (G.fn c.1 [] []).isNone) = true then (one c.2).bind fun a =>evK n G sc g a fun v =>ownC v fun ks =>K (.own (ks.map .int)) else .none)
   else if isGlo sc c.1 = true then mapK (evK n G sc g) c.2 fun vs =>clsC (G.cls c.1 vs) (fun fl =>K (.inst c.1 fl)) (evK n G sc g e fun v =>K (.val v)) else .none
  | .none =>evK n G sc g e fun v =>K (.val v)
mutual
noncomputable def exK {ρ : Type} : Nat → Ge → Scope → List Str → Gam → Stmt → (Fl → Option ρ) → Option ρ
 | 0,_,_,_,_,_,_ =>.none
 | n + 1,G,sc,mu,g,s,K =>match s with
  | .Return o _ =>o.bind fun e =>evK n G sc (thaw g) e fun v =>K (.ret v (thaw g))
  | .Break _ =>K (.brk g)
  | .If t a b _ =>evTK n G sc g t fun c =>cond c (exsK n G sc mu g a K) (exsK n G sc mu g b K)
  | .While t b e _ =>if e.isEmpty = true then (whileX n G sc mu t b 65536 g).bind K else .none
  | .For t it b e _ =>if e.isEmpty = true then (match enumOf sc t it with
   | some a =>(((ev n G sc g a).bind listOf).bind fun xs =>if xs.length ≤ lid then forX n G sc mu t b (enumL 0 xs) g else .none).bind K
   | .none =>evIK n G sc g it fun xs =>(forX n G sc mu t b xs g).bind K) else .none
  | .Expr e _ =>(match methOf e with
   | some c =>if (isLoc sc c.1.1 && lineOk c.1.2.2 c.2.2) = true then (ownOf (g.lookup c.1.1)).bind fun xs =>mapK (evK n G sc g) c.2.1 fun vs =>methC c.1.2.1 c.1.1 g xs vs K else .none
   | .none =>(callOf e).bind fun _ =>evK n G sc g e fun v =>if isNoneV v = true then K (.next g) else .none)
  | .Assign ts e _ =>(one ts).bind fun t =>(match tupOf t with
   | some us =>(match tupOf e with
    | some es =>if (us.length = es.length && swOk es && es.length ≤ 30) = true then mapK (fun (p : Expr × Expr) K =>evRK n G sc g (owned mu p.1) p.2 K) (us.zip es) fun as =>(storeTT G sc us as g).bind K else .none
    | .none =>evK n G sc g e fun v =>unK us.length v fun v =>(bindT sc t v g).bind fun g' =>K (.next g'))
   | .none =>(match (nameOf t).bind fun x =>(feedOf sc x e).map fun f =>(x,f) with
    | some f =>(instOf (g.lookup f.2.2.1)).bind fun cf =>evK n G sc g f.2.1 fun v =>(listOf v).bind fun ys =>mapK (evK n G sc g) f.2.2.2.2 fun vs =>if (cf.2.lookup f.2.2.2.1).isNone = true then (G.mth cf.1 f.2.2.2.1 cf.2 vs).bind fun r =>(listOf r.1).bind fun zs =>if ys.length + zs.length ≤ lid then K (.next (setL f.1 (.val (.list (ys ++ zs))) (setL f.2.2.1 (.inst cf.1 r.2) g))) else .none else .none
    | .none =>evRK n G sc g (owned mu t) e fun a =>(asg G sc t a g).bind fun g' =>K (.next g')))
  | _ =>.none
noncomputable def exsK {ρ : Type} : Nat → Ge → Scope → List Str → Gam → List Stmt → (Fl → Option ρ) → Option ρ
 | 0,_,_,_,_,_,_ =>.none
 | n + 1,G,sc,mu,g,ss,K =>match ss with
  | [] =>K (.next g)
  | s :: r =>exK n G sc mu g s fun fl =>(match fl with
   | .next g' =>exsK n G sc mu g' r K
   | .brk g' =>K (.brk g')
   | .ret v g' =>K (.ret v g'))
end
theorem ite_nb {α β : Type} {c : Prop} [Decidable c] {x : Option α} {K : α → Option β} : (if c then x else Option.none).bind K = if c then x.bind K else Option.none:=by split <;> rfl
theorem ite_bn {α β : Type} {c : Prop} [Decidable c] {x : Option α} {K : α → Option β} : (if c then Option.none else x).bind K = if c then Option.none else x.bind K:=by split <;> rfl
theorem ite_bd {α β : Type} {c : Prop} [Decidable c] {x y : Option α} {K : α → Option β} : (if c then x else y).bind K = if c then x.bind K else y.bind K:=by split <;> rfl
theorem iteO_bd {α β : Type} {o : Option Bool} {x y : Option α} {K : α → Option β} : (iteO o x y).bind K = o.bind fun c =>cond c (x.bind K) (y.bind K):=by
 rcases o with _ | b
 ·rfl
 ·cases b <;> rfl
theorem cond_bd {α β : Type} {c : Bool} {x y : Option α} {K : α → Option β} : (cond c x y).bind K = cond c (x.bind K) (y.bind K):=by cases c <;> rfl
theorem bound_bd {α ρ : Type} {l : List α} {v : V} {K : V → Option ρ} : (boundO l v).bind K = if l.length ≤ lid then K v else .none:=ite_nb
theorem bsm {α β : Type} {o : Option α} {f : α → β} : (o.bind fun a =>some (f a)) = o.map f:=by cases o <;> rfl
theorem some_bd {α β : Type} {a : α} {K : α → Option β} : (some a).bind K = K a:=rfl
theorem none_bd {α β : Type} {K : α → Option β} : (Option.none : Option α).bind K = Option.none:=rfl
theorem lenOwn_arg {f : Str} {sc : Scope} {g : Gam} {es : List Expr} : lenOwn f sc g es = (lenArg f sc g es).bind fun xs =>(lenV (.list xs)).map fun (k : Nat) =>V.int k:=by
 unfold lenOwn lenArg
 simp only [ite_nb,Option.bind_assoc]
theorem lenArg_none {n : Nat} {G : Ge} {f : Str} {sc : Scope} {g : Gam} {es : List Expr} {xs : List V} (h : lenArg f sc g es = some xs) : mapO (ev n G sc g) es = Option.none:=by
 refine bc fun hN =>?_
 refine ite_el h fun _ h =>?_
 refine bind_el h fun e h1 h =>?_
 refine bind_el h fun x h2 h3 =>?_
 refine ite_el h3 fun hl h4 =>?_
 refine hN ?_; clear hN
 simp only [one_some h1,mpO_cons]
 refine bc fun hN =>?_
 obtain ⟨p,rfl⟩:=nameOf_some h2
 refine hN ?_; clear hN
 cases n with
 | zero =>rfl
 | succ n =>
  have e1 : ev (n + 1) G sc g (.Name x p) = Option.none:=by
   show (if _ then valOf _ else _) = _
   rw [if_pos hl,ownOf_some h4]; rfl
  rw [e1]; rfl
structure KEq (n : Nat) : Prop where
 e : ∀ {ρ : Type} (G sc g e) (K : V → Option ρ),evK n G sc g e K = (ev n G sc g e).bind K
 t : ∀ {ρ : Type} (G sc g e) (K : Bool → Option ρ),evTK n G sc g e K = (evT n G sc g e).bind K
 b : ∀ {ρ : Type} (G sc g op es) (K : V → Option ρ),evBK n G sc g op es K = (evB n G sc g op es).bind K
 a : ∀ {ρ : Type} (G sc g op es) (K : Bool → Option ρ),evAK n G sc g op es K = (evA n G sc g op es).bind K
 c : ∀ {ρ : Type} (G sc g x ops es) (K : Bool → Option ρ),evCK n G sc g x ops es K = (evC n G sc g x ops es).bind K
 o : ∀ {ρ : Type} (G sc g oe) (K : Option Int → Option ρ),evOK n G sc g oe K = (evO n G sc g oe).bind K
 i : ∀ {ρ : Type} (G sc g e) (K : List V → Option ρ),evIK n G sc g e K = (evI n G sc g e).bind K
 s : ∀ {ρ : Type} (G sc g es) (K : Bool → Option ρ),evIfsK n G sc g es K = (evIfs n G sc g es).bind K
theorem keq0 : KEq 0:=⟨fun _ _ _ _ _ =>rfl,fun _ _ _ _ _ =>rfl,fun _ _ _ _ _ _ =>rfl,fun _ _ _ _ _ _ =>rfl,fun _ _ _ _ _ _ _ =>rfl,fun _ _ _ _ _ =>rfl,fun _ _ _ _ _ =>rfl,fun _ _ _ _ _ =>rfl⟩
section
variable {n : Nat} (I : KEq n) {ρ : Type}
include I
theorem mapK_s {G : Ge} {sc : Scope} {g : Gam} {es : List Expr} {K : List V → Option ρ} : mapK (evK n G sc g) es K = (mapO (ev n G sc g) es).bind K:=mapK_eq (fun a K =>I.e _ _ _ a K) es K
theorem evK_call {G : Ge} {sc : Scope} {g : Gam} {f : Str} {es : List Expr} {K : V → Option ρ} : lenC (lenArg f sc g es) (fun xs =>((lenV (.list xs)).map fun (k : Nat) =>V.int k).bind K) (mapK (evK n G sc g) es fun vs =>(orO (G.fn f vs []) (bltV f vs)).bind K) = (match mapO (ev n G sc g) es with
    | some vs =>(kwV []).bind fun kes =>(mapO (fun (p : Str × Expr) =>(ev n G sc g p.2).map fun v =>(p.1,v)) kes).bind fun kvs =>callG G f vs kvs
    | .none =>lenOwn f sc g es).bind K:=by
 rw [lenOwn_arg,mapK_s I]
 cases h : lenArg f sc g es with
 | some xs =>rw [lenArg_none h]; rfl
 | none =>cases mapO (ev n G sc g) es <;> rfl
theorem evK_sub {G : Ge} {sc : Scope} {g : Gam} {a i : Expr} {K : V → Option ρ} : (evK n G sc g i fun j =>subC (locOwn sc g a) j K (evK n G sc g a fun w =>(itemV w j).bind K)) = ((ev n G sc g i).bind fun j =>subK (locOwn sc g a) (ev n G sc g a) j).bind K:=by
 rw [I.e,Option.bind_assoc]
 congr 1
 funext j
 rw [I.e]
 cases locOwn sc g a with
 | none =>exact (Option.bind_assoc ..).symm
 | some xs =>rfl
theorem evK_s (G : Ge) (sc : Scope) (g : Gam) (e : Expr) (K : V → Option ρ) : evK (n + 1) G sc g e K = (ev (n + 1) G sc g e).bind K:=by
 cases e with
 | Constant c k p =>rfl
 | Name x p =>show (if _ then _ else if _ then _ else _) = Option.bind (if _ then _ else if _ then _ else _) K; rw [ite_bd,ite_nb]
 | BinOp a op b p =>show evK n G sc g a _ = Option.bind (Option.bind _ _) K; simp only [I.e,Option.bind_assoc]
 | UnaryOp op a p =>
  cases op with
  | USub =>rfl
  | Not =>show evK n G sc g a _ = Option.bind (Option.bind _ _) K; simp only [I.e,Option.bind_assoc,map_bd]
  | _ =>rfl
 | BoolOp op es p =>exact I.b _ _ _ _ _ _
 | Compare a ops es p =>show (if _ then _ else _) = Option.bind (Option.bind (if _ then _ else _) _) K; simp only [I.e,I.c,Option.bind_assoc,map_bd,ite_bn]
 | IfExp t a b p =>show evTK n G sc g t _ = (iteO _ _ _).bind K; simp only [I.e,I.t,iteO_bd]
 | List es p =>show mapK _ _ _ = Option.bind (Option.bind _ _) K; simp only [mapK_s I,Option.bind_assoc,bound_bd]
 | Tuple es k p =>show mapK _ _ _ = Option.bind (Option.bind _ _) K; simp only [mapK_s I,Option.bind_assoc,bound_bd]
 | Attribute v f p =>show Option.bind _ _ = Option.bind (Option.bind _ _) K; simp only [Option.bind_assoc,ite_nb]
 | Subscript a i p =>
  show (match dctOf a with
   | some kv =>(mapO litKey kv.1).bind fun kl =>_
   | .none =>(match sliceOf i with
    | some s =>(match s.2.2 with
     | .none =>evK n G sc g a fun x =>_
     | some st =>if isRev _ _ _ = true then _ else _)
    | .none =>evK n G sc g i fun j =>_)) = Option.bind (match dctOf a with
   | some kv =>(mapO litKey kv.1).bind fun kl =>_
   | .none =>(match sliceOf i with
    | some s =>(match s.2.2 with
     | .none =>_
     | some st =>if isRev _ _ _ = true then _ else _)
    | .none =>_)) K
  cases dctOf a with
  | some kv =>simp only [mapK_s I,I.e,Option.bind_assoc]
  | none =>
   dsimp only
   cases sliceOf i with
   | none =>exact evK_sub I
   | some s =>
    dsimp only
    cases s.2.2 with
    | none =>simp only [I.e,I.o,Option.bind_assoc]
    | some st =>exact ite_nb.symm
 | Call f es ks p =>
  cases f with
  | Name f q =>
   cases ks with
   | nil =>
    show (if isGlo sc f = true then _ else _) = Option.bind (if _ then _ else _) K
    rw [ite_nb]; congr 1; exact evK_call I
   | cons k ks =>
    cases hg : isGlo sc f with
    | true =>show (if isGlo sc f = true then _ else _) = _; rw [if_pos hg]; rfl
    | false =>
     show (if isGlo sc f = true then _ else _) = Option.bind (if isGlo sc f = true then _ else _) K
     rw [if_neg (by rw [hg]; decide),if_neg (by rw [hg]; decide)]; rfl
  | Attribute b m pa =>
   show (if ks.isEmpty = true then _ else _) = Option.bind (if ks.isEmpty = true then _ else _) K
   rw [ite_nb]
   congr 1
   cases nameOf b with
   | none =>show (if _ then _ else _) = Option.bind (if _ then _ else _) K; simp only [I.e,Option.bind_assoc,ite_nb]
   | some x =>show (if _ then _ else _) = Option.bind (if _ then _ else _) K; simp only [mapK_s I,Option.bind_assoc,ite_nb]
  | _ =>rfl
 | ListComp elt gens csc p =>
  show Option.bind _ _ = Option.bind (Option.bind _ _) K
  simp only [I.e,I.i,I.s,Option.bind_assoc,map_bd,ite_nb]
  congr 1; funext c; congr 1; congr 1; funext xs; congr 1; congr 1
  congr 1; funext x; congr 1; funext b
  cases b with
  | false =>rfl
  | true =>exact bsm
 | _ =>rfl
theorem evOK_s (G : Ge) (sc : Scope) (g : Gam) (o : Option Expr) (K : Option Int → Option ρ) : evOK (n + 1) G sc g o K = (evO (n + 1) G sc g o).bind K:=by
 cases o with
 | none =>rfl
 | some e =>show evK n G sc g e _ = Option.bind (Option.bind _ _) K; simp only [I.e,Option.bind_assoc]
theorem evIK_s (G : Ge) (sc : Scope) (g : Gam) (e : Expr) (K : List V → Option ρ) : evIK (n + 1) G sc g e K = (evI (n + 1) G sc g e).bind K:=by
 show (match callOf e with
  | some c =>if (_ && _) = true then mapK _ _ _ else _
  | .none =>evK n G sc g e fun v =>_) = Option.bind (match callOf e with
  | some c =>if (_ && _) = true then Option.bind _ _ else _
  | .none =>Option.bind _ _) K
 cases callOf e with
 | none =>simp only [I.e,Option.bind_assoc]
 | some c =>dsimp only; rw [ite_bd]; simp only [I.e,mapK_s I,Option.bind_assoc]
theorem evIfsK_s (G : Ge) (sc : Scope) (g : Gam) (es : List Expr) (K : Bool → Option ρ) : evIfsK (n + 1) G sc g es K = (evIfs (n + 1) G sc g es).bind K:=by
 rcases es with _ | ⟨e,_ | ⟨e2,r⟩⟩
 ·rfl
 ·exact I.t _ _ _ _ _
 ·rfl
theorem evTK_s (G : Ge) (sc : Scope) (g : Gam) (e : Expr) (K : Bool → Option ρ) : evTK (n + 1) G sc g e K = (evT (n + 1) G sc g e).bind K:=by
 have k : ∀ e,(evK n G sc g e fun v =>v.tru.bind K) = ((ev n G sc g e).bind V.tru).bind K:=fun e =>by simp only [I.e,Option.bind_assoc]
 cases e with
 | UnaryOp op a p =>
  cases op with
  | Not =>show evTK n G sc g a _ = Option.bind (Option.map _ _) K; simp only [I.t,map_bd]
  | _ =>exact k _
 | BoolOp op es p =>exact I.a _ _ _ _ _ _
 | IfExp t a b p =>show evTK n G sc g t _ = (iteO _ _ _).bind K; simp only [I.t,iteO_bd]
 | Compare a ops es p =>show (if _ then _ else _) = Option.bind (Option.bind (if _ then _ else _) _) K; simp only [I.e,I.c,Option.bind_assoc,ite_bn]
 | _ =>exact k _
theorem evBK_s (G : Ge) (sc : Scope) (g : Gam) (op : BoolOp) (es : List Expr) (K : V → Option ρ) : evBK (n + 1) G sc g op es K = (evB (n + 1) G sc g op es).bind K:=by
 rcases es with _ | ⟨e,_ | ⟨e2,r⟩⟩
 ·rfl
 ·exact I.e _ _ _ _ _
 ·show evK n G sc g e _ = Option.bind (Option.bind _ _) K
  cases op <;> simp only [I.e,I.b,Option.bind_assoc,cond_bd,some_bd]
theorem evAK_s (G : Ge) (sc : Scope) (g : Gam) (op : BoolOp) (es : List Expr) (K : Bool → Option ρ) : evAK (n + 1) G sc g op es K = (evA (n + 1) G sc g op es).bind K:=by
 cases es with
 | nil =>rfl
 | cons e r =>
  show evTK n G sc g e _ = Option.bind (Option.bind _ _) K
  cases op <;> simp only [I.t,I.a,Option.bind_assoc,cond_bd,some_bd]
theorem evCK_s (G : Ge) (sc : Scope) (g : Gam) (x : V) (ops : List CmpOp) (es : List Expr) (K : Bool → Option ρ) : evCK (n + 1) G sc g x ops es K = (evC (n + 1) G sc g x ops es).bind K:=by
 cases ops with
 | nil =>rfl
 | cons op ops =>
  cases es with
  | nil =>rfl
  | cons e es =>
   show evK n G sc g e _ = Option.bind (Option.bind _ _) K
   rw [I.e,Option.bind_assoc]
   congr 1; funext y
   rw [Option.bind_assoc]
   congr 1; funext b
   cases ops with
   | nil =>cases es <;> rfl
   | cons _ _ =>cases es with
    | nil =>rfl
    | cons _ _ =>dsimp only; rw [cond_bd,I.c]; rfl
end
theorem keq : ∀ n,KEq n
 | 0 =>keq0
 | n + 1 =>⟨evK_s (keq n),evTK_s (keq n),evBK_s (keq n),evAK_s (keq n),evCK_s (keq n),evOK_s (keq n),evIK_s (keq n),evIfsK_s (keq n)⟩
section
variable {n : Nat} {ρ : Type}
theorem or_bd {α : Type} {a b : Option α} {K : α → Option ρ} : (orO a b).bind K = (match a with
 | some x =>K x
 | .none =>b.bind K):=by cases a <;> rfl
theorem un2_imp {v : V} {K : V → V → Option ρ} {r : ρ} (h : un2 v K = some r) : ∃ a b,v = .tup [a,b] ∧ K a b = some r:=by
 refine bc fun hN =>?_
 refine bind_el h fun l h1 h2 =>?_
 refine bind_el h2 fun p h3 h4 =>?_
 refine hN ?_; clear hN
 cases v with
 | tup vs =>
  cases h1
  cases l with
  | nil =>exact nS h3
  | cons a t =>
   refine bc fun hN =>?_
   refine map_el h3 fun b h5 hEqq2 =>?_
   subst hEqq2
   refine hN ?_; clear hN
   rw [one_some h5]
   exact ⟨_,_,rfl,h4⟩
 | _ =>exact nS h1
theorem un3_imp {v : V} {K : V → V → V → Option ρ} {r : ρ} (h : un3 v K = some r) : ∃ a b c,v = .tup [a,b,c] ∧ K a b c = some r:=by
 refine bc fun hN =>?_
 refine bind_el h fun l h1 h2 =>?_
 refine hN ?_; clear hN
 cases v with
 | tup vs =>
  cases h1
  cases l with
  | nil =>exact nS h2
  | cons a t =>
   refine bc fun hN =>?_
   refine bind_el h2 fun p h3 h4 =>?_
   refine hN ?_; clear hN
   cases t with
   | nil =>exact nS h3
   | cons b t =>
    refine bc fun hN =>?_
    refine map_el h3 fun c h5 hEqq2 =>?_
    subst hEqq2
    refine hN ?_; clear hN
    rw [one_some h5]
    exact ⟨_,_,_,rfl,h4⟩
 | _ =>exact nS h1
theorem unK_imp {j : Nat} {v : V} {K : V → Option ρ} {r : ρ} (h : unK j v K = some r) : K v = some r:=by
 unfold unK at h
 by_cases c : j = 2
 ·rw [if_pos c] at h
  obtain ⟨a,b,rfl,h⟩:=un2_imp h; exact h
 ·rw [if_neg c] at h
  by_cases c : j = 3
  ·rw [if_pos c] at h
   obtain ⟨a,b,c,rfl,h⟩:=un3_imp h; exact h
  ·rw [if_neg c] at h; exact h
theorem evRK_imp {G : Ge} {sc : Scope} {g : Gam} {o : Bool} {e : Expr} {K : AV → Option ρ} {r : ρ} (h : evRK n G sc g o e K = some r) : (evR n G sc g o e).bind K = some r:=by
 have I:=keq n
 unfold evRK at h
 unfold evR
 by_cases c : (o && isNilL e) = true
 ·rw [if_pos c] at h ⊢; exact h
 rw [if_neg c] at h ⊢
 cases hc : callOf e with
 | none =>
  rw [hc] at h
  show (Option.map _ _).bind K = _
  rw [map_bd,← I.e]; exact h
 | some d =>
  rw [hc] at h
  cases o with
  | true =>
   refine bc fun hN =>?_
   refine ite_el (show (if _ = true then _ else Option.none) = _ from h) fun h1 h =>?_
   refine bind_el h fun a h2 h =>?_
   refine hN ?_; clear hN
   show (if (_ && _) = true then Option.bind _ _ else _).bind K = _
   rw [if_pos h1,h2]
   rw [I.e] at h
   refine bc fun hN =>?_
   refine bind_el h fun v h3 h =>?_
   refine bind_el h fun ks h4 h =>?_
   refine itep_el h fun h5 h =>?_
   refine hN ?_; clear hN
   show (Option.bind _ ownB).bind K = _
   rw [h3,some_bd]
   unfold ownB
   rw [h4,some_bd,if_pos h5]; exact h
  | false =>
   refine bc fun hN =>?_
   refine ite_el (show (if _ = true then _ else Option.none) = _ from h) fun h1 h =>?_
   rw [mapK_s I] at h
   refine bind_el h fun vs h2 h =>?_
   refine hN ?_; clear hN
   show (clsK G d.1 (if isGlo sc d.1 = true then _ else _) _).bind K = _
   rw [if_pos h1,h2]
   unfold clsK
   rw [or_bd,some_bd]
   cases hk : G.cls d.1 vs with
   | some fl =>rw [hk] at h; exact h
   | none =>
    rw [hk] at h
    show (Option.map _ _).bind K = _
    rw [map_bd,← I.e]; exact h
theorem methC_eq {m x : Str} {g : Gam} {xs vs : List V} {K : Fl → Option ρ} : methC m x g xs vs K = (methK m x g xs vs).bind K:=by
 unfold methC methK extC
 simp only [ite_bd,Option.bind_assoc,some_bd,none_bd]
structure SEq (n : Nat) : Prop where
 s : ∀ {ρ : Type} {G sc mu g s} {K : Fl → Option ρ} {r : ρ},exK n G sc mu g s K = some r → (ex n G sc mu s g).bind K = some r
 l : ∀ {ρ : Type} {G sc mu g ss} {K : Fl → Option ρ} {r : ρ},exsK n G sc mu g ss K = some r → (exs n G sc mu ss g).bind K = some r
noncomputable def asgK (n : Nat) (G : Ge) (sc : Scope) (mu : List Str) (g : Gam) (t e : Expr) (K : Fl → Option ρ) : Option ρ:=match tupOf t with
   | some us =>(match tupOf e with
    | some es =>if (us.length = es.length && swOk es && es.length ≤ 30) = true then mapK (fun (p : Expr × Expr) K =>evRK n G sc g (owned mu p.1) p.2 K) (us.zip es) fun as =>(storeTT G sc us as g).bind K else .none
    | .none =>evK n G sc g e fun v =>unK us.length v fun v =>(bindT sc t v g).bind fun g' =>K (.next g'))
   | .none =>(match (nameOf t).bind fun x =>(feedOf sc x e).map fun f =>(x,f) with
    | some f =>(instOf (g.lookup f.2.2.1)).bind fun cf =>evK n G sc g f.2.1 fun v =>(listOf v).bind fun ys =>mapK (evK n G sc g) f.2.2.2.2 fun vs =>if (cf.2.lookup f.2.2.2.1).isNone = true then (G.mth cf.1 f.2.2.2.1 cf.2 vs).bind fun r =>(listOf r.1).bind fun zs =>if ys.length + zs.length ≤ lid then K (.next (setL f.1 (.val (.list (ys ++ zs))) (setL f.2.2.1 (.inst cf.1 r.2) g))) else .none else .none
    | .none =>evRK n G sc g (owned mu t) e fun a =>(asg G sc t a g).bind fun g' =>K (.next g'))
noncomputable def asgE (n : Nat) (G : Ge) (sc : Scope) (mu : List Str) (g : Gam) (t e : Expr) : Option Fl:=match tupOf t with
   | some us =>(match tupOf e with
    | some es =>if (us.length = es.length && swOk es && es.length ≤ 30) = true then (mapO (fun (p : Expr × Expr) =>evR n G sc g (owned mu p.1) p.2) (us.zip es)).bind fun as =>storeTT G sc us as g else .none
    | .none =>(ev n G sc g e).bind fun v =>(bindT sc t v g).map .next)
   | .none =>(match (nameOf t).bind fun x =>(feedOf sc x e).map fun f =>(x,f) with
    | some f =>feedK G f.1 f.2.2.1 f.2.2.2.1 g ((ev n G sc g f.2.1).bind listOf) (mapO (ev n G sc g) f.2.2.2.2)
    | .none =>(evR n G sc g (owned mu t) e).bind fun a =>(asg G sc t a g).map .next)
theorem zipK {G : Ge} {sc : Scope} {mu : List Str} {g : Gam} : ∀ (l : List (Expr × Expr)) {K : List AV → Option ρ} {r : ρ},mapK (fun (p : Expr × Expr) K =>evRK n G sc g (owned mu p.1) p.2 K) l K = some r → (mapO (fun (p : Expr × Expr) =>evR n G sc g (owned mu p.1) p.2) l).bind K = some r
 | [],_,_,h =>h
 | a :: l,K,r,h =>by
  refine bc fun hN =>?_
  refine bind_el (evRK_imp (show evRK n G sc g (owned mu a.1) a.2 (fun b =>mapK _ l fun bs =>K (b :: bs)) = some r from h)) fun b hb h =>?_
  refine bind_el (zipK l h) fun bs hbs h =>?_
  refine hN ?_; clear hN
  simp only [mpO_cons,hb,some_bd,hbs]; exact h
theorem asgK_imp {G : Ge} {sc : Scope} {mu : List Str} {g : Gam} {t e : Expr} {K : Fl → Option ρ} {r : ρ} (h : asgK n G sc mu g t e K = some r) : (asgE n G sc mu g t e).bind K = some r:=by
 have I:=keq n
 unfold asgK at h
 unfold asgE
 cases ht : tupOf t with
 | some us =>
  rw [ht] at h
  cases he : tupOf e with
  | some es =>
   rw [he] at h
   refine bc fun hN =>?_
   refine ite_el (show (if _ = true then _ else Option.none) = _ from h) fun h1 h =>?_
   refine hN ?_; clear hN
   show (if _ = true then Option.bind _ _ else Option.none).bind K = _
   simp only [if_pos h1,Option.bind_assoc]
   exact zipK _ h
  | none =>
   rw [he] at h
   refine bc fun hN =>?_
   refine bind_el ((I.e ..).symm.trans h) fun v h1 h =>?_
   refine hN ?_; clear hN
   show (Option.bind _ _).bind K = _
   rw [h1]
   show (Option.map _ _).bind K = _
   rw [map_bd]
   exact unK_imp h
 | none =>
  rw [ht] at h
  dsimp only at h ⊢
  revert h
  generalize ((nameOf t).bind fun x =>(feedOf sc x e).map fun f =>(x,f)) = of
  intro h
  cases of with
  | none =>
   refine bc fun hN =>?_
   refine bind_el (evRK_imp h) fun a h1 h =>?_
   refine hN ?_; clear hN
   show (Option.bind _ _).bind K = _
   rw [h1]
   show (Option.map _ _).bind K = _
   rw [map_bd]
   exact h
  | some f =>
   refine bc fun hN =>?_
   refine bind_el h fun cf h1 h =>?_
   refine bind_el ((I.e ..).symm.trans h) fun v h2 h =>?_
   refine bind_el h fun ys h3 h =>?_
   refine bind_el ((mapK_s I).symm.trans h) fun vs h4 h =>?_
   refine ite_el h fun h5 h =>?_
   refine bind_el h fun r' h6 h =>?_
   refine bind_el h fun zs h7 h =>?_
   refine itep_el h fun h8 h =>?_
   refine hN ?_; clear hN
   show (feedK ..).bind K = _
   unfold feedK
   simp only [h1,h2,some_bd,some_bd,h3,some_bd,h4,some_bd,if_pos h5,h6,some_bd,h7,some_bd,if_pos h8]; exact h
theorem exK_imp (J : SEq n) {G : Ge} {sc : Scope} {mu : List Str} {g : Gam} {s : Stmt} {K : Fl → Option ρ} {r : ρ} (h : exK (n + 1) G sc mu g s K = some r) : (ex (n + 1) G sc mu s g).bind K = some r:=by
 have I:=keq n
 cases s with
 | Return o p =>
  refine bc fun hN =>?_
  refine bind_el (show Option.bind _ _ = some r from h) fun e h1 h =>?_
  refine hN ?_; clear hN
  show (Option.bind _ _).bind K = _
  rw [h1,some_bd,map_bd,← I.e]; exact h
 | Break p =>exact h
 | If t a b p =>
  refine bc fun hN =>?_
  refine bind_el ((I.t ..).symm.trans h) fun c hc h =>?_
  refine hN ?_; clear hN
  show (iteO _ _ _).bind K = _
  rw [hc]
  cases c
  ·exact J.l h
  ·exact J.l h
 | While t b e p =>
  refine bc fun hN =>?_
  refine ite_el (show (if _ = true then _ else Option.none) = _ from h) fun h1 h =>?_
  refine hN ?_; clear hN
  show (if _ = true then _ else Option.none).bind K = _
  rw [if_pos h1]; exact h
 | For t it b e p =>
  obtain ⟨h1,h⟩:=ite_some' (show (if _ = true then (match enumOf sc t it with
   | some a =>_
   | .none =>_) else Option.none) = _ from h)
  show (if e.isEmpty = true then (match enumOf sc t it with
   | some a =>_
   | .none =>_) else Option.none).bind K = _
  rw [if_pos h1]
  cases he : enumOf sc t it with
  | some a =>rw [he] at h; exact h
  | none =>
   rw [he] at h
   show (Option.bind _ _).bind K = _
   rw [Option.bind_assoc,← I.i]; exact h
 | Expr e q =>
  have h : (match methOf e with
   | some c =>_
   | .none =>(callOf e).bind fun _ =>evK n G sc g e fun v =>_) = some r:=h
  show Option.bind (match methOf e with
   | some c =>_
   | .none =>Option.bind _ _) K = _
  cases he : methOf e with
  | some c =>
   rw [he] at h
   refine bc fun hN =>?_
   refine ite_el (show (if _ = true then _ else Option.none) = _ from h) fun h1 h =>?_
   refine bind_el h fun xs h2 h =>?_
   refine bind_el ((mapK_s I).symm.trans h) fun vs h3 h =>?_
   refine hN ?_; clear hN
   show (if _ = true then Option.bind _ _ else Option.none).bind K = _
   rw [if_pos h1,h2,some_bd,h3,some_bd,← methC_eq]; exact h
  | none =>
   rw [he] at h
   refine bc fun hN =>?_
   refine bind_el (show Option.bind _ _ = _ from h) fun c h1 h =>?_
   refine bind_el ((I.e ..).symm.trans h) fun v h2 h =>?_
   refine ite_el h fun h3 h =>?_
   refine hN ?_; clear hN
   show (Option.bind _ _).bind K = _
   simp only [h1,some_bd,h2,some_bd,if_pos h3]; exact h
 | Assign ts e p =>
  refine bc fun hN =>?_
  refine bind_el (show (one ts).bind (fun t =>asgK n G sc mu g t e K) = some r from h) fun t h1 h =>?_
  refine hN ?_; clear hN
  show (Option.bind (one ts) fun t =>asgE n G sc mu g t e).bind K = _
  rw [h1]
  exact asgK_imp h
 | _ =>exact h
theorem exsK_imp (J : SEq n) {G : Ge} {sc : Scope} {mu : List Str} {g : Gam} {ss : List Stmt} {K : Fl → Option ρ} {r : ρ} (h : exsK (n + 1) G sc mu g ss K = some r) : (exs (n + 1) G sc mu ss g).bind K = some r:=by
 cases ss with
 | nil =>exact h
 | cons s ss =>
  refine bc fun hN =>?_
  refine bind_el (J.s (show exK n G sc mu g s _ = some r from h)) fun fl h1 h =>?_
  refine hN ?_; clear hN
  show (seqF _ _).bind K = _
  rw [h1]
  cases fl with
  | next g' =>exact J.l h
  | brk g' =>exact h
  | ret v g' =>exact h
theorem seq : ∀ n,SEq n
 | 0 =>⟨fun h =>(by exact nS h),fun h =>(by exact nS h)⟩
 | n + 1 =>⟨fun h =>exK_imp (seq n) h,fun h =>exsK_imp (seq n) h⟩
end
theorem exsK_out {n : Nat} {G : Ge} {sc : Scope} {mu : List Str} {g : Gam} {ss : List Stmt} {fl : Fl} (h : exsK n G sc mu g ss some = some fl) : exs n G sc mu ss g = some fl:=by
 refine bind_el ((seq n).l h) fun a h1 h2 =>?_
 rw [h1]; exact h2
section
noncomputable def wt (G : Ge) : Ge:={ cst:=tab.cst,flds:=tab.flds,fn:=fun f vs kvs =>(tab.fn f).bind fun _ =>G.fn f vs kvs,pm:=G.pm,cls:=fun C vs =>(tab.meth C "__init__").bind fun _ =>G.cls C vs,mth:=G.mth }
theorem wt_eq : ∀ {k : Nat},wt (geOf tab k) = geOf tab k
 | 0 =>by
  unfold wt geOf
  congr 1
  ·funext f vs kvs; cases tab.fn f <;> rfl
  ·funext C vs; cases tab.meth C "__init__" <;> rfl
 | k + 1 =>by
  unfold wt geOf
  congr 1
  ·funext f vs kvs
   show ((tab.fn f).bind fun _ =>(tab.fn f).bind fun r =>runF r fuel (geOf tab k) vs kvs) = (tab.fn f).bind fun r =>runF r fuel (geOf tab k) vs kvs
   cases tab.fn f <;> rfl
  ·funext C vs
   show ((tab.meth C "__init__").bind fun _ =>(tab.meth C "__init__").bind fun r =>runC r fuel (geOf tab k) C vs) = (tab.meth C "__init__").bind fun r =>runC r fuel (geOf tab k) C vs
   cases tab.meth C "__init__" <;> rfl
noncomputable def sAt (b : List Stmt) (i : Nat) : Stmt:=match b.drop i with
 | s :: _ =>s
 | [] =>.Break ⟨0,0,0,0⟩
noncomputable def bodyOf : Stmt → List Stmt
 | .While _ b _ _ =>b
 | .For _ _ b _ _ =>b
 | _ =>[]
noncomputable def testOf : Stmt → Expr
 | .While t _ _ _ =>t
 | .For t _ _ _ _ =>t
 | _ =>.Constant .none 0 ⟨0,0,0,0⟩
noncomputable def blk (b : List Stmt) : List Nat → List Stmt
 | [] =>b
 | i :: p =>blk (bodyOf (sAt b i)) p
noncomputable def dictV (ks : List Int) (vs : List V) (j : V) : Option V:=match j with
 | .int j =>if ks.length = vs.length ∧ 1 ≤ ks.length ∧ ks.length ≤ 8 ∧ ks.Nodup then (ks.zip vs).lookup j else .none
 | _ =>.none
noncomputable def retF : Fl → Option V
 | .ret v _ =>some v
 | .next _ =>some .none
 | .brk _ =>Option.none
noncomputable def retPf : Fl → Option V
 | .ret v _ =>some v
 | _ =>Option.none
noncomputable def retMf : Fl → Option (V × List (Str × V))
 | .ret v g =>(instOf (g.lookup ("self" : Str))).map fun cf =>(v,cf.2)
 | _ =>Option.none
noncomputable def retCf : Fl → Option (List (Str × V))
 | .next g =>(instOf (g.lookup ("self" : Str))).map fun cf =>cf.2
 | _ =>Option.none
theorem ifn {α : Type} {c : Bool} {o : Option α} {v : α} (h : (if c = true then o else Option.none) = some v) : c = true ∧ o = some v:=by
 split at h
 ·exact ⟨by assumption,h⟩
 ·cases h
section
variable {r : FnRec} {k : Nat} {vs : List V} {kvs : List (Str × V)}
theorem fn_sh {f : Str} {X : Option V} {v : V} (hr : tab.fn f = some r) (e : (if (r.pats.contains (vs.length,kvs.map (·.1)) && scOk r.sc r.names) = true then exsK 40 (wt (geOf tab k)) r.sc r.mu (r.names.zip ((vs ++ restOf (r.names.drop vs.length) (kvs ++ r.dfl)).map .val)) r.body retF else Option.none) = X) (h : X = some v) : (geOf tab (k + 1)).fn f vs kvs = some v:=by
 obtain ⟨h1,h2⟩:=ifn (e.trans h)
 obtain ⟨fl,h3,h4⟩:=bind_some' ((seq 40).l h2)
 rw [wt_eq] at h3
 show (tab.fn f).bind (fun r =>runF r 40 (geOf tab k) vs kvs) = _
 rw [hr]
 show runF r 40 (geOf tab k) vs kvs = _
 unfold runF
 rw [if_pos h1,h3]
 cases fl with
 | ret w g =>exact h4
 | next g =>exact h4
 | brk g =>cases h4
theorem pm_sh {C m : Str} {X : Option V} {v : V} (hr : tab.meth C m = some r) (e : (if selfOk r vs.length = true then exsK 40 (wt (geOf tab k)) r.sc r.mu (parsOf r vs) r.body retPf else Option.none) = X) (h : X = some v) : (geOf tab (k + 1)).pm C m vs = some v:=by
 obtain ⟨h1,h2⟩:=ifn (e.trans h)
 obtain ⟨fl,h3,h4⟩:=bind_some' ((seq 40).l h2)
 rw [wt_eq] at h3
 show (tab.meth C m).bind (fun r =>runP r 40 (geOf tab k) vs) = _
 rw [hr]
 show runP r 40 (geOf tab k) vs = _
 unfold runP
 rw [if_pos h1,h3]
 cases fl with
 | ret w g =>exact h4
 | next g =>cases h4
 | brk g =>cases h4
theorem mth_sh {C m : Str} {fl0 : List (Str × V)} {X : Option (V × List (Str × V))} {v : V × List (Str × V)} (hr : tab.meth C m = some r) (e : (if selfOk r vs.length = true then exsK 40 (wt (geOf tab k)) r.sc r.mu (("self",.inst C fl0) :: parsOf r vs) r.body retMf else Option.none) = X) (h : X = some v) : (geOf tab (k + 1)).mth C m fl0 vs = some v:=by
 obtain ⟨h1,h2⟩:=ifn (e.trans h)
 obtain ⟨fl,h3,h4⟩:=bind_some' ((seq 40).l h2)
 rw [wt_eq] at h3
 show (tab.meth C m).bind (fun r =>runM r 40 (geOf tab k) C fl0 vs) = _
 rw [hr]
 show runM r 40 (geOf tab k) C fl0 vs = _
 unfold runM
 rw [if_pos h1,h3]
 cases fl with
 | ret w g =>
  rw [← h4]
  show (match g.lookup ("self" : Str) with | some (.inst _ fl') =>some (w,fl') | _ =>Option.none) = (instOf (g.lookup ("self" : Str))).map fun cf =>(w,cf.2)
  cases g.lookup ("self" : Str) with
  | none =>rfl
  | some a =>cases a <;> rfl
 | next g =>cases h4
 | brk g =>cases h4
theorem cls_sh {C : Str} {X : Option (List (Str × V))} {v : List (Str × V)} (hr : tab.meth C "__init__" = some r) (e : (if selfOk r vs.length = true then exsK 40 (wt (geOf tab k)) r.sc r.mu (("self",.inst C []) :: parsOf r vs) r.body retCf else Option.none) = X) (h : X = some v) : (geOf tab (k + 1)).cls C vs = some v:=by
 obtain ⟨h1,h2⟩:=ifn (e.trans h)
 obtain ⟨fl,h3,h4⟩:=bind_some' ((seq 40).l h2)
 rw [wt_eq] at h3
 show (tab.meth C "__init__").bind (fun r =>runC r 40 (geOf tab k) C vs) = _
 rw [hr]
 show runC r 40 (geOf tab k) C vs = _
 unfold runC
 rw [if_pos h1,h3]
 cases fl with
 | ret w g =>cases h4
 | next g =>
  rw [← h4]
  show (match g.lookup ("self" : Str) with | some (.inst _ fl') =>some fl' | _ =>Option.none) = (instOf (g.lookup ("self" : Str))).map fun cf =>cf.2
  cases g.lookup ("self" : Str) with
  | none =>rfl
  | some a =>cases a <;> rfl
 | brk g =>cases h4
end
theorem test_sh {n : Nat} {G : Ge} {sc : Scope} {g : Gam} {t : Expr} {X : Option Bool} {b : Bool} (e : evTK n G sc g t some = X) (h : X = some b) : evT n G sc g t = some b:=by
 have:=e.trans h
 rw [(keq n).t] at this
 obtain ⟨c,h1,h2⟩:=bind_some' this
 rw [h1]; exact h2
theorem body_sh {n : Nat} {G : Ge} {sc : Scope} {mu : List Str} {g : Gam} {b : List Stmt} {X : Option Fl} {P : Fl → Prop} (e : exsK n G sc mu g b some = X) (h : Out X P) : Out (exs n G sc mu b g) P:=by
 obtain ⟨fl,h1,h2⟩:=h
 exact ⟨fl,exsK_out (e.trans h1),h2⟩
noncomputable def R12 : FnRec:=fnk 12 [] [(1,[])] []
noncomputable def R13 : FnRec:=fnk 13 [] [(1,[])] []
noncomputable def R14 : FnRec:=fnk 14 [] [(1,[])] []
noncomputable def R15 : FnRec:=fnk 15 [] [(1,[])] []
noncomputable def R16 : FnRec:=fnk 16 [] [(1,[])] []
noncomputable def R17 : FnRec:=fnk 17 [] [(1,[])] []
noncomputable def R25 : FnRec:=fnk 25 [] [(1,[])] []
noncomputable def R26 : FnRec:=fnk 26 ["found"] [(1,[])] []
noncomputable def R27 : FnRec:=fnk 27 [] [(1,[])] []
noncomputable def R28 : FnRec:=fnk 28 [] [(2,[])] []
noncomputable def R29 : FnRec:=fnk 29 ["found"] [(1,[])] []
noncomputable def R30 : FnRec:=fnk 30 ["found"] [(1,[])] []
noncomputable def R36 : FnRec:=fnk 36 ["found"] [(1,[])] []
noncomputable def R37 : FnRec:=fnk 37 [] [(2,[])] []
noncomputable def R38 : FnRec:=fnk 38 [] [(2,[])] []
noncomputable def R39 : FnRec:=fnk 39 [] [(3,[])] []
noncomputable def R40 : FnRec:=fnk 40 ["found"] [(2,[]),(2,["with_mark"])] [("with_mark",.bool false)]
noncomputable def R41 : FnRec:=fnk 41 [] [(3,[])] []
noncomputable def R42 : FnRec:=fnk 42 [] [(2,[])] []
noncomputable def R43 : FnRec:=fnk 43 ["found"] [(2,[])] []
noncomputable def R45 : FnRec:=fnk 45 ["found"] [(2,[]),(2,["with_mark"])] [("with_mark",.bool false)]
noncomputable def R46 : FnRec:=fnk 46 ["row"] [(3,[])] []
noncomputable def R47 : FnRec:=fnk 47 [] [(2,[])] []
noncomputable def R48 : FnRec:=fnk 48 ["found"] [(2,[])] []
noncomputable def R49 : FnRec:=fnk 49 [] [(0,[])] []
noncomputable def R50 : FnRec:=fnk 50 [] [(1,[])] []
noncomputable def R51 : FnRec:=fnk 51 [] [(1,[])] []
noncomputable def R54 : FnRec:=fnk 54 [] [(1,[])] []
noncomputable def R55 : FnRec:=fnk 55 [] [(1,[])] []
noncomputable def R56 : FnRec:=fnk 56 ["found"] [(1,[])] []
noncomputable def R57 : FnRec:=fnk 57 [] [(1,[])] []
noncomputable def R58 : FnRec:=fnk 58 [] [(2,[])] []
noncomputable def R59 : FnRec:=fnk 59 ["found"] [(1,[])] []
noncomputable def R60 : FnRec:=fnk 60 [] [(2,[])] []
noncomputable def R61 : FnRec:=fnk 61 [] [(3,[])] []
noncomputable def R62 : FnRec:=fnk 62 [] [(2,[])] []
noncomputable def R63 : FnRec:=fnk 63 [] [(2,[])] []
noncomputable def R64 : FnRec:=fnk 64 [] [(3,[])] []
noncomputable def R65 : FnRec:=fnk 65 [] [(1,[])] []
noncomputable def R31_0 : FnRec:=mtk 31 0 [] [(1,[])] [("is_strict",.bool false)]
noncomputable def R31_1 : FnRec:=mtk 31 1 ["found"] [(3,[])] []
noncomputable def R44_0 : FnRec:=mtk 44 0 [] [(1,[]),(3,[])] [("order",.none),("is_strict",.bool true)]
noncomputable def R44_1 : FnRec:=mtk 44 1 [] [(4,[])] []
noncomputable def R44_2 : FnRec:=mtk 44 2 ["found"] [(3,[])] []
end
theorem sh_is_code {k : Nat} {x : Int} {v : V} (h : (let G:=geOf tab k; cond (decide (0 ≤ x)) (some (.bool (decide (x ≤ 1114111)))) (some (.bool false))) = some v) : (geOf tab (k + 1)).fn "is_code" [.int x] [] = some v:=fn_sh (r:=R12) (by kernel_rfl) (by kernel_rfl) h
theorem sh_is_high {k : Nat} {x : Int} {v : V} (h : (let G:=geOf tab k; cond (decide (55296 ≤ x)) (some (.bool (decide (x ≤ 56319)))) (some (.bool false))) = some v) : (geOf tab (k + 1)).fn "is_high" [.int x] [] = some v:=fn_sh (r:=R13) (by kernel_rfl) (by kernel_rfl) h
theorem sh_is_low {k : Nat} {x : Int} {v : V} (h : (let G:=geOf tab k; cond (decide (56320 ≤ x)) (some (.bool (decide (x ≤ 57343)))) (some (.bool false))) = some v) : (geOf tab (k + 1)).fn "is_low" [.int x] [] = some v:=fn_sh (r:=R14) (by kernel_rfl) (by kernel_rfl) h
theorem sh_is_surrogate {k : Nat} {x : Int} {v : V} (h : (let G:=geOf tab k; cond (decide (55296 ≤ x)) (some (.bool (decide (x ≤ 57343)))) (some (.bool false))) = some v) : (geOf tab (k + 1)).fn "is_surrogate" [.int x] [] = some v:=fn_sh (r:=R15) (by kernel_rfl) (by kernel_rfl) h
theorem sh_is_scalar {k : Nat} {x : Int} {v : V} (h : (let G:=geOf tab k; (orO (G.fn "is_code" [.int x] []) (bltV "is_code" [.int x])).bind fun v1 =>(V.tru v1).bind fun b2 =>cond b2 ((orO (G.fn "is_surrogate" [.int x] []) (bltV "is_surrogate" [.int x])).bind fun v3 =>(V.tru v3).bind fun b4 =>some (.bool (!b4))) (some v1)) = some v) : (geOf tab (k + 1)).fn "is_scalar" [.int x] [] = some v:=fn_sh (r:=R16) (by kernel_rfl) (by kernel_rfl) h
theorem sh_check_scalars {k : Nat} {xs : List V} {v : V} (h : (let G:=geOf tab k; (itemsV (.list xs)).bind fun xs1 =>(forX 38 (wt G) R17.sc R17.mu (testOf (sAt (blk R17.body []) 0)) (blk R17.body [0]) xs1 [("text",.val (.list xs))]).bind fun fl2 =>flC fl2 (fun g3 =>exsK 39 (wt G) R17.sc R17.mu g3 ((blk R17.body []).drop 1) retF) (fun g3 =>retF (.brk g3)) (fun w g3 =>retF (.ret w g3))) = some v) : (geOf tab (k + 1)).fn "check_scalars" [.list xs] [] = some v:=fn_sh (r:=R17) (by kernel_rfl) (by kernel_rfl) h
theorem shb_check_scalars {k : Nat} {xs : List V} {ex : Gam} {P : Fl → Prop} (h : Out (let G:=geOf tab k; (valOf (List.lookup ("code" : Str) ex)).bind fun v1 =>(orO (G.fn "is_scalar" [v1] []) (bltV "is_scalar" [v1])).bind fun v2 =>(V.tru v2).bind fun b3 =>cond (!b3) (Option.none) (some (.next (("text",.val (.list xs)) :: ex)))) P) : Out (exs 38 (wt (geOf tab k)) R17.sc R17.mu (blk R17.body [0]) (("text",.val (.list xs)) :: ex)) P:=body_sh (by kernel_rfl) h
theorem sha_check_scalars {k : Nat} {xs : List V} {ex : Gam} {v : Option (V)} (h : (let G:=geOf tab k; some .none) = v) : exsK 39 (wt (geOf tab k)) R17.sc R17.mu (("text",.val (.list xs)) :: ex) ((blk R17.body []).drop 1) retF = v:=Eq.trans (by kernel_rfl) h
theorem sh_utf8_octets {k : Nat} {x : Int} {v : V} (h : (let G:=geOf tab k; cond (decide (x < 128)) (some (.list [.int x])) (cond (decide (x < 2048)) ((binV .RShift (.int x) (.int 6)).bind fun v1 =>(binV .BitOr (.int 192) v1).bind fun v2 =>some (.list [v2,.int (Builtin.bitOr 128 (Builtin.bitAnd x 63))])) (cond (decide (x < 65536)) ((binV .RShift (.int x) (.int 12)).bind fun v3 =>(binV .BitOr (.int 224) v3).bind fun v4 =>(binV .RShift (.int x) (.int 6)).bind fun v5 =>(binV .BitAnd v5 (.int 63)).bind fun v6 =>(binV .BitOr (.int 128) v6).bind fun v7 =>some (.list [v4,v7,.int (Builtin.bitOr 128 (Builtin.bitAnd x 63))])) ((binV .RShift (.int x) (.int 18)).bind fun v8 =>(binV .BitOr (.int 240) v8).bind fun v9 =>(binV .RShift (.int x) (.int 12)).bind fun v10 =>(binV .BitAnd v10 (.int 63)).bind fun v11 =>(binV .BitOr (.int 128) v11).bind fun v12 =>(binV .RShift (.int x) (.int 6)).bind fun v13 =>(binV .BitAnd v13 (.int 63)).bind fun v14 =>(binV .BitOr (.int 128) v14).bind fun v15 =>(binV .Add (.list [v9,v12]) (.list [v15,.int (Builtin.bitOr 128 (Builtin.bitAnd x 63))])).bind fun v16 =>some v16)))) = some v) : (geOf tab (k + 1)).fn "utf8_octets" [.int x] [] = some v:=fn_sh (r:=R25) (by kernel_rfl) (by kernel_rfl) h
theorem sh_encode_utf8 {k : Nat} {xs : List V} {v : V} (h : (let G:=geOf tab k; (itemsV (.list xs)).bind fun xs1 =>(forX 37 (wt G) R26.sc R26.mu (testOf (sAt (blk R26.body []) 1)) (blk R26.body [1]) xs1 [("text",.val (.list xs)),("found",.own [])]).bind fun fl2 =>flC fl2 (fun g3 =>exsK 38 (wt G) R26.sc R26.mu g3 ((blk R26.body []).drop 2) retF) (fun g3 =>retF (.brk g3)) (fun w g3 =>retF (.ret w g3))) = some v) : (geOf tab (k + 1)).fn "encode_utf8" [.list xs] [] = some v:=fn_sh (r:=R26) (by kernel_rfl) (by kernel_rfl) h
theorem shb_encode_utf8 {k : Nat} {xs fs : List V} {ex : Gam} {P : Fl → Prop} (h : Out (let G:=geOf tab k; (valOf (List.lookup ("code" : Str) ex)).bind fun v1 =>(orO (G.fn "is_scalar" [v1] []) (bltV "is_scalar" [v1])).bind fun v2 =>(V.tru v2).bind fun b3 =>cond (!b3) (Option.none) ((valOf (List.lookup ("code" : Str) ex)).bind fun v4 =>(orO (G.fn "utf8_octets" [v4] []) (bltV "utf8_octets" [v4])).bind fun v5 =>extC v5 fun ys35 =>if fs.length + ys35.length ≤ lid then some (.next (("text",.val (.list xs)) :: ("found",.own (fs ++ ys35)) :: ex)) else Option.none)) P) : Out (exs 37 (wt (geOf tab k)) R26.sc R26.mu (blk R26.body [1]) (("text",.val (.list xs)) :: ("found",.own fs) :: ex)) P:=body_sh (by kernel_rfl) h
theorem sha_encode_utf8 {k : Nat} {xs fs : List V} {ex : Gam} {v : Option (V)} (h : (let G:=geOf tab k; (bltV "bytes" [.list fs]).bind fun v1 =>some v1) = v) : exsK 38 (wt (geOf tab k)) R26.sc R26.mu (("text",.val (.list xs)) :: ("found",.own fs) :: ex) ((blk R26.body []).drop 2) retF = v:=Eq.trans (by kernel_rfl) h
theorem sh_utf8_lead {k : Nat} {x : Int} {v : V} (h : (let G:=geOf tab k; cond (decide (x < 128)) (some (.tup [.int 1,.int 0,.int 0])) (cond (decide (194 ≤ x)) (cond (decide (x ≤ 223)) (some (.tup [.int 2,.int 128,.int 191])) (cond (decide (224 ≤ x)) (cond (decide (x ≤ 239)) (cond ((x == 224)) (cond ((x == 237)) (some (.tup [.int 3,.int 160,.int 159])) (some (.tup [.int 3,.int 160,.int 191]))) (cond ((x == 237)) (some (.tup [.int 3,.int 128,.int 159])) (some (.tup [.int 3,.int 128,.int 191])))) (cond (decide (240 ≤ x)) (cond (decide (x ≤ 244)) (cond ((x == 240)) (cond ((x == 244)) (some (.tup [.int 4,.int 144,.int 143])) (some (.tup [.int 4,.int 144,.int 191]))) (cond ((x == 244)) (some (.tup [.int 4,.int 128,.int 143])) (some (.tup [.int 4,.int 128,.int 191])))) (some .none)) (some .none))) (cond (decide (240 ≤ x)) (cond (decide (x ≤ 244)) (cond ((x == 240)) (cond ((x == 244)) (some (.tup [.int 4,.int 144,.int 143])) (some (.tup [.int 4,.int 144,.int 191]))) (cond ((x == 244)) (some (.tup [.int 4,.int 128,.int 143])) (some (.tup [.int 4,.int 128,.int 191])))) (some .none)) (some .none)))) (cond (decide (224 ≤ x)) (cond (decide (x ≤ 239)) (cond ((x == 224)) (cond ((x == 237)) (some (.tup [.int 3,.int 160,.int 159])) (some (.tup [.int 3,.int 160,.int 191]))) (cond ((x == 237)) (some (.tup [.int 3,.int 128,.int 159])) (some (.tup [.int 3,.int 128,.int 191])))) (cond (decide (240 ≤ x)) (cond (decide (x ≤ 244)) (cond ((x == 240)) (cond ((x == 244)) (some (.tup [.int 4,.int 144,.int 143])) (some (.tup [.int 4,.int 144,.int 191]))) (cond ((x == 244)) (some (.tup [.int 4,.int 128,.int 143])) (some (.tup [.int 4,.int 128,.int 191])))) (some .none)) (some .none))) (cond (decide (240 ≤ x)) (cond (decide (x ≤ 244)) (cond ((x == 240)) (cond ((x == 244)) (some (.tup [.int 4,.int 144,.int 143])) (some (.tup [.int 4,.int 144,.int 191]))) (cond ((x == 244)) (some (.tup [.int 4,.int 128,.int 143])) (some (.tup [.int 4,.int 128,.int 191])))) (some .none)) (some .none))))) = some v) : (geOf tab (k + 1)).fn "utf8_lead" [.int x] [] = some v:=fn_sh (r:=R27) (by kernel_rfl) (by kernel_rfl) h
theorem sh_utf8_piece {k : Nat} {ks : List Int} {i : Int} {v : V} (h : (let G:=geOf tab k; (itemV (.bytes ks) (.int i)).bind fun v1 =>(itemV (.bytes ks) (.int i)).bind fun v2 =>(orO (G.fn "utf8_lead" [v2] []) (bltV "utf8_lead" [v2])).bind fun v3 =>cond (isNoneV v3) ((itemV (.bytes ks) (.int i)).bind fun v4 =>(cmpV .Lt v4 (.int 192)).bind fun b5 =>cond b5 (some (.tup [.int 1,.none,.str "a trail octet without a lead"])) (some (.tup [.int 1,.none,.str "an octet that never stands"]))) (un3 v3 fun v6 v7 v8 =>(cmpV .Eq v6 (.int 1)).bind fun b9 =>cond b9 ((itemV (.bytes ks) (.int i)).bind fun v10 =>some (.tup [.int 1,v10,.str ("" : Str)])) ((itemV (.bytes ks) (.int i)).bind fun v11 =>(binV .RShift (.int 127) v6).bind fun v12 =>(binV .BitAnd v11 v12).bind fun v13 =>(iterV "range" [.int 1,v6]).bind fun xs14 =>(forX 33 (wt G) R28.sc R28.mu (testOf (sAt (blk R28.body []) 5)) (blk R28.body [5]) xs14 [("octets",.val (.bytes ks)),("at",.val (.int i)),("lead",.val v3),("many",.val v6),("low",.val v7),("high",.val v8),("code",.val v13)]).bind fun fl15 =>flC fl15 (fun g16 =>exsK 34 (wt G) R28.sc R28.mu g16 ((blk R28.body []).drop 6) retF) (fun g16 =>retF (.brk g16)) (fun w g16 =>retF (.ret w g16))))) = some v) : (geOf tab (k + 1)).fn "utf8_piece" [.bytes ks,.int i] [] = some v:=fn_sh (r:=R28) (by kernel_rfl) (by kernel_rfl) h
theorem shb_utf8_piece {k : Nat} {ks : List Int} {i m lo hi c : Int} {l : V} {ex : Gam} {P : Fl → Prop} (h : Out (let G:=geOf tab k; (valOf (List.lookup ("behind" : Str) ex)).bind fun v1 =>(binV .Add (.int i) v1).bind fun v2 =>(bltV "len" [.bytes ks]).bind fun v3 =>(cmpV .GtE v2 v3).bind fun b4 =>cond b4 ((valOf (List.lookup ("behind" : Str) (thaw ex))).bind fun v5 =>some (.ret (V.tup [v5,.none,.str "a sequence that is cut short"]) (("octets",.val (.bytes ks)) :: ("at",.val (.int i)) :: ("lead",.val l) :: ("many",.val (.int m)) :: ("low",.val (.int lo)) :: ("high",.val (.int hi)) :: ("code",.val (.int c)) :: (thaw ex)))) ((valOf (List.lookup ("behind" : Str) ex)).bind fun v6 =>(binV .Add (.int i) v6).bind fun v7 =>(itemV (.bytes ks) v7).bind fun v8 =>(valOf (List.lookup ("octet" : Str) (setL "octet" (AV.val v8) ex))).bind fun v9 =>(cmpV .LtE (.int lo) v9).bind fun b10 =>cond b10 ((cmpV .LtE v9 (.int hi)).bind fun b11 =>cond (!b11) ((valOf (List.lookup ("behind" : Str) (thaw (setL "octet" (AV.val v8) ex)))).bind fun v12 =>some (.ret (V.tup [v12,.none,.str "a sequence that breaks off"]) (("octets",.val (.bytes ks)) :: ("at",.val (.int i)) :: ("lead",.val l) :: ("many",.val (.int m)) :: ("low",.val (.int lo)) :: ("high",.val (.int hi)) :: ("code",.val (.int c)) :: (thaw (setL "octet" (AV.val v8) ex))))) ((binV .LShift (.int c) (.int 6)).bind fun v13 =>(valOf (List.lookup ("octet" : Str) (setL "octet" (AV.val v8) ex))).bind fun v14 =>(binV .BitAnd v14 (.int 63)).bind fun v15 =>(binV .BitOr v13 v15).bind fun v16 =>some (.next (("octets",.val (.bytes ks)) :: ("at",.val (.int i)) :: ("lead",.val l) :: ("many",.val (.int m)) :: ("low",.val (.int 128)) :: ("high",.val (.int 191)) :: ("code",.val v16) :: (setL "octet" (AV.val v8) ex))))) ((valOf (List.lookup ("behind" : Str) (thaw (setL "octet" (AV.val v8) ex)))).bind fun v17 =>some (.ret (V.tup [v17,.none,.str "a sequence that breaks off"]) (("octets",.val (.bytes ks)) :: ("at",.val (.int i)) :: ("lead",.val l) :: ("many",.val (.int m)) :: ("low",.val (.int lo)) :: ("high",.val (.int hi)) :: ("code",.val (.int c)) :: (thaw (setL "octet" (AV.val v8) ex))))))) P) : Out (exs 33 (wt (geOf tab k)) R28.sc R28.mu (blk R28.body [5]) (("octets",.val (.bytes ks)) :: ("at",.val (.int i)) :: ("lead",.val l) :: ("many",.val (.int m)) :: ("low",.val (.int lo)) :: ("high",.val (.int hi)) :: ("code",.val (.int c)) :: ex)) P:=body_sh (by kernel_rfl) h
theorem sha_utf8_piece {k : Nat} {ks : List Int} {i m lo hi c : Int} {l : V} {ex : Gam} {v : Option (V)} (h : (let G:=geOf tab k; some (.tup [.int m,.int c,.str ("" : Str)])) = v) : exsK 34 (wt (geOf tab k)) R28.sc R28.mu (("octets",.val (.bytes ks)) :: ("at",.val (.int i)) :: ("lead",.val l) :: ("many",.val (.int m)) :: ("low",.val (.int lo)) :: ("high",.val (.int hi)) :: ("code",.val (.int c)) :: ex) ((blk R28.body []).drop 6) retF = v:=Eq.trans (by kernel_rfl) h
theorem sh_decode_utf8 {k : Nat} {ks : List Int} {v : V} (h : (let G:=geOf tab k; (whileX 37 (wt G) R29.sc R29.mu (testOf (sAt (blk R29.body []) 1)) (blk R29.body [1]) 65536 [("octets",.val (.bytes ks)),("found",.own []),("at",.val (.int 0))]).bind fun fl1 =>flC fl1 (fun g2 =>exsK 38 (wt G) R29.sc R29.mu g2 ((blk R29.body []).drop 2) retF) (fun g2 =>retF (.brk g2)) (fun w g2 =>retF (.ret w g2))) = some v) : (geOf tab (k + 1)).fn "decode_utf8" [.bytes ks] [] = some v:=fn_sh (r:=R29) (by kernel_rfl) (by kernel_rfl) h
theorem sht_decode_utf8 {k : Nat} {ks : List Int} {fs : List V} {i : Int} {ex : Gam} {v : Bool} (h : (let G:=geOf tab k; (bltV "len" [.bytes ks]).bind fun v1 =>(cmpV .Lt (.int i) v1).bind fun b2 =>some b2) = some v) : evT 37 (wt (geOf tab k)) R29.sc (("octets",.val (.bytes ks)) :: ("found",.own fs) :: ("at",.val (.int i)) :: ex) (testOf (sAt (blk R29.body []) 1)) = some v:=test_sh (by kernel_rfl) h
theorem shb_decode_utf8 {k : Nat} {ks : List Int} {fs : List V} {i : Int} {ex : Gam} {P : Fl → Prop} (h : Out (let G:=geOf tab k; (orO (G.fn "utf8_piece" [.bytes ks,.int i] []) (bltV "utf8_piece" [.bytes ks,.int i])).bind fun v1 =>un3 v1 fun v2 v3 v4 =>(valOf (List.lookup ("code" : Str) (setL "wrong" (AV.val v4) (setL "code" (AV.val v3) (setL "many" (AV.val v2) ex))))).bind fun v5 =>cond (isNoneV v5) (Option.none) ((valOf (List.lookup ("code" : Str) (setL "wrong" (AV.val v4) (setL "code" (AV.val v3) (setL "many" (AV.val v2) ex))))).bind fun v6 =>if fs.length < lid then (valOf (List.lookup ("many" : Str) (setL "wrong" (AV.val v4) (setL "code" (AV.val v3) (setL "many" (AV.val v2) ex))))).bind fun v7 =>(binV .Add (.int i) v7).bind fun v8 =>some (.next (("octets",.val (.bytes ks)) :: ("found",.own (fs ++ [v6])) :: ("at",.val v8) :: (setL "wrong" (AV.val v4) (setL "code" (AV.val v3) (setL "many" (AV.val v2) ex))))) else Option.none)) P) : Out (exs 37 (wt (geOf tab k)) R29.sc R29.mu (blk R29.body [1]) (("octets",.val (.bytes ks)) :: ("found",.own fs) :: ("at",.val (.int i)) :: ex)) P:=body_sh (by kernel_rfl) h
theorem sha_decode_utf8 {k : Nat} {ks : List Int} {fs : List V} {i : Int} {ex : Gam} {v : Option (V)} (h : (let G:=geOf tab k; some (.list fs)) = v) : exsK 38 (wt (geOf tab k)) R29.sc R29.mu (("octets",.val (.bytes ks)) :: ("found",.own fs) :: ("at",.val (.int i)) :: ex) ((blk R29.body []).drop 2) retF = v:=Eq.trans (by kernel_rfl) h
theorem sh_decode_utf8_replaced {k : Nat} {ks : List Int} {v : V} (h : (let G:=geOf tab k; (whileX 37 (wt G) R30.sc R30.mu (testOf (sAt (blk R30.body []) 1)) (blk R30.body [1]) 65536 [("octets",.val (.bytes ks)),("found",.own []),("at",.val (.int 0))]).bind fun fl1 =>flC fl1 (fun g2 =>exsK 38 (wt G) R30.sc R30.mu g2 ((blk R30.body []).drop 2) retF) (fun g2 =>retF (.brk g2)) (fun w g2 =>retF (.ret w g2))) = some v) : (geOf tab (k + 1)).fn "decode_utf8_replaced" [.bytes ks] [] = some v:=fn_sh (r:=R30) (by kernel_rfl) (by kernel_rfl) h
theorem sht_decode_utf8_replaced {k : Nat} {ks : List Int} {fs : List V} {i : Int} {ex : Gam} {v : Bool} (h : (let G:=geOf tab k; (bltV "len" [.bytes ks]).bind fun v1 =>(cmpV .Lt (.int i) v1).bind fun b2 =>some b2) = some v) : evT 37 (wt (geOf tab k)) R30.sc (("octets",.val (.bytes ks)) :: ("found",.own fs) :: ("at",.val (.int i)) :: ex) (testOf (sAt (blk R30.body []) 1)) = some v:=test_sh (by kernel_rfl) h
theorem shb_decode_utf8_replaced {k : Nat} {ks : List Int} {fs : List V} {i : Int} {ex : Gam} {P : Fl → Prop} (h : Out (let G:=geOf tab k; (orO (G.fn "utf8_piece" [.bytes ks,.int i] []) (bltV "utf8_piece" [.bytes ks,.int i])).bind fun v1 =>un3 v1 fun v2 v3 v4 =>(valOf (List.lookup ("code" : Str) (setL "wrong" (AV.val v4) (setL "code" (AV.val v3) (setL "many" (AV.val v2) ex))))).bind fun v5 =>cond (isNoneV v5) (if fs.length < lid then (valOf (List.lookup ("many" : Str) (setL "wrong" (AV.val v4) (setL "code" (AV.val v3) (setL "many" (AV.val v2) ex))))).bind fun v6 =>(binV .Add (.int i) v6).bind fun v7 =>some (.next (("octets",.val (.bytes ks)) :: ("found",.own (fs ++ [.int 65533])) :: ("at",.val v7) :: (setL "wrong" (AV.val v4) (setL "code" (AV.val v3) (setL "many" (AV.val v2) ex))))) else Option.none) ((valOf (List.lookup ("code" : Str) (setL "wrong" (AV.val v4) (setL "code" (AV.val v3) (setL "many" (AV.val v2) ex))))).bind fun v8 =>if fs.length < lid then (valOf (List.lookup ("many" : Str) (setL "wrong" (AV.val v4) (setL "code" (AV.val v3) (setL "many" (AV.val v2) ex))))).bind fun v9 =>(binV .Add (.int i) v9).bind fun v10 =>some (.next (("octets",.val (.bytes ks)) :: ("found",.own (fs ++ [v8])) :: ("at",.val v10) :: (setL "wrong" (AV.val v4) (setL "code" (AV.val v3) (setL "many" (AV.val v2) ex))))) else Option.none)) P) : Out (exs 37 (wt (geOf tab k)) R30.sc R30.mu (blk R30.body [1]) (("octets",.val (.bytes ks)) :: ("found",.own fs) :: ("at",.val (.int i)) :: ex)) P:=body_sh (by kernel_rfl) h
theorem sha_decode_utf8_replaced {k : Nat} {ks : List Int} {fs : List V} {i : Int} {ex : Gam} {v : Option (V)} (h : (let G:=geOf tab k; some (.list fs)) = v) : exsK 38 (wt (geOf tab k)) R30.sc R30.mu (("octets",.val (.bytes ks)) :: ("found",.own fs) :: ("at",.val (.int i)) :: ex) ((blk R30.body []).drop 2) retF = v:=Eq.trans (by kernel_rfl) h
theorem sh_Utf8Stream_init {k : Nat}  {v : List (Str × V)} (h : (let G:=geOf tab k; some [(("is_strict" : Str),.bool false),(("waiting" : Str),.bytes []),(("place" : Str),.int 0)]) = some v) : (geOf tab (k + 1)).cls "Utf8Stream" [] = some v:=cls_sh (r:=R31_0) (by kernel_rfl) (by kernel_rfl) h
theorem sh_Utf8Stream_feed {k : Nat} {w p : List Int} {n : Int} {st last : Bool} {v : V × List (Str × V)} (h : (let G:=geOf tab k; (binV .Add (.bytes w) (.bytes p)).bind fun v1 =>(whileX 37 (wt G) R31_1.sc R31_1.mu (testOf (sAt (blk R31_1.body []) 1)) (blk R31_1.body [1]) 65536 [("self",.inst "Utf8Stream" [("is_strict",.bool st),("waiting",.bytes w),("place",.int n)]),("octets",.val (.bytes p)),("is_last",.val (.bool last)),("whole",.val v1),("found",.own []),("at",.val (.int 0))]).bind fun fl2 =>flC fl2 (fun g3 =>exsK 38 (wt G) R31_1.sc R31_1.mu g3 ((blk R31_1.body []).drop 2) retMf) (fun g3 =>retMf (.brk g3)) (fun w g3 =>retMf (.ret w g3))) = some v) : (geOf tab (k + 1)).mth "Utf8Stream" "feed" [("is_strict",.bool st),("waiting",.bytes w),("place",.int n)] [.bytes p,.bool last] = some v:=mth_sh (r:=R31_1) (by kernel_rfl) (by kernel_rfl) h
theorem sht_feed8 {k : Nat} {w p ks : List Int} {n i : Int} {st last : Bool} {fs : List V} {ex : Gam} {v : Bool} (h : (let G:=geOf tab k; (bltV "len" [.bytes ks]).bind fun v1 =>(cmpV .Lt (.int i) v1).bind fun b2 =>some b2) = some v) : evT 37 (wt (geOf tab k)) R31_1.sc (("self",.inst "Utf8Stream" [("is_strict",.bool st),("waiting",.bytes w),("place",.int n)]) :: ("octets",.val (.bytes p)) :: ("is_last",.val (.bool last)) :: ("whole",.val (.bytes ks)) :: ("found",.own fs) :: ("at",.val (.int i)) :: ex) (testOf (sAt (blk R31_1.body []) 1)) = some v:=test_sh (by kernel_rfl) h
theorem shb_feed8 {k : Nat} {w p ks : List Int} {n i : Int} {st last : Bool} {fs : List V} {ex : Gam} {P : Fl → Prop} (h : Out (let G:=geOf tab k; (orO (G.fn "utf8_piece" [.bytes ks,.int i] []) (bltV "utf8_piece" [.bytes ks,.int i])).bind fun v1 =>un3 v1 fun v2 v3 v4 =>(valOf (List.lookup ("wrong" : Str) (setL "wrong" (AV.val v4) (setL "code" (AV.val v3) (setL "many" (AV.val v2) ex))))).bind fun v5 =>(cmpV .Eq v5 (.str "a sequence that is cut short")).bind fun b6 =>cond b6 (cond (!last) (some (.brk (("self",.inst "Utf8Stream" [("is_strict",.bool st),("waiting",.bytes w),("place",.int n)]) :: ("octets",.val (.bytes p)) :: ("is_last",.val (.bool last)) :: ("whole",.val (.bytes ks)) :: ("found",.own fs) :: ("at",.val (.int i)) :: (setL "wrong" (AV.val v4) (setL "code" (AV.val v3) (setL "many" (AV.val v2) ex)))))) ((valOf (List.lookup ("code" : Str) (setL "wrong" (AV.val v4) (setL "code" (AV.val v3) (setL "many" (AV.val v2) ex))))).bind fun v7 =>cond (isNoneV v7) (cond st (Option.none) ((valOf (List.lookup ("code" : Str) (setL "wrong" (AV.val v4) (setL "code" (AV.val v3) (setL "many" (AV.val v2) ex))))).bind fun v8 =>cond (isNoneV v8) (if fs.length < lid then (valOf (List.lookup ("many" : Str) (setL "wrong" (AV.val v4) (setL "code" (AV.val v3) (setL "many" (AV.val v2) ex))))).bind fun v9 =>(binV .Add (.int i) v9).bind fun v10 =>some (.next (("self",.inst "Utf8Stream" [("is_strict",.bool st),("waiting",.bytes w),("place",.int n)]) :: ("octets",.val (.bytes p)) :: ("is_last",.val (.bool last)) :: ("whole",.val (.bytes ks)) :: ("found",.own (fs ++ [.int 65533])) :: ("at",.val v10) :: (setL "wrong" (AV.val v4) (setL "code" (AV.val v3) (setL "many" (AV.val v2) ex))))) else Option.none) ((valOf (List.lookup ("code" : Str) (setL "wrong" (AV.val v4) (setL "code" (AV.val v3) (setL "many" (AV.val v2) ex))))).bind fun v11 =>if fs.length < lid then (valOf (List.lookup ("many" : Str) (setL "wrong" (AV.val v4) (setL "code" (AV.val v3) (setL "many" (AV.val v2) ex))))).bind fun v12 =>(binV .Add (.int i) v12).bind fun v13 =>some (.next (("self",.inst "Utf8Stream" [("is_strict",.bool st),("waiting",.bytes w),("place",.int n)]) :: ("octets",.val (.bytes p)) :: ("is_last",.val (.bool last)) :: ("whole",.val (.bytes ks)) :: ("found",.own (fs ++ [v11])) :: ("at",.val v13) :: (setL "wrong" (AV.val v4) (setL "code" (AV.val v3) (setL "many" (AV.val v2) ex))))) else Option.none))) ((valOf (List.lookup ("code" : Str) (setL "wrong" (AV.val v4) (setL "code" (AV.val v3) (setL "many" (AV.val v2) ex))))).bind fun v14 =>cond (isNoneV v14) (if fs.length < lid then (valOf (List.lookup ("many" : Str) (setL "wrong" (AV.val v4) (setL "code" (AV.val v3) (setL "many" (AV.val v2) ex))))).bind fun v15 =>(binV .Add (.int i) v15).bind fun v16 =>some (.next (("self",.inst "Utf8Stream" [("is_strict",.bool st),("waiting",.bytes w),("place",.int n)]) :: ("octets",.val (.bytes p)) :: ("is_last",.val (.bool last)) :: ("whole",.val (.bytes ks)) :: ("found",.own (fs ++ [.int 65533])) :: ("at",.val v16) :: (setL "wrong" (AV.val v4) (setL "code" (AV.val v3) (setL "many" (AV.val v2) ex))))) else Option.none) ((valOf (List.lookup ("code" : Str) (setL "wrong" (AV.val v4) (setL "code" (AV.val v3) (setL "many" (AV.val v2) ex))))).bind fun v17 =>if fs.length < lid then (valOf (List.lookup ("many" : Str) (setL "wrong" (AV.val v4) (setL "code" (AV.val v3) (setL "many" (AV.val v2) ex))))).bind fun v18 =>(binV .Add (.int i) v18).bind fun v19 =>some (.next (("self",.inst "Utf8Stream" [("is_strict",.bool st),("waiting",.bytes w),("place",.int n)]) :: ("octets",.val (.bytes p)) :: ("is_last",.val (.bool last)) :: ("whole",.val (.bytes ks)) :: ("found",.own (fs ++ [v17])) :: ("at",.val v19) :: (setL "wrong" (AV.val v4) (setL "code" (AV.val v3) (setL "many" (AV.val v2) ex))))) else Option.none)))) ((valOf (List.lookup ("code" : Str) (setL "wrong" (AV.val v4) (setL "code" (AV.val v3) (setL "many" (AV.val v2) ex))))).bind fun v20 =>cond (isNoneV v20) (cond st (Option.none) ((valOf (List.lookup ("code" : Str) (setL "wrong" (AV.val v4) (setL "code" (AV.val v3) (setL "many" (AV.val v2) ex))))).bind fun v21 =>cond (isNoneV v21) (if fs.length < lid then (valOf (List.lookup ("many" : Str) (setL "wrong" (AV.val v4) (setL "code" (AV.val v3) (setL "many" (AV.val v2) ex))))).bind fun v22 =>(binV .Add (.int i) v22).bind fun v23 =>some (.next (("self",.inst "Utf8Stream" [("is_strict",.bool st),("waiting",.bytes w),("place",.int n)]) :: ("octets",.val (.bytes p)) :: ("is_last",.val (.bool last)) :: ("whole",.val (.bytes ks)) :: ("found",.own (fs ++ [.int 65533])) :: ("at",.val v23) :: (setL "wrong" (AV.val v4) (setL "code" (AV.val v3) (setL "many" (AV.val v2) ex))))) else Option.none) ((valOf (List.lookup ("code" : Str) (setL "wrong" (AV.val v4) (setL "code" (AV.val v3) (setL "many" (AV.val v2) ex))))).bind fun v24 =>if fs.length < lid then (valOf (List.lookup ("many" : Str) (setL "wrong" (AV.val v4) (setL "code" (AV.val v3) (setL "many" (AV.val v2) ex))))).bind fun v25 =>(binV .Add (.int i) v25).bind fun v26 =>some (.next (("self",.inst "Utf8Stream" [("is_strict",.bool st),("waiting",.bytes w),("place",.int n)]) :: ("octets",.val (.bytes p)) :: ("is_last",.val (.bool last)) :: ("whole",.val (.bytes ks)) :: ("found",.own (fs ++ [v24])) :: ("at",.val v26) :: (setL "wrong" (AV.val v4) (setL "code" (AV.val v3) (setL "many" (AV.val v2) ex))))) else Option.none))) ((valOf (List.lookup ("code" : Str) (setL "wrong" (AV.val v4) (setL "code" (AV.val v3) (setL "many" (AV.val v2) ex))))).bind fun v27 =>cond (isNoneV v27) (if fs.length < lid then (valOf (List.lookup ("many" : Str) (setL "wrong" (AV.val v4) (setL "code" (AV.val v3) (setL "many" (AV.val v2) ex))))).bind fun v28 =>(binV .Add (.int i) v28).bind fun v29 =>some (.next (("self",.inst "Utf8Stream" [("is_strict",.bool st),("waiting",.bytes w),("place",.int n)]) :: ("octets",.val (.bytes p)) :: ("is_last",.val (.bool last)) :: ("whole",.val (.bytes ks)) :: ("found",.own (fs ++ [.int 65533])) :: ("at",.val v29) :: (setL "wrong" (AV.val v4) (setL "code" (AV.val v3) (setL "many" (AV.val v2) ex))))) else Option.none) ((valOf (List.lookup ("code" : Str) (setL "wrong" (AV.val v4) (setL "code" (AV.val v3) (setL "many" (AV.val v2) ex))))).bind fun v30 =>if fs.length < lid then (valOf (List.lookup ("many" : Str) (setL "wrong" (AV.val v4) (setL "code" (AV.val v3) (setL "many" (AV.val v2) ex))))).bind fun v31 =>(binV .Add (.int i) v31).bind fun v32 =>some (.next (("self",.inst "Utf8Stream" [("is_strict",.bool st),("waiting",.bytes w),("place",.int n)]) :: ("octets",.val (.bytes p)) :: ("is_last",.val (.bool last)) :: ("whole",.val (.bytes ks)) :: ("found",.own (fs ++ [v30])) :: ("at",.val v32) :: (setL "wrong" (AV.val v4) (setL "code" (AV.val v3) (setL "many" (AV.val v2) ex))))) else Option.none)))) P) : Out (exs 37 (wt (geOf tab k)) R31_1.sc R31_1.mu (blk R31_1.body [1]) (("self",.inst "Utf8Stream" [("is_strict",.bool st),("waiting",.bytes w),("place",.int n)]) :: ("octets",.val (.bytes p)) :: ("is_last",.val (.bool last)) :: ("whole",.val (.bytes ks)) :: ("found",.own fs) :: ("at",.val (.int i)) :: ex)) P:=body_sh (by kernel_rfl) h
theorem sha_feed8 {k : Nat} {w p ks : List Int} {n i : Int} {st last : Bool} {fs : List V} {ex : Gam} {v : Option (V × List (Str × V))} (h : (let G:=geOf tab k; cond last (cond last (some ((V.list fs),[(("is_strict" : Str),.bool st),(("waiting" : Str),.bytes []),(("place" : Str),.int 0)])) (some ((V.list fs),[(("is_strict" : Str),.bool st),(("waiting" : Str),.bytes []),(("place" : Str),.int (n + i))]))) ((partV (some (.int i))).bind fun p1 =>(sliceV (.bytes ks) p1 Option.none).bind fun v2 =>cond last (some ((V.list fs),[(("is_strict" : Str),.bool st),(("waiting" : Str),v2),(("place" : Str),.int 0)])) (some ((V.list fs),[(("is_strict" : Str),.bool st),(("waiting" : Str),v2),(("place" : Str),.int (n + i))])))) = v) : exsK 38 (wt (geOf tab k)) R31_1.sc R31_1.mu ((("self" : Str),AV.inst ("Utf8Stream" : Str) [(("is_strict" : Str),.bool st),(("waiting" : Str),.bytes w),(("place" : Str),.int n)]) :: (("octets" : Str),AV.val (.bytes p)) :: (("is_last" : Str),AV.val (.bool last)) :: (("whole" : Str),AV.val (.bytes ks)) :: (("found" : Str),AV.own fs) :: (("at" : Str),AV.val (.int i)) :: ex) ((blk R31_1.body []).drop 2) retMf = v:=Eq.trans (by kernel_rfl) h
theorem sh_utf16_units {k : Nat} {xs : List V} {v : V} (h : (let G:=geOf tab k; (orO (G.fn "check_scalars" [.list xs] []) (bltV "check_scalars" [.list xs])).bind fun v1 =>if isNoneV v1 = true then (itemsV (.list xs)).bind fun xs2 =>(forX 36 (wt G) R36.sc R36.mu (testOf (sAt (blk R36.body []) 2)) (blk R36.body [2]) xs2 [("text",.val (.list xs)),("found",.own [])]).bind fun fl3 =>flC fl3 (fun g4 =>exsK 37 (wt G) R36.sc R36.mu g4 ((blk R36.body []).drop 3) retF) (fun g4 =>retF (.brk g4)) (fun w g4 =>retF (.ret w g4)) else Option.none) = some v) : (geOf tab (k + 1)).fn "utf16_units" [.list xs] [] = some v:=fn_sh (r:=R36) (by kernel_rfl) (by kernel_rfl) h
theorem shb_utf16_units {k : Nat} {xs fs : List V} {ex : Gam} {P : Fl → Prop} (h : Out (let G:=geOf tab k; (valOf (List.lookup ("code" : Str) ex)).bind fun v1 =>(cmpV .Lt v1 (.int 65536)).bind fun b2 =>cond b2 ((valOf (List.lookup ("code" : Str) ex)).bind fun v3 =>if fs.length < lid then some (.next (("text",.val (.list xs)) :: ("found",.own (fs ++ [v3])) :: ex)) else Option.none) ((valOf (List.lookup ("code" : Str) ex)).bind fun v4 =>(binV .Sub v4 (.int 65536)).bind fun v5 =>(valOf (List.lookup ("above" : Str) (setL "above" (AV.val v5) ex))).bind fun v6 =>(binV .RShift v6 (.int 10)).bind fun v7 =>(binV .Add (.int 55296) v7).bind fun v8 =>if fs.length < lid then (valOf (List.lookup ("above" : Str) (setL "above" (AV.val v5) ex))).bind fun v9 =>(binV .BitAnd v9 (.int 1023)).bind fun v10 =>(binV .Add (.int 56320) v10).bind fun v11 =>if (fs ++ [v8]).length < lid then some (.next (("text",.val (.list xs)) :: ("found",.own ((fs ++ [v8]) ++ [v11])) :: (setL "above" (AV.val v5) ex))) else Option.none else Option.none)) P) : Out (exs 36 (wt (geOf tab k)) R36.sc R36.mu (blk R36.body [2]) (("text",.val (.list xs)) :: ("found",.own fs) :: ex)) P:=body_sh (by kernel_rfl) h
theorem sha_utf16_units {k : Nat} {xs fs : List V} {ex : Gam} {v : Option (V)} (h : (let G:=geOf tab k; some (.list fs)) = v) : exsK 37 (wt (geOf tab k)) R36.sc R36.mu (("text",.val (.list xs)) :: ("found",.own fs) :: ex) ((blk R36.body []).drop 3) retF = v:=Eq.trans (by kernel_rfl) h
theorem sh_utf16_joined {k : Nat} {x y : Int} {v : V} (h : (let G:=geOf tab k; (binV .LShift (.int (x - 55296)) (.int 10)).bind fun v1 =>(binV .Add (.int 65536) v1).bind fun v2 =>(binV .Add v2 (.int (y - 56320))).bind fun v3 =>some v3) = some v) : (geOf tab (k + 1)).fn "utf16_joined" [.int x,.int y] [] = some v:=fn_sh (r:=R37) (by kernel_rfl) (by kernel_rfl) h
theorem sh_utf16_octets {k : Nat} {x : Int} {o : Str} {v : V} (h : (let G:=geOf tab k; cond (o == ("be" : Str)) ((binV .RShift (.int x) (.int 8)).bind fun v1 =>some (.list [v1,.int (Builtin.bitAnd x 255)])) ((binV .RShift (.int x) (.int 8)).bind fun v2 =>some (.list [.int (Builtin.bitAnd x 255),v2]))) = some v) : (geOf tab (k + 1)).fn "utf16_octets" [.int x,.str o] [] = some v:=fn_sh (r:=R38) (by kernel_rfl) (by kernel_rfl) h
theorem sh_utf16_unit {k : Nat} {ks : List Int} {i : Int} {o : Str} {v : V} (h : (let G:=geOf tab k; cond (o == ("be" : Str)) ((itemV (.bytes ks) (.int i)).bind fun v1 =>(binV .LShift v1 (.int 8)).bind fun v2 =>(itemV (.bytes ks) (.int (i + 1))).bind fun v3 =>(binV .BitOr v2 v3).bind fun v4 =>some v4) ((itemV (.bytes ks) (.int (i + 1))).bind fun v5 =>(binV .LShift v5 (.int 8)).bind fun v6 =>(itemV (.bytes ks) (.int i)).bind fun v7 =>(binV .BitOr v6 v7).bind fun v8 =>some v8)) = some v) : (geOf tab (k + 1)).fn "utf16_unit" [.bytes ks,.int i,.str o] [] = some v:=fn_sh (r:=R39) (by kernel_rfl) (by kernel_rfl) h
theorem sh_encode_utf16_false {k : Nat} {xs : List V} {o : Str} {v : V} (h : (let G:=geOf tab k; (orO (G.fn "utf16_units" [.list xs] []) (bltV "utf16_units" [.list xs])).bind fun v1 =>(binV .Add (.list []) v1).bind fun v2 =>(itemsV v2).bind fun xs3 =>(forX 37 (wt G) R40.sc R40.mu (testOf (sAt (blk R40.body []) 1)) (blk R40.body [1]) xs3 [("text",.val (.list xs)),("order",.val (.str o)),("with_mark",.val (.bool false)),("found",.own [])]).bind fun fl4 =>flC fl4 (fun g5 =>exsK 38 (wt G) R40.sc R40.mu g5 ((blk R40.body []).drop 2) retF) (fun g5 =>retF (.brk g5)) (fun w g5 =>retF (.ret w g5))) = some v) : (geOf tab (k + 1)).fn "encode_utf16" [.list xs,.str o] []  = some v:=fn_sh (r:=R40) (by kernel_rfl) (by kernel_rfl) h
theorem sh_encode_utf32_false {k : Nat} {xs : List V} {o : Str} {v : V} (h : (let G:=geOf tab k; (orO (G.fn "check_scalars" [.list xs] []) (bltV "check_scalars" [.list xs])).bind fun v1 =>if isNoneV v1 = true then (bltV "list" [.list xs]).bind fun v2 =>(binV .Add (.list []) v2).bind fun v3 =>(itemsV v3).bind fun xs4 =>(forX 36 (wt G) R45.sc R45.mu (testOf (sAt (blk R45.body []) 2)) (blk R45.body [2]) xs4 [("text",.val (.list xs)),("order",.val (.str o)),("with_mark",.val (.bool false)),("found",.own [])]).bind fun fl5 =>flC fl5 (fun g6 =>exsK 37 (wt G) R45.sc R45.mu g6 ((blk R45.body []).drop 3) retF) (fun g6 =>retF (.brk g6)) (fun w g6 =>retF (.ret w g6)) else Option.none) = some v) : (geOf tab (k + 1)).fn "encode_utf32" [.list xs,.str o] []  = some v:=fn_sh (r:=R45) (by kernel_rfl) (by kernel_rfl) h
theorem sh_encode_utf16_true {k : Nat} {xs : List V} {o : Str} {v : V} (h : (let G:=geOf tab k; (orO (G.fn "utf16_units" [.list xs] []) (bltV "utf16_units" [.list xs])).bind fun v1 =>(binV .Add (.list [.int 65279]) v1).bind fun v2 =>(itemsV v2).bind fun xs3 =>(forX 37 (wt G) R40.sc R40.mu (testOf (sAt (blk R40.body []) 1)) (blk R40.body [1]) xs3 [("text",.val (.list xs)),("order",.val (.str o)),("with_mark",.val (.bool true)),("found",.own [])]).bind fun fl4 =>flC fl4 (fun g5 =>exsK 38 (wt G) R40.sc R40.mu g5 ((blk R40.body []).drop 2) retF) (fun g5 =>retF (.brk g5)) (fun w g5 =>retF (.ret w g5))) = some v) : (geOf tab (k + 1)).fn "encode_utf16" [.list xs,.str o] [("with_mark",.bool true)] = some v:=fn_sh (r:=R40) (by kernel_rfl) (by kernel_rfl) h
theorem sh_encode_utf32_true {k : Nat} {xs : List V} {o : Str} {v : V} (h : (let G:=geOf tab k; (orO (G.fn "check_scalars" [.list xs] []) (bltV "check_scalars" [.list xs])).bind fun v1 =>if isNoneV v1 = true then (bltV "list" [.list xs]).bind fun v2 =>(binV .Add (.list [.int 65279]) v2).bind fun v3 =>(itemsV v3).bind fun xs4 =>(forX 36 (wt G) R45.sc R45.mu (testOf (sAt (blk R45.body []) 2)) (blk R45.body [2]) xs4 [("text",.val (.list xs)),("order",.val (.str o)),("with_mark",.val (.bool true)),("found",.own [])]).bind fun fl5 =>flC fl5 (fun g6 =>exsK 37 (wt G) R45.sc R45.mu g6 ((blk R45.body []).drop 3) retF) (fun g6 =>retF (.brk g6)) (fun w g6 =>retF (.ret w g6)) else Option.none) = some v) : (geOf tab (k + 1)).fn "encode_utf32" [.list xs,.str o] [("with_mark",.bool true)] = some v:=fn_sh (r:=R45) (by kernel_rfl) (by kernel_rfl) h
theorem shb_encode_utf16 {k : Nat} {xs fs : List V} {o : Str} {wm : Bool} {ex : Gam} {P : Fl → Prop} (h : Out (let G:=geOf tab k; (valOf (List.lookup ("unit" : Str) ex)).bind fun v1 =>(orO (G.fn "utf16_octets" [v1,.str o] []) (bltV "utf16_octets" [v1,.str o])).bind fun v2 =>extC v2 fun ys242 =>if fs.length + ys242.length ≤ lid then some (.next (("text",.val (.list xs)) :: ("order",.val (.str o)) :: ("with_mark",.val (.bool wm)) :: ("found",.own (fs ++ ys242)) :: ex)) else Option.none) P) : Out (exs 37 (wt (geOf tab k)) R40.sc R40.mu (blk R40.body [1]) (("text",.val (.list xs)) :: ("order",.val (.str o)) :: ("with_mark",.val (.bool wm)) :: ("found",.own fs) :: ex)) P:=body_sh (by kernel_rfl) h
theorem sha_encode_utf16 {k : Nat} {xs fs : List V} {o : Str} {wm : Bool} {ex : Gam} {v : Option (V)} (h : (let G:=geOf tab k; (bltV "bytes" [.list fs]).bind fun v1 =>some v1) = v) : exsK 38 (wt (geOf tab k)) R40.sc R40.mu (("text",.val (.list xs)) :: ("order",.val (.str o)) :: ("with_mark",.val (.bool wm)) :: ("found",.own fs) :: ex) ((blk R40.body []).drop 2) retF = v:=Eq.trans (by kernel_rfl) h
theorem shb_encode_utf32 {k : Nat} {xs fs : List V} {o : Str} {wm : Bool} {ex : Gam} {P : Fl → Prop} (h : Out (let G:=geOf tab k; (valOf (List.lookup ("code" : Str) ex)).bind fun v1 =>(binV .RShift v1 (.int 16)).bind fun v2 =>(valOf (List.lookup ("code" : Str) ex)).bind fun v3 =>(binV .RShift v3 (.int 8)).bind fun v4 =>(binV .BitAnd v4 (.int 255)).bind fun v5 =>(valOf (List.lookup ("code" : Str) ex)).bind fun v6 =>(binV .BitAnd v6 (.int 255)).bind fun v7 =>cond (o == ("be" : Str)) ((valOf (List.lookup ("row" : Str) (setL "row" (AV.val (.list [.int 0,v2,v5,v7])) ex))).bind fun v8 =>extC v8 fun ys252 =>if fs.length + ys252.length ≤ lid then some (.next (("text",.val (.list xs)) :: ("order",.val (.str o)) :: ("with_mark",.val (.bool wm)) :: ("found",.own (fs ++ ys252)) :: (setL "row" (AV.val (.list [.int 0,v2,v5,v7])) ex))) else Option.none) (((valOf (List.lookup ("row" : Str) (setL "row" (AV.val (.list [.int 0,v2,v5,v7])) ex))).bind revV).bind fun v9 =>extC v9 fun ys254 =>if fs.length + ys254.length ≤ lid then some (.next (("text",.val (.list xs)) :: ("order",.val (.str o)) :: ("with_mark",.val (.bool wm)) :: ("found",.own (fs ++ ys254)) :: (setL "row" (AV.val (.list [.int 0,v2,v5,v7])) ex))) else Option.none)) P) : Out (exs 36 (wt (geOf tab k)) R45.sc R45.mu (blk R45.body [2]) (("text",.val (.list xs)) :: ("order",.val (.str o)) :: ("with_mark",.val (.bool wm)) :: ("found",.own fs) :: ex)) P:=body_sh (by kernel_rfl) h
theorem sha_encode_utf32 {k : Nat} {xs fs : List V} {o : Str} {wm : Bool} {ex : Gam} {v : Option (V)} (h : (let G:=geOf tab k; (bltV "bytes" [.list fs]).bind fun v1 =>some v1) = v) : exsK 37 (wt (geOf tab k)) R45.sc R45.mu (("text",.val (.list xs)) :: ("order",.val (.str o)) :: ("with_mark",.val (.bool wm)) :: ("found",.own fs) :: ex) ((blk R45.body []).drop 3) retF = v:=Eq.trans (by kernel_rfl) h
theorem sh_utf16_step {k : Nat} {ks : List Int} {i : Int} {o : Str} {v : V} (h : (let G:=geOf tab k; (bltV "len" [.bytes ks]).bind fun v1 =>(cmpV .Gt (.int (i + 2)) v1).bind fun b2 =>cond b2 ((bltV "len" [.bytes ks]).bind fun v3 =>some (.tup [.none,v3,.str "odd end"])) ((orO (G.fn "utf16_unit" [.bytes ks,.int i,.str o] []) (bltV "utf16_unit" [.bytes ks,.int i,.str o])).bind fun v4 =>(orO (G.fn "is_low" [v4] []) (bltV "is_low" [v4])).bind fun v5 =>(V.tru v5).bind fun b6 =>cond b6 (some (.tup [.none,.int (i + 2),.str "low"])) ((orO (G.fn "is_high" [v4] []) (bltV "is_high" [v4])).bind fun v7 =>(V.tru v7).bind fun b8 =>cond (!b8) (some (.tup [v4,.int (i + 2),.str ("" : Str)])) ((bltV "len" [.bytes ks]).bind fun v9 =>(cmpV .LtE (.int (i + 4)) v9).bind fun b10 =>cond b10 ((orO (G.fn "utf16_unit" [.bytes ks,.int (i + 2),.str o] []) (bltV "utf16_unit" [.bytes ks,.int (i + 2),.str o])).bind fun v11 =>(orO (G.fn "is_low" [v11] []) (bltV "is_low" [v11])).bind fun v12 =>(V.tru v12).bind fun b13 =>cond b13 ((orO (G.fn "utf16_joined" [v4,v11] []) (bltV "utf16_joined" [v4,v11])).bind fun v14 =>some (.tup [v14,.int (i + 4),.str ("" : Str)])) (some (.tup [.none,.int (i + 2),.str "high"]))) (some (.tup [.none,.int (i + 2),.str "high"])))))) = some v) : (geOf tab (k + 1)).fn "utf16_step" [.bytes ks,.int i,.str o] [] = some v:=fn_sh (r:=R41) (by kernel_rfl) (by kernel_rfl) h
theorem sh_utf16_start {k : Nat} {ks : List Int} {ov : V} {v : V} (h : (let G:=geOf tab k; cond (!isNoneV ov) (some (.tup [ov,.int 0])) ((partV (some (.int 2))).bind fun p1 =>(sliceV (.bytes ks) Option.none p1).bind fun v2 =>(cmpV .Eq v2 (.bytes [255,254])).bind fun b3 =>cond b3 (some (.tup [.str "le",.int 2])) ((partV (some (.int 2))).bind fun p4 =>(sliceV (.bytes ks) Option.none p4).bind fun v5 =>(cmpV .Eq v5 (.bytes [254,255])).bind fun b6 =>cond b6 (some (.tup [.str "be",.int 2])) (some (.tup [.str "be",.int 0]))))) = some v) : (geOf tab (k + 1)).fn "utf16_start" [.bytes ks,ov] [] = some v:=fn_sh (r:=R42) (by kernel_rfl) (by kernel_rfl) h
theorem sh_utf32_start {k : Nat} {ks : List Int} {ov : V} {v : V} (h : (let G:=geOf tab k; cond (!isNoneV ov) (some (.tup [ov,.int 0])) ((partV (some (.int 4))).bind fun p1 =>(sliceV (.bytes ks) Option.none p1).bind fun v2 =>(cmpV .Eq v2 (.bytes [255,254,0,0])).bind fun b3 =>cond b3 (some (.tup [.str "le",.int 4])) ((partV (some (.int 4))).bind fun p4 =>(sliceV (.bytes ks) Option.none p4).bind fun v5 =>(cmpV .Eq v5 (.bytes [0,0,254,255])).bind fun b6 =>cond b6 (some (.tup [.str "be",.int 4])) (some (.tup [.str "be",.int 0]))))) = some v) : (geOf tab (k + 1)).fn "utf32_start" [.bytes ks,ov] [] = some v:=fn_sh (r:=R47) (by kernel_rfl) (by kernel_rfl) h
theorem sh_decode_utf16_replaced {k : Nat} {ks : List Int} {ov : V} {v : V} (h : (let G:=geOf tab k; (orO (G.fn "utf16_start" [.bytes ks,ov] []) (bltV "utf16_start" [.bytes ks,ov])).bind fun v1 =>un2 v1 fun v2 v3 =>(whileX 36 (wt G) R43.sc R43.mu (testOf (sAt (blk R43.body []) 2)) (blk R43.body [2]) 65536 [("octets",.val (.bytes ks)),("order",.val v2),("at",.val v3),("found",.own [])]).bind fun fl4 =>flC fl4 (fun g5 =>exsK 37 (wt G) R43.sc R43.mu g5 ((blk R43.body []).drop 3) retF) (fun g5 =>retF (.brk g5)) (fun w g5 =>retF (.ret w g5))) = some v) : (geOf tab (k + 1)).fn "decode_utf16_replaced" [.bytes ks,ov] [] = some v:=fn_sh (r:=R43) (by kernel_rfl) (by kernel_rfl) h
theorem sh_decode_utf32 {k : Nat} {ks : List Int} {ov : V} {v : V} (h : (let G:=geOf tab k; (orO (G.fn "utf32_start" [.bytes ks,ov] []) (bltV "utf32_start" [.bytes ks,ov])).bind fun v1 =>un2 v1 fun v2 v3 =>(whileX 36 (wt G) R48.sc R48.mu (testOf (sAt (blk R48.body []) 2)) (blk R48.body [2]) 65536 [("octets",.val (.bytes ks)),("order",.val v2),("at",.val v3),("found",.own [])]).bind fun fl4 =>flC fl4 (fun g5 =>exsK 37 (wt G) R48.sc R48.mu g5 ((blk R48.body []).drop 3) retF) (fun g5 =>retF (.brk g5)) (fun w g5 =>retF (.ret w g5))) = some v) : (geOf tab (k + 1)).fn "decode_utf32" [.bytes ks,ov] [] = some v:=fn_sh (r:=R48) (by kernel_rfl) (by kernel_rfl) h
theorem sht_decode_utf16_replaced {k : Nat} {ks : List Int} {o : Str} {i : Int} {fs : List V} {ex : Gam} {v : Bool} (h : (let G:=geOf tab k; (bltV "len" [.bytes ks]).bind fun v1 =>(cmpV .Lt (.int i) v1).bind fun b2 =>some b2) = some v) : evT 36 (wt (geOf tab k)) R43.sc (("octets",.val (.bytes ks)) :: ("order",.val (.str o)) :: ("at",.val (.int i)) :: ("found",.own fs) :: ex) (testOf (sAt (blk R43.body []) 2)) = some v:=test_sh (by kernel_rfl) h
theorem shb_decode_utf16_replaced {k : Nat} {ks : List Int} {o : Str} {i : Int} {fs : List V} {ex : Gam} {P : Fl → Prop} (h : Out (let G:=geOf tab k; (orO (G.fn "utf16_step" [.bytes ks,.int i,.str o] []) (bltV "utf16_step" [.bytes ks,.int i,.str o])).bind fun v1 =>un3 v1 fun v2 v3 v4 =>(valOf (List.lookup ("code" : Str) (setL "what" (AV.val v4) (setL "code" (AV.val v2) ex)))).bind fun v5 =>cond (isNoneV v5) (if fs.length < lid then some (.next (("octets",.val (.bytes ks)) :: ("order",.val (.str o)) :: ("at",.val v3) :: ("found",.own (fs ++ [.int 65533])) :: (setL "what" (AV.val v4) (setL "code" (AV.val v2) ex)))) else Option.none) ((valOf (List.lookup ("code" : Str) (setL "what" (AV.val v4) (setL "code" (AV.val v2) ex)))).bind fun v6 =>if fs.length < lid then some (.next (("octets",.val (.bytes ks)) :: ("order",.val (.str o)) :: ("at",.val v3) :: ("found",.own (fs ++ [v6])) :: (setL "what" (AV.val v4) (setL "code" (AV.val v2) ex)))) else Option.none)) P) : Out (exs 36 (wt (geOf tab k)) R43.sc R43.mu (blk R43.body [2]) (("octets",.val (.bytes ks)) :: ("order",.val (.str o)) :: ("at",.val (.int i)) :: ("found",.own fs) :: ex)) P:=body_sh (by kernel_rfl) h
theorem sha_decode_utf16_replaced {k : Nat} {ks : List Int} {o : Str} {i : Int} {fs : List V} {ex : Gam} {v : Option (V)} (h : (let G:=geOf tab k; some (.list fs)) = v) : exsK 37 (wt (geOf tab k)) R43.sc R43.mu (("octets",.val (.bytes ks)) :: ("order",.val (.str o)) :: ("at",.val (.int i)) :: ("found",.own fs) :: ex) ((blk R43.body []).drop 3) retF = v:=Eq.trans (by kernel_rfl) h
theorem sht_decode_utf32 {k : Nat} {ks : List Int} {o : Str} {i : Int} {fs : List V} {ex : Gam} {v : Bool} (h : (let G:=geOf tab k; (bltV "len" [.bytes ks]).bind fun v1 =>(cmpV .Lt (.int i) v1).bind fun b2 =>some b2) = some v) : evT 36 (wt (geOf tab k)) R48.sc (("octets",.val (.bytes ks)) :: ("order",.val (.str o)) :: ("at",.val (.int i)) :: ("found",.own fs) :: ex) (testOf (sAt (blk R48.body []) 2)) = some v:=test_sh (by kernel_rfl) h
theorem shb_decode_utf32 {k : Nat} {ks : List Int} {o : Str} {i : Int} {fs : List V} {ex : Gam} {P : Fl → Prop} (h : Out (let G:=geOf tab k; (orO (G.fn "utf32_step" [.bytes ks,.int i,.str o] []) (bltV "utf32_step" [.bytes ks,.int i,.str o])).bind fun v1 =>un3 v1 fun v2 v3 v4 =>(valOf (List.lookup ("code" : Str) (setL "what" (AV.val v4) (setL "behind" (AV.val v3) (setL "code" (AV.val v2) ex))))).bind fun v5 =>cond (isNoneV v5) (Option.none) ((valOf (List.lookup ("code" : Str) (setL "what" (AV.val v4) (setL "behind" (AV.val v3) (setL "code" (AV.val v2) ex))))).bind fun v6 =>if fs.length < lid then (valOf (List.lookup ("behind" : Str) (setL "what" (AV.val v4) (setL "behind" (AV.val v3) (setL "code" (AV.val v2) ex))))).bind fun v7 =>some (.next (("octets",.val (.bytes ks)) :: ("order",.val (.str o)) :: ("at",.val v7) :: ("found",.own (fs ++ [v6])) :: (setL "what" (AV.val v4) (setL "behind" (AV.val v3) (setL "code" (AV.val v2) ex))))) else Option.none)) P) : Out (exs 36 (wt (geOf tab k)) R48.sc R48.mu (blk R48.body [2]) (("octets",.val (.bytes ks)) :: ("order",.val (.str o)) :: ("at",.val (.int i)) :: ("found",.own fs) :: ex)) P:=body_sh (by kernel_rfl) h
theorem sha_decode_utf32 {k : Nat} {ks : List Int} {o : Str} {i : Int} {fs : List V} {ex : Gam} {v : Option (V)} (h : (let G:=geOf tab k; some (.list fs)) = v) : exsK 37 (wt (geOf tab k)) R48.sc R48.mu (("octets",.val (.bytes ks)) :: ("order",.val (.str o)) :: ("at",.val (.int i)) :: ("found",.own fs) :: ex) ((blk R48.body []).drop 3) retF = v:=Eq.trans (by kernel_rfl) h
theorem sh_Utf16Stream_init {k : Nat} {ov : V} {st : Bool} {v : List (Str × V)} (h : (let G:=geOf tab k; some [(("order" : Str),ov),(("is_strict" : Str),.bool st),(("left" : Str),.bytes []),(("used" : Str),.int 0)]) = some v) : (geOf tab (k + 1)).cls "Utf16Stream" [ov,.bool st] = some v:=cls_sh (r:=R44_0) (by kernel_rfl) (by kernel_rfl) h
theorem sh_Utf16Stream_init0 {k : Nat}  {v : List (Str × V)} (h : (let G:=geOf tab k; some [(("order" : Str),.none),(("is_strict" : Str),.bool true),(("left" : Str),.bytes []),(("used" : Str),.int 0)]) = some v) : (geOf tab (k + 1)).cls "Utf16Stream" [] = some v:=cls_sh (r:=R44_0) (by kernel_rfl) (by kernel_rfl) h
theorem sh_Utf16Stream_is_lacking {k : Nat} {ks : List Int} {i : Int} {o : Str} {v : V} (h : (let G:=geOf tab k; (bltV "len" [.bytes ks]).bind fun v1 =>(binV .Sub v1 (.int i)).bind fun v2 =>(cmpV .Lt v2 (.int 2)).bind fun b3 =>cond b3 (some (.bool b3)) ((cmpV .Lt v2 (.int 4)).bind fun b4 =>cond b4 ((orO (G.fn "utf16_unit" [.bytes ks,.int i,.str o] []) (bltV "utf16_unit" [.bytes ks,.int i,.str o])).bind fun v5 =>(orO (G.fn "is_high" [v5] []) (bltV "is_high" [v5])).bind fun v6 =>some v6) (some (.bool b4)))) = some v) : (geOf tab (k + 1)).pm "Utf16Stream" "is_lacking" [.bytes ks,.int i,.str o] = some v:=pm_sh (r:=R44_1) (by kernel_rfl) (by kernel_rfl) h
theorem sh_Utf16Stream_feed {k : Nat} {ov : V} {w p : List Int} {n : Int} {st last : Bool} {v : V × List (Str × V)} (h : (let G:=geOf tab k; (binV .Add (.bytes w) (.bytes p)).bind fun v1 =>cond (isNoneV ov) ((bltV "len" [v1]).bind fun v2 =>(cmpV .GtE v2 (.int 2)).bind fun b3 =>cond b3 ((orO (G.fn "utf16_start" [v1,.none] []) (bltV "utf16_start" [v1,.none])).bind fun v4 =>un2 v4 fun v5 v6 =>(whileX 36 (wt G) R44_2.sc R44_2.mu (testOf (sAt (blk R44_2.body []) 2)) (blk R44_2.body [2]) 65536 [("self",.inst "Utf16Stream" [("order",ov),("is_strict",.bool st),("left",.bytes w),("used",.int n)]),("octets",.val (.bytes p)),("is_last",.val (.bool last)),("ahead",.val v1),("found",.own []),("at",.val v6),("order",.val v5)]).bind fun fl7 =>flC fl7 (fun g8 =>exsK 37 (wt G) R44_2.sc R44_2.mu g8 ((blk R44_2.body []).drop 3) retMf) (fun g8 =>retMf (.brk g8)) (fun w g8 =>retMf (.ret w g8))) (cond last ((orO (G.fn "utf16_start" [v1,.none] []) (bltV "utf16_start" [v1,.none])).bind fun v9 =>un2 v9 fun v10 v11 =>(whileX 36 (wt G) R44_2.sc R44_2.mu (testOf (sAt (blk R44_2.body []) 2)) (blk R44_2.body [2]) 65536 [("self",.inst "Utf16Stream" [("order",ov),("is_strict",.bool st),("left",.bytes w),("used",.int n)]),("octets",.val (.bytes p)),("is_last",.val (.bool last)),("ahead",.val v1),("found",.own []),("at",.val v11),("order",.val v10)]).bind fun fl12 =>flC fl12 (fun g13 =>exsK 37 (wt G) R44_2.sc R44_2.mu g13 ((blk R44_2.body []).drop 3) retMf) (fun g13 =>retMf (.brk g13)) (fun w g13 =>retMf (.ret w g13))) ((whileX 36 (wt G) R44_2.sc R44_2.mu (testOf (sAt (blk R44_2.body []) 2)) (blk R44_2.body [2]) 65536 [("self",.inst "Utf16Stream" [("order",ov),("is_strict",.bool st),("left",.bytes w),("used",.int n)]),("octets",.val (.bytes p)),("is_last",.val (.bool last)),("ahead",.val v1),("found",.own []),("at",.val (.int 0)),("order",.val ov)]).bind fun fl14 =>flC fl14 (fun g15 =>exsK 37 (wt G) R44_2.sc R44_2.mu g15 ((blk R44_2.body []).drop 3) retMf) (fun g15 =>retMf (.brk g15)) (fun w g15 =>retMf (.ret w g15))))) ((whileX 36 (wt G) R44_2.sc R44_2.mu (testOf (sAt (blk R44_2.body []) 2)) (blk R44_2.body [2]) 65536 [("self",.inst "Utf16Stream" [("order",ov),("is_strict",.bool st),("left",.bytes w),("used",.int n)]),("octets",.val (.bytes p)),("is_last",.val (.bool last)),("ahead",.val v1),("found",.own []),("at",.val (.int 0)),("order",.val ov)]).bind fun fl16 =>flC fl16 (fun g17 =>exsK 37 (wt G) R44_2.sc R44_2.mu g17 ((blk R44_2.body []).drop 3) retMf) (fun g17 =>retMf (.brk g17)) (fun w g17 =>retMf (.ret w g17)))) = some v) : (geOf tab (k + 1)).mth "Utf16Stream" "feed" [("order",ov),("is_strict",.bool st),("left",.bytes w),("used",.int n)] [.bytes p,.bool last] = some v:=mth_sh (r:=R44_2) (by kernel_rfl) (by kernel_rfl) h
theorem sht_feed16 {k : Nat} {ov o : V} {w p ks : List Int} {n i : Int} {st last : Bool} {fs : List V} {ex : Gam} {v : Bool} (h : (let G:=geOf tab k; cond (!isNoneV o) ((bltV "len" [.bytes ks]).bind fun v1 =>(cmpV .Lt (.int i) v1).bind fun b2 =>cond b2 (some true) (some false)) (some false)) = some v) : evT 36 (wt (geOf tab k)) R44_2.sc (("self",.inst "Utf16Stream" [("order",ov),("is_strict",.bool st),("left",.bytes w),("used",.int n)]) :: ("octets",.val (.bytes p)) :: ("is_last",.val (.bool last)) :: ("ahead",.val (.bytes ks)) :: ("found",.own fs) :: ("at",.val (.int i)) :: ("order",.val o) :: ex) (testOf (sAt (blk R44_2.body []) 2)) = some v:=test_sh (by kernel_rfl) h
theorem shb_feed16 {k : Nat} {ov o : V} {w p ks : List Int} {n i : Int} {st last : Bool} {fs : List V} {ex : Gam} {P : Fl → Prop} (h : Out (let G:=geOf tab k; cond (!last) ((G.pm "Utf16Stream" "is_lacking" [.bytes ks,.int i,o]).bind fun v1 =>(V.tru v1).bind fun b2 =>cond b2 (some (.brk (("self",.inst "Utf16Stream" [("order",ov),("is_strict",.bool st),("left",.bytes w),("used",.int n)]) :: ("octets",.val (.bytes p)) :: ("is_last",.val (.bool last)) :: ("ahead",.val (.bytes ks)) :: ("found",.own fs) :: ("at",.val (.int i)) :: ("order",.val o) :: ex))) ((orO (G.fn "utf16_step" [.bytes ks,.int i,o] []) (bltV "utf16_step" [.bytes ks,.int i,o])).bind fun v3 =>un3 v3 fun v4 v5 v6 =>(valOf (List.lookup ("code" : Str) (setL "what" (AV.val v6) (setL "behind" (AV.val v5) (setL "code" (AV.val v4) ex))))).bind fun v7 =>cond (isNoneV v7) (cond st (Option.none) ((valOf (List.lookup ("code" : Str) (setL "what" (AV.val v6) (setL "behind" (AV.val v5) (setL "code" (AV.val v4) ex))))).bind fun v8 =>cond (isNoneV v8) (if fs.length < lid then (valOf (List.lookup ("behind" : Str) (setL "what" (AV.val v6) (setL "behind" (AV.val v5) (setL "code" (AV.val v4) ex))))).bind fun v9 =>some (.next (("self",.inst "Utf16Stream" [("order",ov),("is_strict",.bool st),("left",.bytes w),("used",.int n)]) :: ("octets",.val (.bytes p)) :: ("is_last",.val (.bool last)) :: ("ahead",.val (.bytes ks)) :: ("found",.own (fs ++ [.int 65533])) :: ("at",.val v9) :: ("order",.val o) :: (setL "what" (AV.val v6) (setL "behind" (AV.val v5) (setL "code" (AV.val v4) ex))))) else Option.none) ((valOf (List.lookup ("code" : Str) (setL "what" (AV.val v6) (setL "behind" (AV.val v5) (setL "code" (AV.val v4) ex))))).bind fun v10 =>if fs.length < lid then (valOf (List.lookup ("behind" : Str) (setL "what" (AV.val v6) (setL "behind" (AV.val v5) (setL "code" (AV.val v4) ex))))).bind fun v11 =>some (.next (("self",.inst "Utf16Stream" [("order",ov),("is_strict",.bool st),("left",.bytes w),("used",.int n)]) :: ("octets",.val (.bytes p)) :: ("is_last",.val (.bool last)) :: ("ahead",.val (.bytes ks)) :: ("found",.own (fs ++ [v10])) :: ("at",.val v11) :: ("order",.val o) :: (setL "what" (AV.val v6) (setL "behind" (AV.val v5) (setL "code" (AV.val v4) ex))))) else Option.none))) ((valOf (List.lookup ("code" : Str) (setL "what" (AV.val v6) (setL "behind" (AV.val v5) (setL "code" (AV.val v4) ex))))).bind fun v12 =>cond (isNoneV v12) (if fs.length < lid then (valOf (List.lookup ("behind" : Str) (setL "what" (AV.val v6) (setL "behind" (AV.val v5) (setL "code" (AV.val v4) ex))))).bind fun v13 =>some (.next (("self",.inst "Utf16Stream" [("order",ov),("is_strict",.bool st),("left",.bytes w),("used",.int n)]) :: ("octets",.val (.bytes p)) :: ("is_last",.val (.bool last)) :: ("ahead",.val (.bytes ks)) :: ("found",.own (fs ++ [.int 65533])) :: ("at",.val v13) :: ("order",.val o) :: (setL "what" (AV.val v6) (setL "behind" (AV.val v5) (setL "code" (AV.val v4) ex))))) else Option.none) ((valOf (List.lookup ("code" : Str) (setL "what" (AV.val v6) (setL "behind" (AV.val v5) (setL "code" (AV.val v4) ex))))).bind fun v14 =>if fs.length < lid then (valOf (List.lookup ("behind" : Str) (setL "what" (AV.val v6) (setL "behind" (AV.val v5) (setL "code" (AV.val v4) ex))))).bind fun v15 =>some (.next (("self",.inst "Utf16Stream" [("order",ov),("is_strict",.bool st),("left",.bytes w),("used",.int n)]) :: ("octets",.val (.bytes p)) :: ("is_last",.val (.bool last)) :: ("ahead",.val (.bytes ks)) :: ("found",.own (fs ++ [v14])) :: ("at",.val v15) :: ("order",.val o) :: (setL "what" (AV.val v6) (setL "behind" (AV.val v5) (setL "code" (AV.val v4) ex))))) else Option.none)))) ((orO (G.fn "utf16_step" [.bytes ks,.int i,o] []) (bltV "utf16_step" [.bytes ks,.int i,o])).bind fun v16 =>un3 v16 fun v17 v18 v19 =>(valOf (List.lookup ("code" : Str) (setL "what" (AV.val v19) (setL "behind" (AV.val v18) (setL "code" (AV.val v17) ex))))).bind fun v20 =>cond (isNoneV v20) (cond st (Option.none) ((valOf (List.lookup ("code" : Str) (setL "what" (AV.val v19) (setL "behind" (AV.val v18) (setL "code" (AV.val v17) ex))))).bind fun v21 =>cond (isNoneV v21) (if fs.length < lid then (valOf (List.lookup ("behind" : Str) (setL "what" (AV.val v19) (setL "behind" (AV.val v18) (setL "code" (AV.val v17) ex))))).bind fun v22 =>some (.next (("self",.inst "Utf16Stream" [("order",ov),("is_strict",.bool st),("left",.bytes w),("used",.int n)]) :: ("octets",.val (.bytes p)) :: ("is_last",.val (.bool last)) :: ("ahead",.val (.bytes ks)) :: ("found",.own (fs ++ [.int 65533])) :: ("at",.val v22) :: ("order",.val o) :: (setL "what" (AV.val v19) (setL "behind" (AV.val v18) (setL "code" (AV.val v17) ex))))) else Option.none) ((valOf (List.lookup ("code" : Str) (setL "what" (AV.val v19) (setL "behind" (AV.val v18) (setL "code" (AV.val v17) ex))))).bind fun v23 =>if fs.length < lid then (valOf (List.lookup ("behind" : Str) (setL "what" (AV.val v19) (setL "behind" (AV.val v18) (setL "code" (AV.val v17) ex))))).bind fun v24 =>some (.next (("self",.inst "Utf16Stream" [("order",ov),("is_strict",.bool st),("left",.bytes w),("used",.int n)]) :: ("octets",.val (.bytes p)) :: ("is_last",.val (.bool last)) :: ("ahead",.val (.bytes ks)) :: ("found",.own (fs ++ [v23])) :: ("at",.val v24) :: ("order",.val o) :: (setL "what" (AV.val v19) (setL "behind" (AV.val v18) (setL "code" (AV.val v17) ex))))) else Option.none))) ((valOf (List.lookup ("code" : Str) (setL "what" (AV.val v19) (setL "behind" (AV.val v18) (setL "code" (AV.val v17) ex))))).bind fun v25 =>cond (isNoneV v25) (if fs.length < lid then (valOf (List.lookup ("behind" : Str) (setL "what" (AV.val v19) (setL "behind" (AV.val v18) (setL "code" (AV.val v17) ex))))).bind fun v26 =>some (.next (("self",.inst "Utf16Stream" [("order",ov),("is_strict",.bool st),("left",.bytes w),("used",.int n)]) :: ("octets",.val (.bytes p)) :: ("is_last",.val (.bool last)) :: ("ahead",.val (.bytes ks)) :: ("found",.own (fs ++ [.int 65533])) :: ("at",.val v26) :: ("order",.val o) :: (setL "what" (AV.val v19) (setL "behind" (AV.val v18) (setL "code" (AV.val v17) ex))))) else Option.none) ((valOf (List.lookup ("code" : Str) (setL "what" (AV.val v19) (setL "behind" (AV.val v18) (setL "code" (AV.val v17) ex))))).bind fun v27 =>if fs.length < lid then (valOf (List.lookup ("behind" : Str) (setL "what" (AV.val v19) (setL "behind" (AV.val v18) (setL "code" (AV.val v17) ex))))).bind fun v28 =>some (.next (("self",.inst "Utf16Stream" [("order",ov),("is_strict",.bool st),("left",.bytes w),("used",.int n)]) :: ("octets",.val (.bytes p)) :: ("is_last",.val (.bool last)) :: ("ahead",.val (.bytes ks)) :: ("found",.own (fs ++ [v27])) :: ("at",.val v28) :: ("order",.val o) :: (setL "what" (AV.val v19) (setL "behind" (AV.val v18) (setL "code" (AV.val v17) ex))))) else Option.none)))) P) : Out (exs 36 (wt (geOf tab k)) R44_2.sc R44_2.mu (blk R44_2.body [2]) (("self",.inst "Utf16Stream" [("order",ov),("is_strict",.bool st),("left",.bytes w),("used",.int n)]) :: ("octets",.val (.bytes p)) :: ("is_last",.val (.bool last)) :: ("ahead",.val (.bytes ks)) :: ("found",.own fs) :: ("at",.val (.int i)) :: ("order",.val o) :: ex)) P:=body_sh (by kernel_rfl) h
theorem sha_feed16 {k : Nat} {ov o : V} {w p ks : List Int} {n i : Int} {st last : Bool} {fs : List V} {ex : Gam} {v : Option (V × List (Str × V))} (h : (let G:=geOf tab k; (partV (some (.int i))).bind fun p1 =>(sliceV (.bytes ks) p1 Option.none).bind fun v2 =>some ((V.list fs),[(("order" : Str),o),(("is_strict" : Str),.bool st),(("left" : Str),v2),(("used" : Str),.int (n + i))])) = v) : exsK 37 (wt (geOf tab k)) R44_2.sc R44_2.mu ((("self" : Str),AV.inst ("Utf16Stream" : Str) [(("order" : Str),ov),(("is_strict" : Str),.bool st),(("left" : Str),.bytes w),(("used" : Str),.int n)]) :: (("octets" : Str),AV.val (.bytes p)) :: (("is_last" : Str),AV.val (.bool last)) :: (("ahead" : Str),AV.val (.bytes ks)) :: (("found" : Str),AV.own fs) :: (("at" : Str),AV.val (.int i)) :: (("order" : Str),AV.val o) :: ex) ((blk R44_2.body []).drop 3) retMf = v:=Eq.trans (by kernel_rfl) h
theorem sh_utf32_step {k : Nat} {ks : List Int} {i : Int} {o : Str} {v : V} (h : (let G:=geOf tab k; (partV (some (.int i))).bind fun p1 =>(partV (some (.int (i + 4)))).bind fun p2 =>(sliceV (.bytes ks) p1 p2).bind fun v3 =>ownC v3 fun ks4 =>((lenV (.list (ks4.map V.int))).map fun (n : Nat) =>V.int n).bind fun v5 =>(cmpV .Lt v5 (.int 4)).bind fun b6 =>cond b6 ((bltV "len" [.bytes ks]).bind fun v7 =>some (.tup [.none,v7,.str "odd end"])) (cond (!(o == ("be" : Str))) (if (ks4.map V.int).length ≤ lid then (itemV (.list ((ks4.map V.int).reverse)) (.int 0)).bind fun v8 =>(binV .LShift v8 (.int 24)).bind fun v9 =>(itemV (.list ((ks4.map V.int).reverse)) (.int 1)).bind fun v10 =>(binV .LShift v10 (.int 16)).bind fun v11 =>(binV .BitOr v9 v11).bind fun v12 =>(itemV (.list ((ks4.map V.int).reverse)) (.int 2)).bind fun v13 =>(binV .LShift v13 (.int 8)).bind fun v14 =>(binV .BitOr v12 v14).bind fun v15 =>(itemV (.list ((ks4.map V.int).reverse)) (.int 3)).bind fun v16 =>(binV .BitOr v15 v16).bind fun v17 =>(orO (G.fn "is_scalar" [v17] []) (bltV "is_scalar" [v17])).bind fun v18 =>(V.tru v18).bind fun b19 =>cond b19 (some (.tup [v17,.int (i + 4),.str ("" : Str)])) ((orO (G.fn "is_surrogate" [v17] []) (bltV "is_surrogate" [v17])).bind fun v20 =>(V.tru v20).bind fun b21 =>cond b21 (some (.tup [.none,.int (i + 4),.str "surrogate"])) (some (.tup [.none,.int (i + 4),.str "beyond"]))) else Option.none) ((itemV (.list (ks4.map V.int)) (.int 0)).bind fun v22 =>(binV .LShift v22 (.int 24)).bind fun v23 =>(itemV (.list (ks4.map V.int)) (.int 1)).bind fun v24 =>(binV .LShift v24 (.int 16)).bind fun v25 =>(binV .BitOr v23 v25).bind fun v26 =>(itemV (.list (ks4.map V.int)) (.int 2)).bind fun v27 =>(binV .LShift v27 (.int 8)).bind fun v28 =>(binV .BitOr v26 v28).bind fun v29 =>(itemV (.list (ks4.map V.int)) (.int 3)).bind fun v30 =>(binV .BitOr v29 v30).bind fun v31 =>(orO (G.fn "is_scalar" [v31] []) (bltV "is_scalar" [v31])).bind fun v32 =>(V.tru v32).bind fun b33 =>cond b33 (some (.tup [v31,.int (i + 4),.str ("" : Str)])) ((orO (G.fn "is_surrogate" [v31] []) (bltV "is_surrogate" [v31])).bind fun v34 =>(V.tru v34).bind fun b35 =>cond b35 (some (.tup [.none,.int (i + 4),.str "surrogate"])) (some (.tup [.none,.int (i + 4),.str "beyond"])))))) = some v) : (geOf tab (k + 1)).fn "utf32_step" [.bytes ks,.int i,.str o] [] = some v:=fn_sh (r:=R46) (by kernel_rfl) (by kernel_rfl) h
theorem sh_encoding_marks {k : Nat}  {v : V} (h : (let G:=geOf tab k; (binV .Add (.list [.tup [.bytes [0,0,254,255],.str "utf-32be"],.tup [.bytes [255,254,0,0],.str "utf-32le"],.tup [.bytes [239,187,191],.str "utf-8"]]) (.list [.tup [.bytes [254,255],.str "utf-16be"],.tup [.bytes [255,254],.str "utf-16le"],.tup [.bytes [14,254,255],.str "scsu"]])).bind fun v1 =>(binV .Add v1 (.list [.tup [.bytes [251,238,40],.str "bocu-1"],.tup [.bytes [132,49,149,51],.str "gb18030"],.tup [.bytes [221,115,102,115],.str "utf-ebcdic"]])).bind fun v2 =>(itemsV (.tup [.bytes [56],.bytes [57],.bytes [43],.bytes [47]])).bind fun xs3 =>if xs3.length ≤ lid then (compV (fun x4 =>(binV .Add (.bytes [43,47,118]) x4).bind fun v5 =>some (some (V.tup [v5,.str "utf-7"]))) xs3).bind fun v6 =>(binV .Add v2 (.list v6)).bind fun v7 =>some v7 else Option.none) = some v) : (geOf tab (k + 1)).fn "encoding_marks" [] [] = some v:=fn_sh (r:=R49) (by kernel_rfl) (by kernel_rfl) h
theorem sh_sniffed {k : Nat} {ks : List Int} {v : V} (h : (let G:=geOf tab k; (orO (G.fn "encoding_marks" [] []) (bltV "encoding_marks" [])).bind fun vv =>(itemsV vv).bind fun xs =>(forX 38 (wt G) R50.sc R50.mu (testOf (sAt (blk R50.body []) 0)) (blk R50.body [0]) xs [("octets",.val (.bytes ks))]).bind fun fl1 =>flC fl1 (fun g2 =>exsK 39 (wt G) R50.sc R50.mu g2 ((blk R50.body []).drop 1) retF) (fun g2 =>retF (.brk g2)) (fun w g2 =>retF (.ret w g2))) = some v) : (geOf tab (k + 1)).fn "sniffed" [.bytes ks] [] = some v:=fn_sh (r:=R50) (by kernel_rfl) (by kernel_rfl) h
theorem shb_sniffed {k : Nat} {ks : List Int} {ex : Gam} {P : Fl → Prop} (h : Out (let G:=geOf tab k; lenC (ownOf (List.lookup ("mark" : Str) ex)) (fun xs1 =>((lenV (.list xs1)).map fun (n : Nat) =>V.int n).bind fun v2 =>(partV (some v2)).bind fun p3 =>(sliceV (.bytes ks) Option.none p3).bind fun v4 =>(valOf (List.lookup ("mark" : Str) ex)).bind fun v5 =>(cmpV .Eq v4 v5).bind fun b6 =>cond b6 ((valOf (List.lookup ("word" : Str) (thaw ex))).bind fun v7 =>some (.ret v7 (("octets",.val (.bytes ks)) :: (thaw ex)))) (some (.next (("octets",.val (.bytes ks)) :: ex)))) ((valOf (List.lookup ("mark" : Str) ex)).bind fun v8 =>(bltV "len" [v8]).bind fun v9 =>(partV (some v9)).bind fun p10 =>(sliceV (.bytes ks) Option.none p10).bind fun v11 =>(valOf (List.lookup ("mark" : Str) ex)).bind fun v12 =>(cmpV .Eq v11 v12).bind fun b13 =>cond b13 ((valOf (List.lookup ("word" : Str) (thaw ex))).bind fun v14 =>some (.ret v14 (("octets",.val (.bytes ks)) :: (thaw ex)))) (some (.next (("octets",.val (.bytes ks)) :: ex))))) P) : Out (exs 38 (wt (geOf tab k)) R50.sc R50.mu (blk R50.body [0]) (("octets",.val (.bytes ks)) :: ex)) P:=body_sh (by kernel_rfl) h
theorem sha_sniffed {k : Nat} {ks : List Int} {ex : Gam} {v : Option (V)} (h : (let G:=geOf tab k; some .none) = v) : exsK 39 (wt (geOf tab k)) R50.sc R50.mu (("octets",.val (.bytes ks)) :: ex) ((blk R50.body []).drop 1) retF = v:=Eq.trans (by kernel_rfl) h
theorem sh_unmarked {k : Nat} {ks : List Int} {v : V} (h : (let G:=geOf tab k; (orO (G.fn "encoding_marks" [] []) (bltV "encoding_marks" [])).bind fun vv =>(itemsV vv).bind fun xs =>(forX 38 (wt G) R51.sc R51.mu (testOf (sAt (blk R51.body []) 0)) (blk R51.body [0]) xs [("octets",.val (.bytes ks))]).bind fun fl1 =>flC fl1 (fun g2 =>exsK 39 (wt G) R51.sc R51.mu g2 ((blk R51.body []).drop 1) retF) (fun g2 =>retF (.brk g2)) (fun w g2 =>retF (.ret w g2))) = some v) : (geOf tab (k + 1)).fn "unmarked" [.bytes ks] [] = some v:=fn_sh (r:=R51) (by kernel_rfl) (by kernel_rfl) h
theorem shb_unmarked {k : Nat} {ks : List Int} {ex : Gam} {P : Fl → Prop} (h : Out (let G:=geOf tab k; lenC (ownOf (List.lookup ("mark" : Str) ex)) (fun xs1 =>((lenV (.list xs1)).map fun (n : Nat) =>V.int n).bind fun v2 =>(partV (some v2)).bind fun p3 =>(sliceV (.bytes ks) Option.none p3).bind fun v4 =>(valOf (List.lookup ("mark" : Str) ex)).bind fun v5 =>(cmpV .Eq v4 v5).bind fun b6 =>cond b6 ((valOf (List.lookup ("word" : Str) (thaw ex))).bind fun v7 =>(valOf (List.lookup ("word" : Str) (thaw ex))).bind fun v8 =>(cmpV .Eq v8 (.str "utf-7")).bind fun b9 =>cond b9 (some (.ret (V.tup [v7,.bytes ks]) (("octets",.val (.bytes ks)) :: (thaw ex)))) (lenC (ownOf (List.lookup ("mark" : Str) (thaw ex))) (fun xs10 =>((lenV (.list xs10)).map fun (n : Nat) =>V.int n).bind fun v11 =>(partV (some v11)).bind fun p12 =>(sliceV (.bytes ks) p12 Option.none).bind fun v13 =>some (.ret (V.tup [v7,v13]) (("octets",.val (.bytes ks)) :: (thaw ex)))) ((valOf (List.lookup ("mark" : Str) (thaw ex))).bind fun v14 =>(bltV "len" [v14]).bind fun v15 =>(partV (some v15)).bind fun p16 =>(sliceV (.bytes ks) p16 Option.none).bind fun v17 =>some (.ret (V.tup [v7,v17]) (("octets",.val (.bytes ks)) :: (thaw ex)))))) (some (.next (("octets",.val (.bytes ks)) :: ex)))) ((valOf (List.lookup ("mark" : Str) ex)).bind fun v18 =>(bltV "len" [v18]).bind fun v19 =>(partV (some v19)).bind fun p20 =>(sliceV (.bytes ks) Option.none p20).bind fun v21 =>(valOf (List.lookup ("mark" : Str) ex)).bind fun v22 =>(cmpV .Eq v21 v22).bind fun b23 =>cond b23 ((valOf (List.lookup ("word" : Str) (thaw ex))).bind fun v24 =>(valOf (List.lookup ("word" : Str) (thaw ex))).bind fun v25 =>(cmpV .Eq v25 (.str "utf-7")).bind fun b26 =>cond b26 (some (.ret (V.tup [v24,.bytes ks]) (("octets",.val (.bytes ks)) :: (thaw ex)))) (lenC (ownOf (List.lookup ("mark" : Str) (thaw ex))) (fun xs27 =>((lenV (.list xs27)).map fun (n : Nat) =>V.int n).bind fun v28 =>(partV (some v28)).bind fun p29 =>(sliceV (.bytes ks) p29 Option.none).bind fun v30 =>some (.ret (V.tup [v24,v30]) (("octets",.val (.bytes ks)) :: (thaw ex)))) ((valOf (List.lookup ("mark" : Str) (thaw ex))).bind fun v31 =>(bltV "len" [v31]).bind fun v32 =>(partV (some v32)).bind fun p33 =>(sliceV (.bytes ks) p33 Option.none).bind fun v34 =>some (.ret (V.tup [v24,v34]) (("octets",.val (.bytes ks)) :: (thaw ex)))))) (some (.next (("octets",.val (.bytes ks)) :: ex))))) P) : Out (exs 38 (wt (geOf tab k)) R51.sc R51.mu (blk R51.body [0]) (("octets",.val (.bytes ks)) :: ex)) P:=body_sh (by kernel_rfl) h
theorem sha_unmarked {k : Nat} {ks : List Int} {ex : Gam} {v : Option (V)} (h : (let G:=geOf tab k; some (.tup [.none,.bytes ks])) = v) : exsK 39 (wt (geOf tab k)) R51.sc R51.mu (("octets",.val (.bytes ks)) :: ex) ((blk R51.body []).drop 1) retF = v:=Eq.trans (by kernel_rfl) h
theorem sh_law_is_begun {k : Nat} {ks : List Int} {v : V} (h : (let G:=geOf tab k; (itemV (.bytes ks) (.int 0)).bind fun v1 =>(cmpV .Lt v1 (.int 128)).bind fun b2 =>cond b2 ((bltV "len" [.bytes ks]).bind fun v3 =>(cmpV .Eq v3 (.int 1)).bind fun b4 =>some (.bool b4)) ((itemsV (.tup [.tup [.int 2,.int 192],.tup [.int 3,.int 224],.tup [.int 4,.int 240]])).bind fun xs5 =>(forX 36 (wt G) R54.sc R54.mu (testOf (sAt (blk R54.body []) 2)) (blk R54.body [2]) xs5 [("part",.val (.bytes ks)),("lead",.val v1),("many",.val (.int 0))]).bind fun fl6 =>flC fl6 (fun g7 =>exsK 37 (wt G) R54.sc R54.mu g7 ((blk R54.body []).drop 3) retF) (fun g7 =>retF (.brk g7)) (fun w g7 =>retF (.ret w g7)))) = some v) : (geOf tab (k + 1)).fn "_law_is_begun" [.bytes ks] [] = some v:=fn_sh (r:=R54) (by kernel_rfl) (by kernel_rfl) h
theorem shb_is_begun1 {k : Nat} {ks : List Int} {b m : Int} {ex : Gam} {P : Fl → Prop} (h : Out (let G:=geOf tab k; (valOf (List.lookup ("first" : Str) ex)).bind fun v1 =>(cmpV .LtE v1 (.int b)).bind fun b2 =>cond b2 ((valOf (List.lookup ("first" : Str) ex)).bind fun v3 =>(valOf (List.lookup ("size" : Str) ex)).bind fun v4 =>(binV .Add v4 (.int 1)).bind fun v5 =>(binV .Pow (.int 2) v5).bind fun v6 =>(binV .FloorDiv (.int 256) v6).bind fun v7 =>(binV .Add v3 v7).bind fun v8 =>(cmpV .Lt (.int b) v8).bind fun b9 =>cond b9 ((valOf (List.lookup ("size" : Str) ex)).bind fun v10 =>some (.next (("part",.val (.bytes ks)) :: ("lead",.val (.int b)) :: ("many",.val v10) :: ex))) (some (.next (("part",.val (.bytes ks)) :: ("lead",.val (.int b)) :: ("many",.val (.int m)) :: ex)))) (some (.next (("part",.val (.bytes ks)) :: ("lead",.val (.int b)) :: ("many",.val (.int m)) :: ex)))) P) : Out (exs 36 (wt (geOf tab k)) R54.sc R54.mu (blk R54.body [2]) (("part",.val (.bytes ks)) :: ("lead",.val (.int b)) :: ("many",.val (.int m)) :: ex)) P:=body_sh (by kernel_rfl) h
theorem sha_is_begun1 {k : Nat} {ks : List Int} {b m : Int} {ex : Gam} {v : Option (V)} (h : (let G:=geOf tab k; cond ((m == 0)) (some (.bool false)) ((bltV "len" [.bytes ks]).bind fun v1 =>(cmpV .Gt v1 (.int m)).bind fun b2 =>cond b2 (some (.bool false)) ((partV (some (.int 1))).bind fun p3 =>(sliceV (.bytes ks) p3 Option.none).bind fun v4 =>(itemsV v4).bind fun xs5 =>if xs5.length ≤ lid then (compV (fun x6 =>(valOf (List.lookup ("octet" : Str) (setL "octet" (AV.val x6) ex))).bind fun v7 =>(cmpV .LtE (.int 128) v7).bind fun b8 =>cond b8 ((cmpV .Lt v7 (.int 192)).bind fun b9 =>cond (!b9) ((valOf (List.lookup ("octet" : Str) (setL "octet" (AV.val x6) ex))).bind fun v10 =>some (some v10)) (some Option.none)) ((valOf (List.lookup ("octet" : Str) (setL "octet" (AV.val x6) ex))).bind fun v11 =>some (some v11))) xs5).bind fun v12 =>(cmpV .NotEq (.list v12) (.list [])).bind fun b13 =>cond b13 (some (.bool false)) ((binV .Pow (.int 2) (.int (m + 1))).bind fun v14 =>(binV .FloorDiv (.int 256) v14).bind fun v15 =>(binV .Mod (.int b) v15).bind fun v16 =>(binV .Pow (.int 2) (.int (m + 1))).bind fun v17 =>(binV .FloorDiv (.int 256) v17).bind fun v18 =>(binV .Mod (.int b) v18).bind fun v19 =>(iterV "range" [.int 1,.int m]).bind fun xs20 =>(forX 33 (wt G) R54.sc R54.mu (testOf (sAt (blk R54.body []) 5)) (blk R54.body [5]) xs20 (("part",.val (.bytes ks)) :: ("lead",.val (.int b)) :: ("many",.val (.int m)) :: (setL "high" (AV.val v19) (setL "low" (AV.val v16) ex)))).bind fun fl21 =>flC fl21 (fun g22 =>exsK 34 (wt G) R54.sc R54.mu g22 ((blk R54.body []).drop 6) retF) (fun g22 =>retF (.brk g22)) (fun w g22 =>retF (.ret w g22))) else Option.none))) = v) : exsK 37 (wt (geOf tab k)) R54.sc R54.mu (("part",.val (.bytes ks)) :: ("lead",.val (.int b)) :: ("many",.val (.int m)) :: ex) ((blk R54.body []).drop 3) retF = v:=Eq.trans (by kernel_rfl) h
theorem shb_is_begun2 {k : Nat} {ks : List Int} {b m lo hi : Int} {q1 q2 : V} {ex : Gam} {P : Fl → Prop} (h : Out (let G:=geOf tab k; (binV .Mult (.int 64) (.int lo)).bind fun v1 =>(valOf (List.lookup ("k" : Str) ex)).bind fun v2 =>(bltV "len" [.bytes ks]).bind fun v3 =>(cmpV .Lt v2 v3).bind fun b4 =>cond b4 ((valOf (List.lookup ("k" : Str) ex)).bind fun v5 =>(itemV (.bytes ks) v5).bind fun v6 =>(binV .Sub v6 (.int 128)).bind fun v7 =>(binV .Add v1 v7).bind fun v8 =>(binV .Mult (.int 64) (.int hi)).bind fun v9 =>(valOf (List.lookup ("k" : Str) ex)).bind fun v10 =>(bltV "len" [.bytes ks]).bind fun v11 =>(cmpV .Lt v10 v11).bind fun b12 =>cond b12 ((valOf (List.lookup ("k" : Str) ex)).bind fun v13 =>(itemV (.bytes ks) v13).bind fun v14 =>(binV .Sub v14 (.int 128)).bind fun v15 =>(binV .Add v9 v15).bind fun v16 =>some (.next (("part",.val (.bytes ks)) :: ("lead",.val (.int b)) :: ("many",.val (.int m)) :: ("size",.val q1) :: ("first",.val q2) :: ("low",.val v8) :: ("high",.val v16) :: ex))) ((binV .Add v9 (.int 63)).bind fun v17 =>some (.next (("part",.val (.bytes ks)) :: ("lead",.val (.int b)) :: ("many",.val (.int m)) :: ("size",.val q1) :: ("first",.val q2) :: ("low",.val v8) :: ("high",.val v17) :: ex)))) ((binV .Add v1 (.int 0)).bind fun v18 =>(binV .Mult (.int 64) (.int hi)).bind fun v19 =>(valOf (List.lookup ("k" : Str) ex)).bind fun v20 =>(bltV "len" [.bytes ks]).bind fun v21 =>(cmpV .Lt v20 v21).bind fun b22 =>cond b22 ((valOf (List.lookup ("k" : Str) ex)).bind fun v23 =>(itemV (.bytes ks) v23).bind fun v24 =>(binV .Sub v24 (.int 128)).bind fun v25 =>(binV .Add v19 v25).bind fun v26 =>some (.next (("part",.val (.bytes ks)) :: ("lead",.val (.int b)) :: ("many",.val (.int m)) :: ("size",.val q1) :: ("first",.val q2) :: ("low",.val v18) :: ("high",.val v26) :: ex))) ((binV .Add v19 (.int 63)).bind fun v27 =>some (.next (("part",.val (.bytes ks)) :: ("lead",.val (.int b)) :: ("many",.val (.int m)) :: ("size",.val q1) :: ("first",.val q2) :: ("low",.val v18) :: ("high",.val v27) :: ex))))) P) : Out (exs 33 (wt (geOf tab k)) R54.sc R54.mu (blk R54.body [5]) (("part",.val (.bytes ks)) :: ("lead",.val (.int b)) :: ("many",.val (.int m)) :: ("size",.val q1) :: ("first",.val q2) :: ("low",.val (.int lo)) :: ("high",.val (.int hi)) :: ex)) P:=body_sh (by kernel_rfl) h
theorem sha_is_begun2 {k : Nat} {ks : List Int} {b m lo hi : Int} {q1 q2 : V} {ex : Gam} {v : Option (V)} (h : (let G:=geOf tab k; (dictV [2,3,4] [.list [.tup [.int 128,.int 2047]],.list [.tup [.int 2048,.int 55295],.tup [.int 57344,.int 65535]],.list [.tup [.int 65536,.int 1114111]]] (.int m)).bind fun v1 =>(valOf (List.lookup ("some" : Str) (thaw (setL "some" (AV.val v1) ex)))).bind fun v2 =>(itemsV v2).bind fun xs3 =>if xs3.length ≤ lid then (compV (fun x4 =>(subC (ownOf (List.lookup ("one" : Str) (setL "one" (AV.val x4) (thaw (setL "some" (AV.val v1) ex))))) (.int 1) (fun z =>(cmpV .LtE (.int lo) z).bind fun b5 =>cond b5 ((subC (ownOf (List.lookup ("one" : Str) (setL "one" (AV.val x4) (thaw (setL "some" (AV.val v1) ex))))) (.int 0) (fun z =>(cmpV .GtE (.int hi) z).bind fun b6 =>cond b6 ((valOf (List.lookup ("one" : Str) (setL "one" (AV.val x4) (thaw (setL "some" (AV.val v1) ex))))).bind fun v7 =>some (some v7)) (some Option.none)) ((valOf (List.lookup ("one" : Str) (setL "one" (AV.val x4) (thaw (setL "some" (AV.val v1) ex))))).bind fun v8 =>(itemV v8 (.int 0)).bind fun v9 =>(cmpV .GtE (.int hi) v9).bind fun b10 =>cond b10 ((valOf (List.lookup ("one" : Str) (setL "one" (AV.val x4) (thaw (setL "some" (AV.val v1) ex))))).bind fun v11 =>some (some v11)) (some Option.none)))) (some Option.none)) ((valOf (List.lookup ("one" : Str) (setL "one" (AV.val x4) (thaw (setL "some" (AV.val v1) ex))))).bind fun v12 =>(itemV v12 (.int 1)).bind fun v13 =>(cmpV .LtE (.int lo) v13).bind fun b14 =>cond b14 ((subC (ownOf (List.lookup ("one" : Str) (setL "one" (AV.val x4) (thaw (setL "some" (AV.val v1) ex))))) (.int 0) (fun z =>(cmpV .GtE (.int hi) z).bind fun b15 =>cond b15 ((valOf (List.lookup ("one" : Str) (setL "one" (AV.val x4) (thaw (setL "some" (AV.val v1) ex))))).bind fun v16 =>some (some v16)) (some Option.none)) ((valOf (List.lookup ("one" : Str) (setL "one" (AV.val x4) (thaw (setL "some" (AV.val v1) ex))))).bind fun v17 =>(itemV v17 (.int 0)).bind fun v18 =>(cmpV .GtE (.int hi) v18).bind fun b19 =>cond b19 ((valOf (List.lookup ("one" : Str) (setL "one" (AV.val x4) (thaw (setL "some" (AV.val v1) ex))))).bind fun v20 =>some (some v20)) (some Option.none)))) (some Option.none)))) xs3).bind fun v21 =>(cmpV .NotEq (.list v21) (.list [])).bind fun b22 =>some (.bool b22) else Option.none) = v) : exsK 34 (wt (geOf tab k)) R54.sc R54.mu (("part",.val (.bytes ks)) :: ("lead",.val (.int b)) :: ("many",.val (.int m)) :: ("size",.val q1) :: ("first",.val q2) :: ("low",.val (.int lo)) :: ("high",.val (.int hi)) :: ex) ((blk R54.body []).drop 6) retF = v:=Eq.trans (by kernel_rfl) h
theorem sh_law_code {k : Nat} {ks : List Int} {v : V} (h : (let G:=geOf tab k; (itemV (.bytes ks) (.int 0)).bind fun v1 =>(cmpV .Lt v1 (.int 128)).bind fun b2 =>cond b2 ((bltV "len" [.bytes ks]).bind fun v3 =>(cmpV .NotEq v3 (.int 1)).bind fun b4 =>cond b4 (some .none) ((orO (G.fn "_law_is_begun" [.bytes ks] []) (bltV "_law_is_begun" [.bytes ks])).bind fun v5 =>(V.tru v5).bind fun b6 =>cond (!b6) (some .none) (cond ((1 == 1)) ((itemV (.bytes ks) (.int 0)).bind fun v7 =>(partV (some (.int 1))).bind fun p8 =>(sliceV (.bytes ks) p8 Option.none).bind fun v9 =>(itemsV v9).bind fun xs10 =>(forX 35 (wt G) R55.sc R55.mu (testOf (sAt (blk R55.body []) 3)) (blk R55.body [3]) xs10 [("part",.val (.bytes ks)),("many",.val (.int 1)),("number",.val v7)]).bind fun fl11 =>flC fl11 (fun g12 =>exsK 36 (wt G) R55.sc R55.mu g12 ((blk R55.body []).drop 4) retF) (fun g12 =>retF (.brk g12)) (fun w g12 =>retF (.ret w g12))) ((itemV (.bytes ks) (.int 0)).bind fun v13 =>(binV .Pow (.int 2) (.int (1 + 1))).bind fun v14 =>(binV .FloorDiv (.int 256) v14).bind fun v15 =>(binV .Mod v13 v15).bind fun v16 =>(partV (some (.int 1))).bind fun p17 =>(sliceV (.bytes ks) p17 Option.none).bind fun v18 =>(itemsV v18).bind fun xs19 =>(forX 35 (wt G) R55.sc R55.mu (testOf (sAt (blk R55.body []) 3)) (blk R55.body [3]) xs19 [("part",.val (.bytes ks)),("many",.val (.int 1)),("number",.val v16)]).bind fun fl20 =>flC fl20 (fun g21 =>exsK 36 (wt G) R55.sc R55.mu g21 ((blk R55.body []).drop 4) retF) (fun g21 =>retF (.brk g21)) (fun w g21 =>retF (.ret w g21)))))) ((itemV (.bytes ks) (.int 0)).bind fun v22 =>(cmpV .Lt v22 (.int 224)).bind fun b23 =>cond b23 ((bltV "len" [.bytes ks]).bind fun v24 =>(cmpV .NotEq v24 (.int 2)).bind fun b25 =>cond b25 (some .none) ((orO (G.fn "_law_is_begun" [.bytes ks] []) (bltV "_law_is_begun" [.bytes ks])).bind fun v26 =>(V.tru v26).bind fun b27 =>cond (!b27) (some .none) (cond ((2 == 1)) ((itemV (.bytes ks) (.int 0)).bind fun v28 =>(partV (some (.int 1))).bind fun p29 =>(sliceV (.bytes ks) p29 Option.none).bind fun v30 =>(itemsV v30).bind fun xs31 =>(forX 35 (wt G) R55.sc R55.mu (testOf (sAt (blk R55.body []) 3)) (blk R55.body [3]) xs31 [("part",.val (.bytes ks)),("many",.val (.int 2)),("number",.val v28)]).bind fun fl32 =>flC fl32 (fun g33 =>exsK 36 (wt G) R55.sc R55.mu g33 ((blk R55.body []).drop 4) retF) (fun g33 =>retF (.brk g33)) (fun w g33 =>retF (.ret w g33))) ((itemV (.bytes ks) (.int 0)).bind fun v34 =>(binV .Pow (.int 2) (.int (2 + 1))).bind fun v35 =>(binV .FloorDiv (.int 256) v35).bind fun v36 =>(binV .Mod v34 v36).bind fun v37 =>(partV (some (.int 1))).bind fun p38 =>(sliceV (.bytes ks) p38 Option.none).bind fun v39 =>(itemsV v39).bind fun xs40 =>(forX 35 (wt G) R55.sc R55.mu (testOf (sAt (blk R55.body []) 3)) (blk R55.body [3]) xs40 [("part",.val (.bytes ks)),("many",.val (.int 2)),("number",.val v37)]).bind fun fl41 =>flC fl41 (fun g42 =>exsK 36 (wt G) R55.sc R55.mu g42 ((blk R55.body []).drop 4) retF) (fun g42 =>retF (.brk g42)) (fun w g42 =>retF (.ret w g42)))))) ((itemV (.bytes ks) (.int 0)).bind fun v43 =>(cmpV .Lt v43 (.int 240)).bind fun b44 =>cond b44 ((bltV "len" [.bytes ks]).bind fun v45 =>(cmpV .NotEq v45 (.int 3)).bind fun b46 =>cond b46 (some .none) ((orO (G.fn "_law_is_begun" [.bytes ks] []) (bltV "_law_is_begun" [.bytes ks])).bind fun v47 =>(V.tru v47).bind fun b48 =>cond (!b48) (some .none) (cond ((3 == 1)) ((itemV (.bytes ks) (.int 0)).bind fun v49 =>(partV (some (.int 1))).bind fun p50 =>(sliceV (.bytes ks) p50 Option.none).bind fun v51 =>(itemsV v51).bind fun xs52 =>(forX 35 (wt G) R55.sc R55.mu (testOf (sAt (blk R55.body []) 3)) (blk R55.body [3]) xs52 [("part",.val (.bytes ks)),("many",.val (.int 3)),("number",.val v49)]).bind fun fl53 =>flC fl53 (fun g54 =>exsK 36 (wt G) R55.sc R55.mu g54 ((blk R55.body []).drop 4) retF) (fun g54 =>retF (.brk g54)) (fun w g54 =>retF (.ret w g54))) ((itemV (.bytes ks) (.int 0)).bind fun v55 =>(binV .Pow (.int 2) (.int (3 + 1))).bind fun v56 =>(binV .FloorDiv (.int 256) v56).bind fun v57 =>(binV .Mod v55 v57).bind fun v58 =>(partV (some (.int 1))).bind fun p59 =>(sliceV (.bytes ks) p59 Option.none).bind fun v60 =>(itemsV v60).bind fun xs61 =>(forX 35 (wt G) R55.sc R55.mu (testOf (sAt (blk R55.body []) 3)) (blk R55.body [3]) xs61 [("part",.val (.bytes ks)),("many",.val (.int 3)),("number",.val v58)]).bind fun fl62 =>flC fl62 (fun g63 =>exsK 36 (wt G) R55.sc R55.mu g63 ((blk R55.body []).drop 4) retF) (fun g63 =>retF (.brk g63)) (fun w g63 =>retF (.ret w g63)))))) ((bltV "len" [.bytes ks]).bind fun v64 =>(cmpV .NotEq v64 (.int 4)).bind fun b65 =>cond b65 (some .none) ((orO (G.fn "_law_is_begun" [.bytes ks] []) (bltV "_law_is_begun" [.bytes ks])).bind fun v66 =>(V.tru v66).bind fun b67 =>cond (!b67) (some .none) (cond ((4 == 1)) ((itemV (.bytes ks) (.int 0)).bind fun v68 =>(partV (some (.int 1))).bind fun p69 =>(sliceV (.bytes ks) p69 Option.none).bind fun v70 =>(itemsV v70).bind fun xs71 =>(forX 35 (wt G) R55.sc R55.mu (testOf (sAt (blk R55.body []) 3)) (blk R55.body [3]) xs71 [("part",.val (.bytes ks)),("many",.val (.int 4)),("number",.val v68)]).bind fun fl72 =>flC fl72 (fun g73 =>exsK 36 (wt G) R55.sc R55.mu g73 ((blk R55.body []).drop 4) retF) (fun g73 =>retF (.brk g73)) (fun w g73 =>retF (.ret w g73))) ((itemV (.bytes ks) (.int 0)).bind fun v74 =>(binV .Pow (.int 2) (.int (4 + 1))).bind fun v75 =>(binV .FloorDiv (.int 256) v75).bind fun v76 =>(binV .Mod v74 v76).bind fun v77 =>(partV (some (.int 1))).bind fun p78 =>(sliceV (.bytes ks) p78 Option.none).bind fun v79 =>(itemsV v79).bind fun xs80 =>(forX 35 (wt G) R55.sc R55.mu (testOf (sAt (blk R55.body []) 3)) (blk R55.body [3]) xs80 [("part",.val (.bytes ks)),("many",.val (.int 4)),("number",.val v77)]).bind fun fl81 =>flC fl81 (fun g82 =>exsK 36 (wt G) R55.sc R55.mu g82 ((blk R55.body []).drop 4) retF) (fun g82 =>retF (.brk g82)) (fun w g82 =>retF (.ret w g82))))))))) = some v) : (geOf tab (k + 1)).fn "_law_code" [.bytes ks] [] = some v:=fn_sh (r:=R55) (by kernel_rfl) (by kernel_rfl) h
theorem shb_law_code {k : Nat} {ks : List Int} {m c : Int} {ex : Gam} {P : Fl → Prop} (h : Out (let G:=geOf tab k; (binV .Mult (.int 64) (.int c)).bind fun v1 =>(valOf (List.lookup ("octet" : Str) ex)).bind fun v2 =>(binV .Add v1 v2).bind fun v3 =>(binV .Sub v3 (.int 128)).bind fun v4 =>some (.next (("part",.val (.bytes ks)) :: ("many",.val (.int m)) :: ("number",.val v4) :: ex))) P) : Out (exs 35 (wt (geOf tab k)) R55.sc R55.mu (blk R55.body [3]) (("part",.val (.bytes ks)) :: ("many",.val (.int m)) :: ("number",.val (.int c)) :: ex)) P:=body_sh (by kernel_rfl) h
theorem sha_law_code {k : Nat} {ks : List Int} {m c : Int} {ex : Gam} {v : Option (V)} (h : (let G:=geOf tab k; some (.int c)) = v) : exsK 36 (wt (geOf tab k)) R55.sc R55.mu (("part",.val (.bytes ks)) :: ("many",.val (.int m)) :: ("number",.val (.int c)) :: ex) ((blk R55.body []).drop 4) retF = v:=Eq.trans (by kernel_rfl) h
theorem sh_law_cut {k : Nat} {ks : List Int} {v : V} (h : (let G:=geOf tab k; (whileX 37 (wt G) R56.sc R56.mu (testOf (sAt (blk R56.body []) 1)) (blk R56.body [1]) 65536 [("octets",.val (.bytes ks)),("found",.own []),("at",.val (.int 0))]).bind fun fl1 =>flC fl1 (fun g2 =>exsK 38 (wt G) R56.sc R56.mu g2 ((blk R56.body []).drop 2) retF) (fun g2 =>retF (.brk g2)) (fun w g2 =>retF (.ret w g2))) = some v) : (geOf tab (k + 1)).fn "_law_cut" [.bytes ks] [] = some v:=fn_sh (r:=R56) (by kernel_rfl) (by kernel_rfl) h
theorem sht_law_cut {k : Nat} {ks : List Int} {fs : List V} {i : Int} {ex : Gam} {v : Bool} (h : (let G:=geOf tab k; (bltV "len" [.bytes ks]).bind fun v1 =>(cmpV .Lt (.int i) v1).bind fun b2 =>some b2) = some v) : evT 37 (wt (geOf tab k)) R56.sc (("octets",.val (.bytes ks)) :: ("found",.own fs) :: ("at",.val (.int i)) :: ex) (testOf (sAt (blk R56.body []) 1)) = some v:=test_sh (by kernel_rfl) h
theorem shb_law_cut {k : Nat} {ks : List Int} {fs : List V} {i : Int} {ex : Gam} {P : Fl → Prop} (h : Out (let G:=geOf tab k; (itemsV (.tup [.int 2,.int 3,.int 4])).bind fun xs1 =>(forX 34 (wt G) R56.sc R56.mu (testOf (sAt (blk R56.body [1]) 1)) (blk R56.body [1,1]) xs1 (("octets",.val (.bytes ks)) :: ("found",.own fs) :: ("at",.val (.int i)) :: (setL "size" (AV.val (.int 1)) ex))).bind fun fl2 =>flC fl2 (fun g3 =>exsK 35 (wt G) R56.sc R56.mu g3 ((blk R56.body [1]).drop 2) some) (fun g3 =>some (.brk g3)) (fun w g3 =>some (.ret w g3))) P) : Out (exs 37 (wt (geOf tab k)) R56.sc R56.mu (blk R56.body [1]) (("octets",.val (.bytes ks)) :: ("found",.own fs) :: ("at",.val (.int i)) :: ex)) P:=body_sh (by kernel_rfl) h
theorem sha_law_cut {k : Nat} {ks : List Int} {fs : List V} {i : Int} {ex : Gam} {v : Option (V)} (h : (let G:=geOf tab k; some (.list fs)) = v) : exsK 38 (wt (geOf tab k)) R56.sc R56.mu (("octets",.val (.bytes ks)) :: ("found",.own fs) :: ("at",.val (.int i)) :: ex) ((blk R56.body []).drop 2) retF = v:=Eq.trans (by kernel_rfl) h
theorem shb_law_cut_in {k : Nat} {ks : List Int} {fs : List V} {i : Int} {ex : Gam} {P : Fl → Prop} (h : Out (let G:=geOf tab k; (valOf (List.lookup ("more" : Str) ex)).bind fun v1 =>(binV .Add (.int i) v1).bind fun v2 =>(bltV "len" [.bytes ks]).bind fun v3 =>(cmpV .LtE v2 v3).bind fun b4 =>cond b4 ((partV (some (.int i))).bind fun p5 =>(valOf (List.lookup ("more" : Str) ex)).bind fun v6 =>(binV .Add (.int i) v6).bind fun v7 =>(partV (some v7)).bind fun p8 =>(sliceV (.bytes ks) p5 p8).bind fun v9 =>(orO (G.fn "_law_is_begun" [v9] []) (bltV "_law_is_begun" [v9])).bind fun v10 =>(V.tru v10).bind fun b11 =>cond b11 ((valOf (List.lookup ("more" : Str) ex)).bind fun v12 =>some (.next (("octets",.val (.bytes ks)) :: ("found",.own fs) :: ("at",.val (.int i)) :: (setL "size" (AV.val v12) ex)))) (some (.next (("octets",.val (.bytes ks)) :: ("found",.own fs) :: ("at",.val (.int i)) :: ex)))) (some (.next (("octets",.val (.bytes ks)) :: ("found",.own fs) :: ("at",.val (.int i)) :: ex)))) P) : Out (exs 34 (wt (geOf tab k)) R56.sc R56.mu (blk R56.body [1,1]) (("octets",.val (.bytes ks)) :: ("found",.own fs) :: ("at",.val (.int i)) :: ex)) P:=body_sh (by kernel_rfl) h
theorem sha_law_cut_in {k : Nat} {ks : List Int} {fs : List V} {i : Int} {ex : Gam} {v : Option (Fl)} (h : (let G:=geOf tab k; (partV (some (.int i))).bind fun p1 =>(valOf (List.lookup ("size" : Str) ex)).bind fun v2 =>(binV .Add (.int i) v2).bind fun v3 =>(partV (some v3)).bind fun p4 =>(sliceV (.bytes ks) p1 p4).bind fun v5 =>if fs.length < lid then (valOf (List.lookup ("size" : Str) ex)).bind fun v6 =>(binV .Add (.int i) v6).bind fun v7 =>some (.next (("octets",.val (.bytes ks)) :: ("found",.own (fs ++ [v5])) :: ("at",.val v7) :: ex)) else Option.none) = v) : exsK 35 (wt (geOf tab k)) R56.sc R56.mu (("octets",.val (.bytes ks)) :: ("found",.own fs) :: ("at",.val (.int i)) :: ex) ((blk R56.body [1]).drop 2) some = v:=Eq.trans (by kernel_rfl) h
theorem sh_law_written {k : Nat} {x : Int} {v : V} (h : (let G:=geOf tab k; cond (decide (x < 128)) ((bltV "bytes" [.list [.int x]]).bind fun v1 =>some v1) (cond (decide (x < 2048)) ((iterV "range" [.int (2 - 1)]).bind fun xs2 =>(forX 35 (wt G) R57.sc R57.mu (testOf (sAt (blk R57.body []) 3)) (blk R57.body [3]) xs2 [("code",.val (.int x)),("size",.val (.int 2)),("found",.val (.list []))]).bind fun fl3 =>flC fl3 (fun g4 =>exsK 36 (wt G) R57.sc R57.mu g4 ((blk R57.body []).drop 4) retF) (fun g4 =>retF (.brk g4)) (fun w g4 =>retF (.ret w g4))) (cond (decide (x < 65536)) ((iterV "range" [.int (3 - 1)]).bind fun xs5 =>(forX 35 (wt G) R57.sc R57.mu (testOf (sAt (blk R57.body []) 3)) (blk R57.body [3]) xs5 [("code",.val (.int x)),("size",.val (.int 3)),("found",.val (.list []))]).bind fun fl6 =>flC fl6 (fun g7 =>exsK 36 (wt G) R57.sc R57.mu g7 ((blk R57.body []).drop 4) retF) (fun g7 =>retF (.brk g7)) (fun w g7 =>retF (.ret w g7))) ((iterV "range" [.int (4 - 1)]).bind fun xs8 =>(forX 35 (wt G) R57.sc R57.mu (testOf (sAt (blk R57.body []) 3)) (blk R57.body [3]) xs8 [("code",.val (.int x)),("size",.val (.int 4)),("found",.val (.list []))]).bind fun fl9 =>flC fl9 (fun g10 =>exsK 36 (wt G) R57.sc R57.mu g10 ((blk R57.body []).drop 4) retF) (fun g10 =>retF (.brk g10)) (fun w g10 =>retF (.ret w g10)))))) = some v) : (geOf tab (k + 1)).fn "_law_written" [.int x] [] = some v:=fn_sh (r:=R57) (by kernel_rfl) (by kernel_rfl) h
theorem shb_law_written {k : Nat} {x s : Int} {fs : List V} {ex : Gam} {P : Fl → Prop} (h : Out (let G:=geOf tab k; (binV .Mod (.int x) (.int 64)).bind fun v1 =>(binV .Add (.int 128) v1).bind fun v2 =>(binV .Add (.list [v2]) (.list fs)).bind fun v3 =>(binV .FloorDiv (.int x) (.int 64)).bind fun v4 =>some (.next (("code",.val v4) :: ("size",.val (.int s)) :: ("found",.val v3) :: ex))) P) : Out (exs 35 (wt (geOf tab k)) R57.sc R57.mu (blk R57.body [3]) (("code",.val (.int x)) :: ("size",.val (.int s)) :: ("found",.val (.list fs)) :: ex)) P:=body_sh (by kernel_rfl) h
theorem sha_law_written {k : Nat} {x s : Int} {fs : List V} {ex : Gam} {v : Option (V)} (h : (let G:=geOf tab k; (dictV [2,3,4] [.int 192,.int 224,.int 240] (.int s)).bind fun v1 =>(binV .Add v1 (.int x)).bind fun v2 =>(binV .Add (.list [v2]) (.list fs)).bind fun v3 =>(bltV "bytes" [v3]).bind fun v4 =>some v4) = v) : exsK 36 (wt (geOf tab k)) R57.sc R57.mu (("code",.val (.int x)) :: ("size",.val (.int s)) :: ("found",.val (.list fs)) :: ex) ((blk R57.body []).drop 4) retF = v:=Eq.trans (by kernel_rfl) h
theorem sh_law_codes {k : Nat} {ks : List Int} {last : Bool} {v : V} (h : (let G:=geOf tab k; (orO (G.fn "_law_cut" [.bytes ks] []) (bltV "_law_cut" [.bytes ks])).bind fun v1 =>cond (!last) ((cmpV .NotEq v1 (.list [])).bind fun b2 =>cond b2 ((itemV v1 (.int (-1))).bind fun v3 =>(orO (G.fn "_law_code" [v3] []) (bltV "_law_code" [v3])).bind fun v4 =>cond (isNoneV v4) ((itemV v1 (.int (-1))).bind fun v5 =>(orO (G.fn "_law_is_begun" [v5] []) (bltV "_law_is_begun" [v5])).bind fun v6 =>(V.tru v6).bind fun b7 =>cond b7 ((partV (some (.int (-1)))).bind fun p8 =>(sliceV v1 Option.none p8).bind fun v9 =>(itemsV v9).bind fun xs10 =>if xs10.length ≤ lid then (compV (fun x11 =>(orO (G.fn "_law_code" [x11] []) (bltV "_law_code" [x11])).bind fun v12 =>some (some v12)) xs10).bind fun v13 =>(itemsV (.list v13)).bind fun xs14 =>if xs14.length ≤ lid then (compV (fun x15 =>cond (!isNoneV x15) (some (some x15)) (some (some (V.int 65533)))) xs14).bind fun v16 =>some (.list v16) else Option.none else Option.none) ((itemsV v1).bind fun xs17 =>if xs17.length ≤ lid then (compV (fun x18 =>(orO (G.fn "_law_code" [x18] []) (bltV "_law_code" [x18])).bind fun v19 =>some (some v19)) xs17).bind fun v20 =>(itemsV (.list v20)).bind fun xs21 =>if xs21.length ≤ lid then (compV (fun x22 =>cond (!isNoneV x22) (some (some x22)) (some (some (V.int 65533)))) xs21).bind fun v23 =>some (.list v23) else Option.none else Option.none)) ((itemsV v1).bind fun xs24 =>if xs24.length ≤ lid then (compV (fun x25 =>(orO (G.fn "_law_code" [x25] []) (bltV "_law_code" [x25])).bind fun v26 =>some (some v26)) xs24).bind fun v27 =>(itemsV (.list v27)).bind fun xs28 =>if xs28.length ≤ lid then (compV (fun x29 =>cond (!isNoneV x29) (some (some x29)) (some (some (V.int 65533)))) xs28).bind fun v30 =>some (.list v30) else Option.none else Option.none)) ((itemsV v1).bind fun xs31 =>if xs31.length ≤ lid then (compV (fun x32 =>(orO (G.fn "_law_code" [x32] []) (bltV "_law_code" [x32])).bind fun v33 =>some (some v33)) xs31).bind fun v34 =>(itemsV (.list v34)).bind fun xs35 =>if xs35.length ≤ lid then (compV (fun x36 =>cond (!isNoneV x36) (some (some x36)) (some (some (V.int 65533)))) xs35).bind fun v37 =>some (.list v37) else Option.none else Option.none)) ((itemsV v1).bind fun xs38 =>if xs38.length ≤ lid then (compV (fun x39 =>(orO (G.fn "_law_code" [x39] []) (bltV "_law_code" [x39])).bind fun v40 =>some (some v40)) xs38).bind fun v41 =>(itemsV (.list v41)).bind fun xs42 =>if xs42.length ≤ lid then (compV (fun x43 =>cond (!isNoneV x43) (some (some x43)) (some (some (V.int 65533)))) xs42).bind fun v44 =>some (.list v44) else Option.none else Option.none)) = some v) : (geOf tab (k + 1)).fn "_law_codes" [.bytes ks,.bool last] [] = some v:=fn_sh (r:=R58) (by kernel_rfl) (by kernel_rfl) h
theorem sh_law_halves {k : Nat} {ks : List Int} {v : V} (h : (let G:=geOf tab k; (bltV "len" [.bytes ks]).bind fun v1 =>(binV .Sub v1 (.int 1)).bind fun v2 =>(iterV "range" [.int 0,v2,.int 2]).bind fun xs3 =>if xs3.length ≤ lid then (compV (fun x4 =>(itemV (.bytes ks) x4).bind fun v5 =>(binV .Mult (.int 256) v5).bind fun v6 =>(binV .Add x4 (.int 1)).bind fun v7 =>(itemV (.bytes ks) v7).bind fun v8 =>(binV .Add v6 v8).bind fun v9 =>some (some v9)) xs3).bind fun v10 =>(whileX 36 (wt G) R59.sc R59.mu (testOf (sAt (blk R59.body []) 2)) (blk R59.body [2]) 65536 [("octets",.val (.bytes ks)),("units",.val (.list v10)),("found",.own []),("k",.val (.int 0))]).bind fun fl11 =>flC fl11 (fun g12 =>exsK 37 (wt G) R59.sc R59.mu g12 ((blk R59.body []).drop 3) retF) (fun g12 =>retF (.brk g12)) (fun w g12 =>retF (.ret w g12)) else Option.none) = some v) : (geOf tab (k + 1)).fn "_law_halves" [.bytes ks] [] = some v:=fn_sh (r:=R59) (by kernel_rfl) (by kernel_rfl) h
theorem sht_law_halves {k : Nat} {ks : List Int} {us fs : List V} {i : Int} {ex : Gam} {v : Bool} (h : (let G:=geOf tab k; (bltV "len" [.list us]).bind fun v1 =>(cmpV .Lt (.int i) v1).bind fun b2 =>some b2) = some v) : evT 36 (wt (geOf tab k)) R59.sc (("octets",.val (.bytes ks)) :: ("units",.val (.list us)) :: ("found",.own fs) :: ("k",.val (.int i)) :: ex) (testOf (sAt (blk R59.body []) 2)) = some v:=test_sh (by kernel_rfl) h
theorem shb_law_halves {k : Nat} {ks : List Int} {us fs : List V} {i : Int} {ex : Gam} {P : Fl → Prop} (h : Out (let G:=geOf tab k; (itemV (.list us) (.int i)).bind fun v1 =>(cmpV .LtE (.int 55296) v1).bind fun b2 =>cond b2 ((cmpV .Lt v1 (.int 56320)).bind fun b3 =>cond b3 ((bltV "len" [.list us]).bind fun v4 =>(cmpV .Lt (.int (i + 1)) v4).bind fun b5 =>cond b5 ((itemV (.list us) (.int (i + 1))).bind fun v6 =>(cmpV .LtE (.int 56320) v6).bind fun b7 =>cond b7 ((cmpV .Lt v6 (.int 57344)).bind fun b8 =>cond b8 ((itemV (.list us) (.int i)).bind fun v9 =>(binV .Sub v9 (.int 55296)).bind fun v10 =>(binV .Mult (.int 1024) v10).bind fun v11 =>(binV .Add (.int 65536) v11).bind fun v12 =>(itemV (.list us) (.int (i + 1))).bind fun v13 =>(binV .Add v12 v13).bind fun v14 =>(binV .Sub v14 (.int 56320)).bind fun v15 =>if fs.length < lid then some (.next (("octets",.val (.bytes ks)) :: ("units",.val (.list us)) :: ("found",.own (fs ++ [v15])) :: ("k",.val (.int ((i + 1) + 1))) :: ex)) else Option.none) ((itemV (.list us) (.int i)).bind fun v16 =>(cmpV .LtE (.int 55296) v16).bind fun b17 =>cond b17 ((cmpV .Lt v16 (.int 57344)).bind fun b18 =>cond b18 (if fs.length < lid then some (.next (("octets",.val (.bytes ks)) :: ("units",.val (.list us)) :: ("found",.own (fs ++ [.int 65533])) :: ("k",.val (.int (i + 1))) :: ex)) else Option.none) ((itemV (.list us) (.int i)).bind fun v19 =>if fs.length < lid then some (.next (("octets",.val (.bytes ks)) :: ("units",.val (.list us)) :: ("found",.own (fs ++ [v19])) :: ("k",.val (.int (i + 1))) :: ex)) else Option.none)) ((itemV (.list us) (.int i)).bind fun v20 =>if fs.length < lid then some (.next (("octets",.val (.bytes ks)) :: ("units",.val (.list us)) :: ("found",.own (fs ++ [v20])) :: ("k",.val (.int (i + 1))) :: ex)) else Option.none))) ((itemV (.list us) (.int i)).bind fun v21 =>(cmpV .LtE (.int 55296) v21).bind fun b22 =>cond b22 ((cmpV .Lt v21 (.int 57344)).bind fun b23 =>cond b23 (if fs.length < lid then some (.next (("octets",.val (.bytes ks)) :: ("units",.val (.list us)) :: ("found",.own (fs ++ [.int 65533])) :: ("k",.val (.int (i + 1))) :: ex)) else Option.none) ((itemV (.list us) (.int i)).bind fun v24 =>if fs.length < lid then some (.next (("octets",.val (.bytes ks)) :: ("units",.val (.list us)) :: ("found",.own (fs ++ [v24])) :: ("k",.val (.int (i + 1))) :: ex)) else Option.none)) ((itemV (.list us) (.int i)).bind fun v25 =>if fs.length < lid then some (.next (("octets",.val (.bytes ks)) :: ("units",.val (.list us)) :: ("found",.own (fs ++ [v25])) :: ("k",.val (.int (i + 1))) :: ex)) else Option.none))) ((itemV (.list us) (.int i)).bind fun v26 =>(cmpV .LtE (.int 55296) v26).bind fun b27 =>cond b27 ((cmpV .Lt v26 (.int 57344)).bind fun b28 =>cond b28 (if fs.length < lid then some (.next (("octets",.val (.bytes ks)) :: ("units",.val (.list us)) :: ("found",.own (fs ++ [.int 65533])) :: ("k",.val (.int (i + 1))) :: ex)) else Option.none) ((itemV (.list us) (.int i)).bind fun v29 =>if fs.length < lid then some (.next (("octets",.val (.bytes ks)) :: ("units",.val (.list us)) :: ("found",.own (fs ++ [v29])) :: ("k",.val (.int (i + 1))) :: ex)) else Option.none)) ((itemV (.list us) (.int i)).bind fun v30 =>if fs.length < lid then some (.next (("octets",.val (.bytes ks)) :: ("units",.val (.list us)) :: ("found",.own (fs ++ [v30])) :: ("k",.val (.int (i + 1))) :: ex)) else Option.none))) ((itemV (.list us) (.int i)).bind fun v31 =>(cmpV .LtE (.int 55296) v31).bind fun b32 =>cond b32 ((cmpV .Lt v31 (.int 57344)).bind fun b33 =>cond b33 (if fs.length < lid then some (.next (("octets",.val (.bytes ks)) :: ("units",.val (.list us)) :: ("found",.own (fs ++ [.int 65533])) :: ("k",.val (.int (i + 1))) :: ex)) else Option.none) ((itemV (.list us) (.int i)).bind fun v34 =>if fs.length < lid then some (.next (("octets",.val (.bytes ks)) :: ("units",.val (.list us)) :: ("found",.own (fs ++ [v34])) :: ("k",.val (.int (i + 1))) :: ex)) else Option.none)) ((itemV (.list us) (.int i)).bind fun v35 =>if fs.length < lid then some (.next (("octets",.val (.bytes ks)) :: ("units",.val (.list us)) :: ("found",.own (fs ++ [v35])) :: ("k",.val (.int (i + 1))) :: ex)) else Option.none))) ((itemV (.list us) (.int i)).bind fun v36 =>(cmpV .LtE (.int 55296) v36).bind fun b37 =>cond b37 ((cmpV .Lt v36 (.int 57344)).bind fun b38 =>cond b38 (if fs.length < lid then some (.next (("octets",.val (.bytes ks)) :: ("units",.val (.list us)) :: ("found",.own (fs ++ [.int 65533])) :: ("k",.val (.int (i + 1))) :: ex)) else Option.none) ((itemV (.list us) (.int i)).bind fun v39 =>if fs.length < lid then some (.next (("octets",.val (.bytes ks)) :: ("units",.val (.list us)) :: ("found",.own (fs ++ [v39])) :: ("k",.val (.int (i + 1))) :: ex)) else Option.none)) ((itemV (.list us) (.int i)).bind fun v40 =>if fs.length < lid then some (.next (("octets",.val (.bytes ks)) :: ("units",.val (.list us)) :: ("found",.own (fs ++ [v40])) :: ("k",.val (.int (i + 1))) :: ex)) else Option.none))) P) : Out (exs 36 (wt (geOf tab k)) R59.sc R59.mu (blk R59.body [2]) (("octets",.val (.bytes ks)) :: ("units",.val (.list us)) :: ("found",.own fs) :: ("k",.val (.int i)) :: ex)) P:=body_sh (by kernel_rfl) h
theorem sha_law_halves {k : Nat} {ks : List Int} {us fs : List V} {i : Int} {ex : Gam} {v : Option (V)} (h : (let G:=geOf tab k; (bltV "len" [.bytes ks]).bind fun v1 =>(binV .Mod v1 (.int 2)).bind fun v2 =>(binV .Mult (.list [.int 65533]) v2).bind fun v3 =>(binV .Add (.list fs) v3).bind fun v4 =>some v4) = v) : exsK 37 (wt (geOf tab k)) R59.sc R59.mu (("octets",.val (.bytes ks)) :: ("units",.val (.list us)) :: ("found",.own fs) :: ("k",.val (.int i)) :: ex) ((blk R59.body []).drop 3) retF = v:=Eq.trans (by kernel_rfl) h
theorem sh_law_units {k : Nat} {ks : List Int} {last : Bool} {v : V} (h : (let G:=geOf tab k; cond last ((orO (G.fn "_law_halves" [.bytes ks] []) (bltV "_law_halves" [.bytes ks])).bind fun v1 =>some v1) ((bltV "len" [.bytes ks]).bind fun v2 =>(binV .FloorDiv v2 (.int 2)).bind fun v3 =>(binV .Mult v3 (.int 2)).bind fun v4 =>(partV (some v4)).bind fun p5 =>(sliceV (.bytes ks) Option.none p5).bind fun v6 =>(cmpV .NotEq v6 (.bytes [])).bind fun b7 =>cond b7 ((itemV v6 (.int (-2))).bind fun v8 =>(cmpV .LtE (.int 216) v8).bind fun b9 =>cond b9 ((cmpV .Lt v8 (.int 220)).bind fun b10 =>cond b10 ((partV (some (.int (-2)))).bind fun p11 =>(sliceV v6 Option.none p11).bind fun v12 =>(orO (G.fn "_law_halves" [v12] []) (bltV "_law_halves" [v12])).bind fun v13 =>some v13) ((orO (G.fn "_law_halves" [v6] []) (bltV "_law_halves" [v6])).bind fun v14 =>some v14)) ((orO (G.fn "_law_halves" [v6] []) (bltV "_law_halves" [v6])).bind fun v15 =>some v15)) ((orO (G.fn "_law_halves" [v6] []) (bltV "_law_halves" [v6])).bind fun v16 =>some v16))) = some v) : (geOf tab (k + 1)).fn "_law_units" [.bytes ks,.bool last] [] = some v:=fn_sh (r:=R60) (by kernel_rfl) (by kernel_rfl) h
theorem sh_law_wide {k : Nat} {xs : List V} {s : Int} {o : Str} {v : V} (h : (let G:=geOf tab k; (itemsV (.list xs)).bind fun xs1 =>(forX 37 (wt G) R61.sc R61.mu (testOf (sAt (blk R61.body []) 1)) (blk R61.body [1]) xs1 [("text",.val (.list xs)),("size",.val (.int s)),("order",.val (.str o)),("found",.val (.bytes []))]).bind fun fl2 =>flC fl2 (fun g3 =>exsK 38 (wt G) R61.sc R61.mu g3 ((blk R61.body []).drop 2) retF) (fun g3 =>retF (.brk g3)) (fun w g3 =>retF (.ret w g3))) = some v) : (geOf tab (k + 1)).fn "_law_wide" [.list xs,.int s,.str o] [] = some v:=fn_sh (r:=R61) (by kernel_rfl) (by kernel_rfl) h
theorem shb_law_wide {k : Nat} {xs : List V} {s : Int} {o : Str} {fs : List Int} {ex : Gam} {P : Fl → Prop} (h : Out (let G:=geOf tab k; (valOf (List.lookup ("code" : Str) ex)).bind fun v1 =>cond ((s == 2)) ((valOf (List.lookup ("code" : Str) (setL "units" (AV.val (.list [v1])) ex))).bind fun v2 =>(cmpV .Gt v2 (.int 65535)).bind fun b3 =>cond b3 ((valOf (List.lookup ("code" : Str) (setL "units" (AV.val (.list [v1])) ex))).bind fun v4 =>(binV .Sub v4 (.int 65536)).bind fun v5 =>(binV .FloorDiv v5 (.int 1024)).bind fun v6 =>(binV .Add (.int 55296) v6).bind fun v7 =>(valOf (List.lookup ("code" : Str) (setL "units" (AV.val (.list [v1])) ex))).bind fun v8 =>(binV .Mod v8 (.int 1024)).bind fun v9 =>(binV .Add (.int 56320) v9).bind fun v10 =>(valOf (List.lookup ("units" : Str) (setL "units" (AV.val (.list [v7,v10])) (setL "units" (AV.val (.list [v1])) ex)))).bind fun v11 =>(itemsV v11).bind fun xs12 =>(forX 33 (wt G) R61.sc R61.mu (testOf (sAt (blk R61.body [1]) 2)) (blk R61.body [1,2]) xs12 (("text",.val (.list xs)) :: ("size",.val (.int s)) :: ("order",.val (.str o)) :: ("found",.val (.bytes fs)) :: (setL "units" (AV.val (.list [v7,v10])) (setL "units" (AV.val (.list [v1])) ex)))).bind fun fl13 =>flC fl13 (fun g14 =>exsK 34 (wt G) R61.sc R61.mu g14 ((blk R61.body [1]).drop 3) some) (fun g14 =>some (.brk g14)) (fun w g14 =>some (.ret w g14))) ((valOf (List.lookup ("units" : Str) (setL "units" (AV.val (.list [v1])) ex))).bind fun v15 =>(itemsV v15).bind fun xs16 =>(forX 33 (wt G) R61.sc R61.mu (testOf (sAt (blk R61.body [1]) 2)) (blk R61.body [1,2]) xs16 (("text",.val (.list xs)) :: ("size",.val (.int s)) :: ("order",.val (.str o)) :: ("found",.val (.bytes fs)) :: (setL "units" (AV.val (.list [v1])) ex))).bind fun fl17 =>flC fl17 (fun g18 =>exsK 34 (wt G) R61.sc R61.mu g18 ((blk R61.body [1]).drop 3) some) (fun g18 =>some (.brk g18)) (fun w g18 =>some (.ret w g18)))) ((valOf (List.lookup ("units" : Str) (setL "units" (AV.val (.list [v1])) ex))).bind fun v19 =>(itemsV v19).bind fun xs20 =>(forX 33 (wt G) R61.sc R61.mu (testOf (sAt (blk R61.body [1]) 2)) (blk R61.body [1,2]) xs20 (("text",.val (.list xs)) :: ("size",.val (.int s)) :: ("order",.val (.str o)) :: ("found",.val (.bytes fs)) :: (setL "units" (AV.val (.list [v1])) ex))).bind fun fl21 =>flC fl21 (fun g22 =>exsK 34 (wt G) R61.sc R61.mu g22 ((blk R61.body [1]).drop 3) some) (fun g22 =>some (.brk g22)) (fun w g22 =>some (.ret w g22)))) P) : Out (exs 37 (wt (geOf tab k)) R61.sc R61.mu (blk R61.body [1]) (("text",.val (.list xs)) :: ("size",.val (.int s)) :: ("order",.val (.str o)) :: ("found",.val (.bytes fs)) :: ex)) P:=body_sh (by kernel_rfl) h
theorem sha_law_wide {k : Nat} {xs : List V} {s : Int} {o : Str} {fs : List Int} {ex : Gam} {v : Option (V)} (h : (let G:=geOf tab k; some (.bytes fs)) = v) : exsK 38 (wt (geOf tab k)) R61.sc R61.mu (("text",.val (.list xs)) :: ("size",.val (.int s)) :: ("order",.val (.str o)) :: ("found",.val (.bytes fs)) :: ex) ((blk R61.body []).drop 2) retF = v:=Eq.trans (by kernel_rfl) h
theorem shb_law_wide_in {k : Nat} {xs : List V} {s : Int} {o : Str} {fs : List Int} {ex : Gam} {P : Fl → Prop} (h : Out (let G:=geOf tab k; (valOf (List.lookup ("unit" : Str) ex)).bind fun v1 =>(binV .FloorDiv v1 (.int 16777216)).bind fun v2 =>(valOf (List.lookup ("unit" : Str) ex)).bind fun v3 =>(binV .FloorDiv v3 (.int 65536)).bind fun v4 =>(binV .Mod v4 (.int 256)).bind fun v5 =>(valOf (List.lookup ("unit" : Str) ex)).bind fun v6 =>(binV .FloorDiv v6 (.int 256)).bind fun v7 =>(binV .Mod v7 (.int 256)).bind fun v8 =>(valOf (List.lookup ("unit" : Str) ex)).bind fun v9 =>(binV .Mod v9 (.int 256)).bind fun v10 =>(bltV "bytes" [.list [v2,v5,v8,v10]]).bind fun v11 =>(partV (some (.int (4 - s)))).bind fun p12 =>(sliceV v11 p12 Option.none).bind fun v13 =>cond (o == ("be" : Str)) ((valOf (List.lookup ("octets" : Str) (setL "octets" (AV.val v13) ex))).bind fun v14 =>(binV .Add (.bytes fs) v14).bind fun v15 =>some (.next (("text",.val (.list xs)) :: ("size",.val (.int s)) :: ("order",.val (.str o)) :: ("found",.val v15) :: (setL "octets" (AV.val v13) ex)))) (((valOf (List.lookup ("octets" : Str) (setL "octets" (AV.val v13) ex))).bind revV).bind fun v16 =>(binV .Add (.bytes fs) v16).bind fun v17 =>some (.next (("text",.val (.list xs)) :: ("size",.val (.int s)) :: ("order",.val (.str o)) :: ("found",.val v17) :: (setL "octets" (AV.val v13) ex))))) P) : Out (exs 33 (wt (geOf tab k)) R61.sc R61.mu (blk R61.body [1,2]) (("text",.val (.list xs)) :: ("size",.val (.int s)) :: ("order",.val (.str o)) :: ("found",.val (.bytes fs)) :: ex)) P:=body_sh (by kernel_rfl) h
theorem sha_law_wide_in {k : Nat} {xs : List V} {s : Int} {o : Str} {fs : List Int} {ex : Gam} {v : Option (Fl)} (h : (let G:=geOf tab k; some (.next (("text",.val (.list xs)) :: ("size",.val (.int s)) :: ("order",.val (.str o)) :: ("found",.val (.bytes fs)) :: ex))) = v) : exsK 34 (wt (geOf tab k)) R61.sc R61.mu (("text",.val (.list xs)) :: ("size",.val (.int s)) :: ("order",.val (.str o)) :: ("found",.val (.bytes fs)) :: ex) ((blk R61.body [1]).drop 3) some = v:=Eq.trans (by kernel_rfl) h
theorem sh_law_pieces {k : Nat} {ks : List Int} {xs : List V} {v : V} (h : (let G:=geOf tab k; (itemsV (.list xs)).bind fun xs1 =>if xs1.length ≤ lid then (compV (fun x2 =>(bltV "len" [.bytes ks]).bind fun v3 =>(binV .Add v3 (.int 1)).bind fun v4 =>(binV .Mod x2 v4).bind fun v5 =>some (some v5)) xs1).bind fun v6 =>(bltV "sorted" [.list v6]).bind fun v7 =>(binV .Add (.list [.int 0]) v7).bind fun v8 =>(bltV "len" [.bytes ks]).bind fun v9 =>(binV .Add v8 (.list [v9])).bind fun v10 =>(bltV "len" [v10]).bind fun v11 =>(binV .Sub v11 (.int 1)).bind fun v12 =>(iterV "range" [v12]).bind fun xs13 =>if xs13.length ≤ lid then (compV (fun x14 =>(itemV v10 x14).bind fun v15 =>(partV (some v15)).bind fun p16 =>(binV .Add x14 (.int 1)).bind fun v17 =>(itemV v10 v17).bind fun v18 =>(partV (some v18)).bind fun p19 =>(sliceV (.bytes ks) p16 p19).bind fun v20 =>some (some v20)) xs13).bind fun v21 =>some (.list v21) else Option.none else Option.none) = some v) : (geOf tab (k + 1)).fn "_law_pieces" [.bytes ks,.list xs] [] = some v:=fn_sh (r:=R62) (by kernel_rfl) (by kernel_rfl) h
theorem sh_law_streams_right {k : Nat} {ks : List Int} {xs : List V} {v : V} (h : (let G:=geOf tab k; (clsC (G.cls "Utf8Stream" []) (fun fl1 =>(clsC (G.cls "Utf16Stream" [.str "be",.bool false]) (fun fl2 =>(orO (G.fn "_law_pieces" [.bytes ks,.list xs] []) (bltV "_law_pieces" [.bytes ks,.list xs])).bind fun v3 =>((listOf v3).bind fun zz =>if zz.length ≤ lid then forX 36 (wt G) R63.sc R63.mu (testOf (sAt (blk R63.body []) 2)) (blk R63.body [2]) (enumL 0 zz) [("octets",.val (.bytes ks)),("ends",.val (.list xs)),("near",.inst "Utf8Stream" fl1),("far",.inst "Utf16Stream" fl2),("told",.val (.list [])),("units",.val (.list [])),("came",.val (.bytes [])),("lots",.val v3)] else Option.none).bind fun fl4 =>flC fl4 (fun g5 =>exsK 37 (wt G) R63.sc R63.mu g5 ((blk R63.body []).drop 3) retF) (fun g5 =>retF (.brk g5)) (fun w g5 =>retF (.ret w g5))) (Option.none))) (Option.none))) = some v) : (geOf tab (k + 1)).fn "_law_streams_right" [.bytes ks,.list xs] [] = some v:=fn_sh (r:=R63) (by kernel_rfl) (by kernel_rfl) h
theorem shb_streams {k : Nat} {ks c : List Int} {xs ts us ls : List V} {f1 f2 : List (Str × V)} {ex : Gam} {P : Fl → Prop} (h : Out (let G:=geOf tab k; (valOf (List.lookup ("piece" : Str) ex)).bind fun v1 =>(binV .Add (.bytes c) v1).bind fun v2 =>(valOf (List.lookup ("k" : Str) ex)).bind fun v3 =>(bltV "len" [.list ls]).bind fun v4 =>(binV .Sub v4 (.int 1)).bind fun v5 =>(cmpV .Eq v3 v5).bind fun b6 =>(valOf (List.lookup ("piece" : Str) (setL "is_last" (AV.val (.bool b6)) ex))).bind fun v7 =>(valOf (List.lookup ("is_last" : Str) (setL "is_last" (AV.val (.bool b6)) ex))).bind fun v8 =>if (List.lookup ("feed" : Str) f1).isNone = true then (G.mth "Utf8Stream" "feed" f1 [v7,v8]).bind fun r1284 =>(listOf r1284.1).bind fun zs1285 =>if ts.length + zs1285.length ≤ lid then (valOf (List.lookup ("piece" : Str) (setL "is_last" (AV.val (.bool b6)) ex))).bind fun v9 =>(valOf (List.lookup ("is_last" : Str) (setL "is_last" (AV.val (.bool b6)) ex))).bind fun v10 =>if (List.lookup ("feed" : Str) f2).isNone = true then (G.mth "Utf16Stream" "feed" f2 [v9,v10]).bind fun r1288 =>(listOf r1288.1).bind fun zs1289 =>if us.length + zs1289.length ≤ lid then (valOf (List.lookup ("is_last" : Str) (setL "is_last" (AV.val (.bool b6)) ex))).bind fun v11 =>(orO (G.fn "_law_codes" [v2,v11] []) (bltV "_law_codes" [v2,v11])).bind fun v12 =>(cmpV .NotEq (.list (ts ++ zs1285)) v12).bind fun b13 =>cond b13 (some (.ret (V.bool false) (("octets",.val (.bytes ks)) :: ("ends",.val (.list xs)) :: ("near",.inst "Utf8Stream" r1284.2) :: ("far",.inst "Utf16Stream" r1288.2) :: ("told",.val (.list (ts ++ zs1285))) :: ("units",.val (.list (us ++ zs1289))) :: ("came",.val v2) :: ("lots",.val (.list ls)) :: (thaw (setL "is_last" (AV.val (.bool b6)) ex))))) ((valOf (List.lookup ("is_last" : Str) (setL "is_last" (AV.val (.bool b6)) ex))).bind fun v14 =>(orO (G.fn "_law_units" [v2,v14] []) (bltV "_law_units" [v2,v14])).bind fun v15 =>(cmpV .NotEq (.list (us ++ zs1289)) v15).bind fun b16 =>cond b16 (some (.ret (V.bool false) (("octets",.val (.bytes ks)) :: ("ends",.val (.list xs)) :: ("near",.inst "Utf8Stream" r1284.2) :: ("far",.inst "Utf16Stream" r1288.2) :: ("told",.val (.list (ts ++ zs1285))) :: ("units",.val (.list (us ++ zs1289))) :: ("came",.val v2) :: ("lots",.val (.list ls)) :: (thaw (setL "is_last" (AV.val (.bool b6)) ex))))) (some (.next (("octets",.val (.bytes ks)) :: ("ends",.val (.list xs)) :: ("near",.inst "Utf8Stream" r1284.2) :: ("far",.inst "Utf16Stream" r1288.2) :: ("told",.val (.list (ts ++ zs1285))) :: ("units",.val (.list (us ++ zs1289))) :: ("came",.val v2) :: ("lots",.val (.list ls)) :: (setL "is_last" (AV.val (.bool b6)) ex))))) else Option.none else Option.none else Option.none else Option.none) P) : Out (exs 36 (wt (geOf tab k)) R63.sc R63.mu (blk R63.body [2]) (("octets",.val (.bytes ks)) :: ("ends",.val (.list xs)) :: ("near",.inst "Utf8Stream" f1) :: ("far",.inst "Utf16Stream" f2) :: ("told",.val (.list ts)) :: ("units",.val (.list us)) :: ("came",.val (.bytes c)) :: ("lots",.val (.list ls)) :: ex)) P:=body_sh (by kernel_rfl) h
theorem sha_streams {k : Nat} {ks c : List Int} {xs ts us ls : List V} {f1 f2 : List (Str × V)} {ex : Gam} {v : Option (V)} (h : (let G:=geOf tab k; (orO (G.fn "decode_utf8_replaced" [.bytes ks] []) (bltV "decode_utf8_replaced" [.bytes ks])).bind fun v1 =>(bltV "list" [v1]).bind fun v2 =>(cmpV .NotEq v2 (.list ts)).bind fun b3 =>cond b3 (some (.bool false)) ((orO (G.fn "decode_utf16_replaced" [.bytes ks,.str "be"] []) (bltV "decode_utf16_replaced" [.bytes ks,.str "be"])).bind fun v4 =>(bltV "list" [v4]).bind fun v5 =>(cmpV .Eq v5 (.list us)).bind fun b6 =>some (.bool b6))) = v) : exsK 37 (wt (geOf tab k)) R63.sc R63.mu (("octets",.val (.bytes ks)) :: ("ends",.val (.list xs)) :: ("near",.inst "Utf8Stream" f1) :: ("far",.inst "Utf16Stream" f2) :: ("told",.val (.list ts)) :: ("units",.val (.list us)) :: ("came",.val (.bytes c)) :: ("lots",.val (.list ls)) :: ex) ((blk R63.body []).drop 3) retF = v:=Eq.trans (by kernel_rfl) h
theorem sh_law_round_right {k : Nat} {xs es : List V} {o : Str} {v : V} (h : (let G:=geOf tab k; (orO (G.fn "encode_utf8" [.list xs] []) (bltV "encode_utf8" [.list xs])).bind fun v1 =>(itemsV (.list xs)).bind fun xs2 =>if xs2.length ≤ lid then (compV (fun x3 =>(orO (G.fn "_law_written" [x3] []) (bltV "_law_written" [x3])).bind fun v4 =>some (some v4)) xs2).bind fun v5 =>((listOf (.list v5)).bind joinV).bind fun v6 =>(cmpV .NotEq v1 v6).bind fun b7 =>cond b7 (some (.bool false)) ((orO (G.fn "decode_utf8" [v1] []) (bltV "decode_utf8" [v1])).bind fun v8 =>(bltV "list" [v8]).bind fun v9 =>(cmpV .NotEq v9 (.list xs)).bind fun b10 =>cond b10 (some (.bool false)) ((orO (G.fn "encode_utf16" [.list xs,.str o] []) (bltV "encode_utf16" [.list xs,.str o])).bind fun v11 =>(orO (G.fn "_law_wide" [.list xs,.int 2,.str o] []) (bltV "_law_wide" [.list xs,.int 2,.str o])).bind fun v12 =>(cmpV .NotEq v11 v12).bind fun b13 =>cond b13 (some (.bool false)) ((orO (G.fn "encode_utf32" [.list xs,.str o] []) (bltV "encode_utf32" [.list xs,.str o])).bind fun v14 =>(orO (G.fn "_law_wide" [.list xs,.int 4,.str o] []) (bltV "_law_wide" [.list xs,.int 4,.str o])).bind fun v15 =>(cmpV .NotEq v14 v15).bind fun b16 =>cond b16 (some (.bool false)) ((orO (G.fn "encode_utf16" [.list xs,.str o] [("with_mark",.bool true)]) Option.none).bind fun v17 =>(clsC (G.cls "Utf16Stream" []) (fun fl18 =>(orO (G.fn "_law_pieces" [v17,.list es] []) (bltV "_law_pieces" [v17,.list es])).bind fun v19 =>((listOf v19).bind fun zz =>if zz.length ≤ lid then forX 33 (wt G) R64.sc R64.mu (testOf (sAt (blk R64.body []) 5)) (blk R64.body [5]) (enumL 0 zz) [("text",.val (.list xs)),("order",.val (.str o)),("ends",.val (.list es)),("octets",.val v1),("there",.val v17),("home",.val (.list [])),("stream",.inst "Utf16Stream" fl18),("lots",.val v19)] else Option.none).bind fun fl20 =>flC fl20 (fun g21 =>exsK 34 (wt G) R64.sc R64.mu g21 ((blk R64.body []).drop 6) retF) (fun g21 =>retF (.brk g21)) (fun w g21 =>retF (.ret w g21))) (Option.none)))))) else Option.none) = some v) : (geOf tab (k + 1)).fn "_law_round_right" [.list xs,.str o,.list es] [] = some v:=fn_sh (r:=R64) (by kernel_rfl) (by kernel_rfl) h
theorem shb_round {k : Nat} {ks t : List Int} {xs es hs ls : List V} {o : Str} {f1 : List (Str × V)} {ex : Gam} {P : Fl → Prop} (h : Out (let G:=geOf tab k; (valOf (List.lookup ("piece" : Str) ex)).bind fun v1 =>(valOf (List.lookup ("k" : Str) ex)).bind fun v2 =>(bltV "len" [.list ls]).bind fun v3 =>(binV .Sub v3 (.int 1)).bind fun v4 =>(cmpV .Eq v2 v4).bind fun b5 =>if (List.lookup ("feed" : Str) f1).isNone = true then (G.mth "Utf16Stream" "feed" f1 [v1,.bool b5]).bind fun r1377 =>(listOf r1377.1).bind fun zs1378 =>if hs.length + zs1378.length ≤ lid then some (.next (("text",.val (.list xs)) :: ("order",.val (.str o)) :: ("ends",.val (.list es)) :: ("octets",.val (.bytes ks)) :: ("there",.val (.bytes t)) :: ("home",.val (.list (hs ++ zs1378))) :: ("stream",.inst "Utf16Stream" r1377.2) :: ("lots",.val (.list ls)) :: ex)) else Option.none else Option.none) P) : Out (exs 33 (wt (geOf tab k)) R64.sc R64.mu (blk R64.body [5]) (("text",.val (.list xs)) :: ("order",.val (.str o)) :: ("ends",.val (.list es)) :: ("octets",.val (.bytes ks)) :: ("there",.val (.bytes t)) :: ("home",.val (.list hs)) :: ("stream",.inst "Utf16Stream" f1) :: ("lots",.val (.list ls)) :: ex)) P:=body_sh (by kernel_rfl) h
theorem sha_round {k : Nat} {ks t : List Int} {xs es hs ls : List V} {o : Str} {f1 : List (Str × V)} {ex : Gam} {v : Option (V)} (h : (let G:=geOf tab k; (cmpV .NotEq (.list hs) (.list xs)).bind fun b1 =>cond b1 (some (.bool false)) ((orO (G.fn "encode_utf32" [.list xs,.str o] []) (bltV "encode_utf32" [.list xs,.str o])).bind fun v2 =>(orO (G.fn "decode_utf32" [v2,.str o] []) (bltV "decode_utf32" [v2,.str o])).bind fun v3 =>(bltV "list" [v3]).bind fun v4 =>(cmpV .NotEq v4 (.list xs)).bind fun b5 =>cond b5 (some (.bool false)) (cond (o == ("le" : Str)) ((partV (some (.int 1))).bind fun p6 =>(sliceV (.list xs) Option.none p6).bind fun v7 =>(cmpV .Eq v7 (.list [.int 0])).bind fun b8 =>cond b8 ((binV .Add (.bytes [239,187,191]) (.bytes ks)).bind fun v9 =>(orO (G.fn "sniffed" [.bytes t] []) (bltV "sniffed" [.bytes t])).bind fun v10 =>(valOf (List.lookup ("marked" : Str) (setL "marked" (AV.val v9) (setL "word" (AV.val (.str "utf-32le")) ex)))).bind fun v11 =>(orO (G.fn "sniffed" [v11] []) (bltV "sniffed" [v11])).bind fun v12 =>(orO (G.fn "encode_utf32" [.list xs,.str o] [("with_mark",.bool true)]) Option.none).bind fun v13 =>(orO (G.fn "sniffed" [v13] []) (bltV "sniffed" [v13])).bind fun v14 =>(valOf (List.lookup ("word" : Str) (setL "marked" (AV.val v9) (setL "word" (AV.val (.str "utf-32le")) ex)))).bind fun v15 =>(binV .Add (.str "utf-32") (.str o)).bind fun v16 =>(cmpV .NotEq (.list [v10,v12,v14]) (.list [v15,.str "utf-8",v16])).bind fun b17 =>cond b17 (some (.bool false)) ((valOf (List.lookup ("marked" : Str) (thaw (setL "marked" (AV.val v9) (setL "word" (AV.val (.str "utf-32le")) ex))))).bind fun v18 =>(orO (G.fn "unmarked" [v18] []) (bltV "unmarked" [v18])).bind fun v19 =>(bltV "tuple" [v19]).bind fun v20 =>(cmpV .Eq v20 (.tup [.str "utf-8",.bytes ks])).bind fun b21 =>some (.bool b21))) ((binV .Add (.str "utf-16") (.str o)).bind fun v22 =>(binV .Add (.bytes [239,187,191]) (.bytes ks)).bind fun v23 =>(orO (G.fn "sniffed" [.bytes t] []) (bltV "sniffed" [.bytes t])).bind fun v24 =>(valOf (List.lookup ("marked" : Str) (setL "marked" (AV.val v23) (setL "word" (AV.val v22) ex)))).bind fun v25 =>(orO (G.fn "sniffed" [v25] []) (bltV "sniffed" [v25])).bind fun v26 =>(orO (G.fn "encode_utf32" [.list xs,.str o] [("with_mark",.bool true)]) Option.none).bind fun v27 =>(orO (G.fn "sniffed" [v27] []) (bltV "sniffed" [v27])).bind fun v28 =>(valOf (List.lookup ("word" : Str) (setL "marked" (AV.val v23) (setL "word" (AV.val v22) ex)))).bind fun v29 =>(binV .Add (.str "utf-32") (.str o)).bind fun v30 =>(cmpV .NotEq (.list [v24,v26,v28]) (.list [v29,.str "utf-8",v30])).bind fun b31 =>cond b31 (some (.bool false)) ((valOf (List.lookup ("marked" : Str) (thaw (setL "marked" (AV.val v23) (setL "word" (AV.val v22) ex))))).bind fun v32 =>(orO (G.fn "unmarked" [v32] []) (bltV "unmarked" [v32])).bind fun v33 =>(bltV "tuple" [v33]).bind fun v34 =>(cmpV .Eq v34 (.tup [.str "utf-8",.bytes ks])).bind fun b35 =>some (.bool b35)))) ((binV .Add (.str "utf-16") (.str o)).bind fun v36 =>(binV .Add (.bytes [239,187,191]) (.bytes ks)).bind fun v37 =>(orO (G.fn "sniffed" [.bytes t] []) (bltV "sniffed" [.bytes t])).bind fun v38 =>(valOf (List.lookup ("marked" : Str) (setL "marked" (AV.val v37) (setL "word" (AV.val v36) ex)))).bind fun v39 =>(orO (G.fn "sniffed" [v39] []) (bltV "sniffed" [v39])).bind fun v40 =>(orO (G.fn "encode_utf32" [.list xs,.str o] [("with_mark",.bool true)]) Option.none).bind fun v41 =>(orO (G.fn "sniffed" [v41] []) (bltV "sniffed" [v41])).bind fun v42 =>(valOf (List.lookup ("word" : Str) (setL "marked" (AV.val v37) (setL "word" (AV.val v36) ex)))).bind fun v43 =>(binV .Add (.str "utf-32") (.str o)).bind fun v44 =>(cmpV .NotEq (.list [v38,v40,v42]) (.list [v43,.str "utf-8",v44])).bind fun b45 =>cond b45 (some (.bool false)) ((valOf (List.lookup ("marked" : Str) (thaw (setL "marked" (AV.val v37) (setL "word" (AV.val v36) ex))))).bind fun v46 =>(orO (G.fn "unmarked" [v46] []) (bltV "unmarked" [v46])).bind fun v47 =>(bltV "tuple" [v47]).bind fun v48 =>(cmpV .Eq v48 (.tup [.str "utf-8",.bytes ks])).bind fun b49 =>some (.bool b49)))))) = v) : exsK 34 (wt (geOf tab k)) R64.sc R64.mu (("text",.val (.list xs)) :: ("order",.val (.str o)) :: ("ends",.val (.list es)) :: ("octets",.val (.bytes ks)) :: ("there",.val (.bytes t)) :: ("home",.val (.list hs)) :: ("stream",.inst "Utf16Stream" f1) :: ("lots",.val (.list ls)) :: ex) ((blk R64.body []).drop 6) retF = v:=Eq.trans (by kernel_rfl) h
theorem sh_law {k : Nat} {xs : List V} {v : V} (h : (let G:=geOf tab k; (partV (some (.int 11))).bind fun p1 =>(sliceV (.list xs) Option.none p1).bind fun v2 =>(itemsV v2).bind fun xs3 =>if xs3.length ≤ lid then (compV (fun x4 =>(bltV "int" [x4]).bind fun v5 =>some (some v5)) xs3).bind fun v6 =>(cmpV .NotEq (.list v6) (.list [])).bind fun b7 =>cond b7 ((itemV (.list v6) (.int 0)).bind fun v8 =>(partV (some (.int 1))).bind fun p9 =>(partV (some (.int 4))).bind fun p10 =>(sliceV (.list v6) p9 p10).bind fun v11 =>(itemsV v11).bind fun xs12 =>if xs12.length ≤ lid then (compV (fun x13 =>(binV .FloorDiv x13 (.int 7)).bind fun v14 =>some (some v14)) xs12).bind fun v15 =>(binV .Add (.list v15) (.list [.int 1,.int 2])).bind fun v16 =>(partV (some (.int 1))).bind fun p17 =>(sliceV (.list v6) p17 Option.none).bind fun v18 =>(itemsV v18).bind fun xs19 =>if xs19.length ≤ lid then (compV (fun x20 =>(binV .FloorDiv x20 (.int 256)).bind fun v21 =>(binV .Mod v21 (.int 2)).bind fun v22 =>(cmpV .Eq v22 (.int 0)).bind fun b23 =>cond b23 ((binV .Mod x20 (.int 256)).bind fun v24 =>some (some v24)) ((binV .FloorDiv x20 (.int 512)).bind fun v25 =>(binV .Mod v25 (.int 24)).bind fun v26 =>(itemV (.bytes [65,127,128,143,144,159,160,191,192,194,223,224,225,237,239,240,241,244,245,255,216,220,254,0]) v26).bind fun v27 =>some (some v27))) xs19).bind fun v28 =>(bltV "bytes" [.list v28]).bind fun v29 =>(binV .Mod v8 (.int 4)).bind fun v30 =>(binV .Add (.int 1) v30).bind fun v31 =>(partV (some v31)).bind fun p32 =>(sliceV v16 Option.none p32).bind fun v33 =>(orO (G.fn "_law_streams_right" [v29,v33] []) (bltV "_law_streams_right" [v29,v33])).bind fun v34 =>(V.tru v34).bind fun b35 =>cond (!b35) (some (.bool false)) ((orO (G.fn "_law_codes" [v29,.bool true] []) (bltV "_law_codes" [v29,.bool true])).bind fun v36 =>(binV .FloorDiv v8 (.int 4)).bind fun v37 =>(binV .Mod v37 (.int 2)).bind fun v38 =>(cmpV .Eq v38 (.int 0)).bind fun b39 =>cond b39 ((binV .FloorDiv v8 (.int 8)).bind fun v40 =>(binV .Mod v40 (.int 4)).bind fun v41 =>(partV (some v41)).bind fun p42 =>(sliceV v16 Option.none p42).bind fun v43 =>(orO (G.fn "_law_round_right" [v36,.str "be",v43] []) (bltV "_law_round_right" [v36,.str "be",v43])).bind fun v44 =>some v44) ((binV .FloorDiv v8 (.int 8)).bind fun v45 =>(binV .Mod v45 (.int 4)).bind fun v46 =>(partV (some v46)).bind fun p47 =>(sliceV v16 Option.none p47).bind fun v48 =>(orO (G.fn "_law_round_right" [v36,.str "le",v48] []) (bltV "_law_round_right" [v36,.str "le",v48])).bind fun v49 =>some v49)) else Option.none else Option.none) ((partV (some (.int 1))).bind fun p50 =>(partV (some (.int 4))).bind fun p51 =>(sliceV (.list v6) p50 p51).bind fun v52 =>(itemsV v52).bind fun xs53 =>if xs53.length ≤ lid then (compV (fun x54 =>(binV .FloorDiv x54 (.int 7)).bind fun v55 =>some (some v55)) xs53).bind fun v56 =>(binV .Add (.list v56) (.list [.int 1,.int 2])).bind fun v57 =>(partV (some (.int 1))).bind fun p58 =>(sliceV (.list v6) p58 Option.none).bind fun v59 =>(itemsV v59).bind fun xs60 =>if xs60.length ≤ lid then (compV (fun x61 =>(binV .FloorDiv x61 (.int 256)).bind fun v62 =>(binV .Mod v62 (.int 2)).bind fun v63 =>(cmpV .Eq v63 (.int 0)).bind fun b64 =>cond b64 ((binV .Mod x61 (.int 256)).bind fun v65 =>some (some v65)) ((binV .FloorDiv x61 (.int 512)).bind fun v66 =>(binV .Mod v66 (.int 24)).bind fun v67 =>(itemV (.bytes [65,127,128,143,144,159,160,191,192,194,223,224,225,237,239,240,241,244,245,255,216,220,254,0]) v67).bind fun v68 =>some (some v68))) xs60).bind fun v69 =>(bltV "bytes" [.list v69]).bind fun v70 =>(binV .Mod (.int 0) (.int 4)).bind fun v71 =>(binV .Add (.int 1) v71).bind fun v72 =>(partV (some v72)).bind fun p73 =>(sliceV v57 Option.none p73).bind fun v74 =>(orO (G.fn "_law_streams_right" [v70,v74] []) (bltV "_law_streams_right" [v70,v74])).bind fun v75 =>(V.tru v75).bind fun b76 =>cond (!b76) (some (.bool false)) ((orO (G.fn "_law_codes" [v70,.bool true] []) (bltV "_law_codes" [v70,.bool true])).bind fun v77 =>(binV .FloorDiv (.int 0) (.int 4)).bind fun v78 =>(binV .Mod v78 (.int 2)).bind fun v79 =>(cmpV .Eq v79 (.int 0)).bind fun b80 =>cond b80 ((binV .FloorDiv (.int 0) (.int 8)).bind fun v81 =>(binV .Mod v81 (.int 4)).bind fun v82 =>(partV (some v82)).bind fun p83 =>(sliceV v57 Option.none p83).bind fun v84 =>(orO (G.fn "_law_round_right" [v77,.str "be",v84] []) (bltV "_law_round_right" [v77,.str "be",v84])).bind fun v85 =>some v85) ((binV .FloorDiv (.int 0) (.int 8)).bind fun v86 =>(binV .Mod v86 (.int 4)).bind fun v87 =>(partV (some v87)).bind fun p88 =>(sliceV v57 Option.none p88).bind fun v89 =>(orO (G.fn "_law_round_right" [v77,.str "le",v89] []) (bltV "_law_round_right" [v77,.str "le",v89])).bind fun v90 =>some v90)) else Option.none else Option.none) else Option.none) = some v) : (geOf tab (k + 1)).fn "law" [.list xs] [] = some v:=fn_sh (r:=R65) (by kernel_rfl) (by kernel_rfl) h
theorem band_nat (x y : Nat) : Builtin.bitAnd (x : Int) (y : Int) = ((x &&& y : Nat) : Int):=by
 unfold Builtin.bitAnd
 simp
theorem bor_nat (x y : Nat) : Builtin.bitOr (x : Int) (y : Int) = ((x ||| y : Nat) : Int):=by
 unfold Builtin.bitOr
 have h : ∀ z : Nat,Builtin.bitNot (z : Int) = -(z : Int) - 1:=fun z =>by unfold Builtin.bitNot; lia
 simp only [h,h]
 unfold Builtin.bitAnd
 have h1 : decide (0 ≤ -(x : Int) - 1) = false:=by simp; lia
 have h2 : decide (0 ≤ -(y : Int) - 1) = false:=by simp; lia
 simp only [h1,h2]
 have h3 : ∀ z : Nat,(Builtin.bitNot (-(z : Int) - 1)).toNat = z:=fun z =>by unfold Builtin.bitNot; lia
 simp only [h3]
 have h4 : ∀ z : Int,Builtin.bitNot (Builtin.bitNot z) = z:=fun z =>by unfold Builtin.bitNot; lia
 exact h4 _
theorem band_mask {x : Int} (k : Nat) {m : Int} (hm : m = 2 ^ k - 1) (hx : 0 ≤ x) : Builtin.bitAnd x m = x % 2 ^ k:=by
 obtain ⟨n,rfl⟩:=Int.eq_ofNat_of_zero_le hx
 have : m = ((2 ^ k - 1 : Nat) : Int):=by
  have:=Nat.two_pow_pos k
  rw [hm]; push_cast [Int.natCast_sub]
  rw [Int.natCast_sub (by lia)]; push_cast; rfl
 simp only [this,band_nat,Nat.and_two_pow_sub_one_eq_mod]
 push_cast; rfl
theorem bor_add {a b : Int} (k : Nat) {m : Int} (hm : m = a * 2 ^ k) (ha : 0 ≤ a) (hb : 0 ≤ b) (h : b < 2 ^ k) : Builtin.bitOr m b = m + b:=by
 obtain ⟨n,rfl⟩:=Int.eq_ofNat_of_zero_le ha
 obtain ⟨c,rfl⟩:=Int.eq_ofNat_of_zero_le hb
 have hc : c < 2 ^ k:=by exact_mod_cast h
 have : m = ((2 ^ k * n : Nat) : Int):=by rw [hm]; push_cast; rw [Int.mul_comm]
 rw [this,bor_nat,← Nat.two_pow_add_eq_or_of_lt hc]
 push_cast; rfl
theorem fdivp {a b : Int} (h : 0 ≤ b) : a.fdiv b = a / b:=Int.fdiv_eq_ediv_of_nonneg a h
theorem fmodp {a b : Int} (h : 0 ≤ b) : a.fmod b = a % b:=Int.fmod_eq_emod_of_nonneg a h
theorem small_of {x : Int} (h1 : 0 ≤ x) (h2 : x < 1073741824) : small x = true:=by unfold small; simp; lia
theorem small_of2 {x : Int} (h1 : -1073741824 < x) (h2 : x < 1073741824) : small x = true:=by unfold small; simp; lia
theorem band63 {x : Int} (h : 0 ≤ x) : Builtin.bitAnd x 63 = x % 64:=band_mask 6 rfl h
theorem band255 {x : Int} (h : 0 ≤ x) : Builtin.bitAnd x 255 = x % 256:=band_mask 8 rfl h
theorem band1023 {x : Int} (h : 0 ≤ x) : Builtin.bitAnd x 1023 = x % 1024:=band_mask 10 rfl h
theorem or256 {a b : Int} (ha : 0 ≤ a) (hb : 0 ≤ b) (h : b < 256) : Builtin.bitOr (a * 256) b = a * 256 + b:=bor_add (m:=a * 256) 8 (by rw [show (2 : Int) ^ 8 = 256 from rfl]) ha hb h
theorem or64 {a b : Int} (ha : 0 ≤ a) (hb : 0 ≤ b) (h : b < 64) : Builtin.bitOr (a * 64) b = a * 64 + b:=bor_add (m:=a * 64) 6 (by rw [show (2 : Int) ^ 6 = 64 from rfl]) ha hb h
theorem clip_nat {n a : Nat} : clip n (a : Int) = min a n:=by unfold clip; rw [if_neg (by lia)]; simp
theorem cut_drop {α : Type} {l : List α} {a : Nat} : cut l (some (a : Int)) Option.none = l.drop a:=by
 unfold cut
 simp only [Option.elim,clip_nat]
 rw [List.take_of_length_le (by rw [List.length_drop]; lia)]
 rcases Nat.le_total a l.length with h | h
 ·rw [Nat.min_eq_left h]
 ·simp only [Nat.min_eq_right h,List.drop_length,List.drop_eq_nil_of_le h]
theorem cut_take {α : Type} {l : List α} {b : Nat} : cut l Option.none (some (b : Int)) = l.take b:=by
 unfold cut
 simp only [Option.elim,clip_nat,Nat.sub_zero,List.drop_zero]
 rcases Nat.le_total b l.length with h | h
 ·rw [Nat.min_eq_left h]
 ·simp only [Nat.min_eq_right h,List.take_length,List.take_of_length_le h]
theorem cut_both {α : Type} {l : List α} {a b : Nat} : cut l (some (a : Int)) (some (b : Int)) = (l.drop a).take (b - a):=by
 unfold cut
 simp only [Option.elim,clip_nat]
 rcases Nat.le_total a l.length with h | h
 ·rw [Nat.min_eq_left h]
  rcases Nat.le_total b l.length with h2 | h2
  ·rw [Nat.min_eq_left h2]
  ·rw [Nat.min_eq_right h2,List.take_of_length_le (by rw [List.length_drop]; lia),List.take_of_length_le (by rw [List.length_drop]; lia)]
 ·simp only [Nat.min_eq_right h,List.drop_length,List.drop_eq_nil_of_le h]; simp
section
variable {α ρ : Type} {x y : Option ρ} {p : Prop} [Decidable p] {ks ls : List Int} {xs ys : List V} {a b : Int} {l r : Option Int} {s t : Str} {n : Nat}
theorem cp (h : p) : cond (decide p) x y = x:=by rw [decide_eq_true h]; rfl
theorem cn (h : ¬ p) : cond (decide p) x y = y:=by rw [decide_eq_false h]; rfl
theorem cnp (h : p) : cond (!decide p) x y = y:=by rw [decide_eq_true h]; rfl
theorem cnn (h : ¬ p) : cond (!decide p) x y = x:=by rw [decide_eq_false h]; rfl
theorem orS {v : α} {o : Option α} : orO (some v) o = some v:=rfl
theorem bS {v : α} {f : α → Option ρ} : (some v).bind f = f v:=rfl
theorem mS {β : Type} {v : α} {f : α → β} : (some v).map f = some (f v):=rfl
theorem cT : cond true x y = x:=rfl
theorem cF : cond false x y = y:=rfl
theorem trB {c : Bool} : V.tru (.bool c) = some c:=rfl
theorem lenB (h : ks.length ≤ 1048576) : bltV "len" [.bytes ks] = some (.int (ks.length : Int)):=by simp only [bl_len,len_bytes,if_pos h]; rfl
theorem lenL (h : xs.length ≤ 1048576) : bltV "len" [.list xs] = some (.int (xs.length : Int)):=by simp only [bl_len,len_list,if_pos h]; rfl
theorem lisL (h : xs.length ≤ 1048576) : bltV "list" [.list xs] = some (.list xs):=by rw [bl_listL,if_pos h]
theorem itB (h : ks.length ≤ 1048576) : itemV (.bytes ks) (.int a) = (itemAt ks a).map .int:=by simp only [item_bytes,if_pos h]
theorem itL (h : xs.length ≤ 1048576) : itemV (.list xs) (.int a) = itemAt xs a:=by simp only [item_list,if_pos h]
theorem slB (h : ks.length ≤ 1048576) : sliceV (.bytes ks) l r = some (.bytes (cut ks l r)):=by simp only [slice_bytes,if_pos h]
theorem slL (h : xs.length ≤ 1048576) : sliceV (.list xs) l r = some (.list (cut xs l r)):=by simp only [slice_list,if_pos h]
theorem ptS (h : a.natAbs < 4611686018427387904) : partV (some (.int a)) = some (some a):=by rw [part_int,if_pos h]
theorem isL (h : xs.length ≤ 1048576) : itemsV (.list xs) = some xs:=by simp only [items_list,if_pos h]
theorem isT (h : xs.length ≤ 1048576) : itemsV (.tup xs) = some xs:=by rw [items_tup,if_pos h]
theorem isB (h : ks.length ≤ 1048576) : itemsV (.bytes ks) = some (ks.map .int):=by rw [items_bytes,if_pos h]
theorem adI : binV .Add (.int a) (.int b) = some (.int (a + b)):=rfl
theorem sbI : binV .Sub (.int a) (.int b) = some (.int (a - b)):=rfl
theorem anI : binV .BitAnd (.int a) (.int b) = some (.int (Builtin.bitAnd a b)):=rfl
theorem orI : binV .BitOr (.int a) (.int b) = some (.int (Builtin.bitOr a b)):=rfl
theorem muI (h1 : small a = true) (h2 : small b = true) : binV .Mult (.int a) (.int b) = some (.int (a * b)):=by simp only [b_mulI,h1,h2]; rfl
theorem fdI (h1 : 0 < b) (h2 : small b = true) : binV .FloorDiv (.int a) (.int b) = some (.int (a / b)):=by rw [b_fdiv,if_pos ⟨by lia,h2⟩,fdivp (by lia)]
theorem mdI (h1 : 0 < b) : binV .Mod (.int a) (.int b) = some (.int (a % b)):=by rw [b_mod,if_pos (by lia),fmodp (by lia)]
theorem shrI (j : Nat) {m : Int} (h : ((2 : Int) ^ j) = m) : binV .RShift (.int a) (.int (j : Int)) = some (.int (a / m)):=by
 subst h
 rw [b_shr,if_pos (by lia),Int.toNat_natCast,fdivp (by exact Int.le_of_lt (Int.pow_pos (by lia)))]
theorem shlI (j : Nat) {m : Int} (h : ((2 : Int) ^ j) = m) (hj : j ≤ 64) (h1 : small a = true) : binV .LShift (.int a) (.int (j : Int)) = some (.int (a * m)):=by
 subst h
 rw [b_shl,if_pos ⟨by lia,by lia,h1⟩,Int.toNat_natCast]
theorem r6 : binV .RShift (.int a) (.int 6) = some (.int (a / 64)):=shrI 6 rfl
theorem r8 : binV .RShift (.int a) (.int 8) = some (.int (a / 256)):=shrI 8 rfl
theorem r10 : binV .RShift (.int a) (.int 10) = some (.int (a / 1024)):=shrI 10 rfl
theorem r12 : binV .RShift (.int a) (.int 12) = some (.int (a / 4096)):=shrI 12 rfl
theorem r16 : binV .RShift (.int a) (.int 16) = some (.int (a / 65536)):=shrI 16 rfl
theorem r18 : binV .RShift (.int a) (.int 18) = some (.int (a / 262144)):=shrI 18 rfl
theorem l6 (h : small a = true) : binV .LShift (.int a) (.int 6) = some (.int (a * 64)):=shlI 6 rfl (by lia) h
theorem l8 (h : small a = true) : binV .LShift (.int a) (.int 8) = some (.int (a * 256)):=shlI 8 rfl (by lia) h
theorem l10 (h : small a = true) : binV .LShift (.int a) (.int 10) = some (.int (a * 1024)):=shlI 10 rfl (by lia) h
theorem l16 (h : small a = true) : binV .LShift (.int a) (.int 16) = some (.int (a * 65536)):=shlI 16 rfl (by lia) h
theorem l24 (h : small a = true) : binV .LShift (.int a) (.int 24) = some (.int (a * 16777216)):=shlI 24 rfl (by lia) h
theorem d2 : binV .FloorDiv (.int a) (.int 2) = some (.int (a / 2)):=fdI (by lia) rfl
theorem d4 : binV .FloorDiv (.int a) (.int 4) = some (.int (a / 4)):=fdI (by lia) rfl
theorem d7 : binV .FloorDiv (.int a) (.int 7) = some (.int (a / 7)):=fdI (by lia) rfl
theorem d8 : binV .FloorDiv (.int a) (.int 8) = some (.int (a / 8)):=fdI (by lia) rfl
theorem d64 : binV .FloorDiv (.int a) (.int 64) = some (.int (a / 64)):=fdI (by lia) rfl
theorem d256 : binV .FloorDiv (.int a) (.int 256) = some (.int (a / 256)):=fdI (by lia) rfl
theorem d512 : binV .FloorDiv (.int a) (.int 512) = some (.int (a / 512)):=fdI (by lia) rfl
theorem d1024 : binV .FloorDiv (.int a) (.int 1024) = some (.int (a / 1024)):=fdI (by lia) rfl
theorem d65536 : binV .FloorDiv (.int a) (.int 65536) = some (.int (a / 65536)):=fdI (by lia) rfl
theorem d16777216 : binV .FloorDiv (.int a) (.int 16777216) = some (.int (a / 16777216)):=fdI (by lia) rfl
theorem m2 : binV .Mod (.int a) (.int 2) = some (.int (a % 2)):=mdI (by lia)
theorem m4 : binV .Mod (.int a) (.int 4) = some (.int (a % 4)):=mdI (by lia)
theorem m24 : binV .Mod (.int a) (.int 24) = some (.int (a % 24)):=mdI (by lia)
theorem m64 : binV .Mod (.int a) (.int 64) = some (.int (a % 64)):=mdI (by lia)
theorem m256 : binV .Mod (.int a) (.int 256) = some (.int (a % 256)):=mdI (by lia)
theorem m1024 : binV .Mod (.int a) (.int 1024) = some (.int (a % 1024)):=mdI (by lia)
theorem adB (h : ks.length + ls.length ≤ 1048576) : binV .Add (.bytes ks) (.bytes ls) = some (.bytes (ks ++ ls)):=by simp only [b_addB,if_pos h]
theorem adL (h : xs.length + ys.length ≤ 1048576) : binV .Add (.list xs) (.list ys) = some (.list (xs ++ ys)):=by rw [b_addL,if_pos h]
theorem lt_ : cmpV .Lt (.int a) (.int b) = some (decide (a < b)):=rfl
theorem le_ : cmpV .LtE (.int a) (.int b) = some (decide (a ≤ b)):=rfl
theorem gt_ : cmpV .Gt (.int a) (.int b) = some (decide (b < a)):=rfl
theorem ge_ : cmpV .GtE (.int a) (.int b) = some (decide (b ≤ a)):=rfl
theorem eqI_ : cmpV .Eq (.int a) (.int b) = some (a == b):=rfl
theorem eqS_ : cmpV .Eq (.str s) (.str t) = some (s == t):=rfl
theorem eqB_ : cmpV .Eq (.bytes ks) (.bytes ls) = some (ks == ls):=rfl
theorem neB_ : cmpV .NotEq (.bytes ks) (.bytes ls) = some (!(ks == ls)):=rfl
theorem vV {v : V} : valOf (some (.val v)) = some v:=rfl
theorem oO : ownOf (some (.own xs)) = some xs:=rfl
theorem oV {v : V} : ownOf (some (.val v)) = Option.none:=rfl
theorem lkS {c : α} {g : List (Str × α)} : List.lookup s (setL s c g) = some c:=by rw [lk_set,beq_self_eq_true]; rfl
theorem lkN {c : α} {g : List (Str × α)} (h : (t == s) = false) : List.lookup t (setL s c g) = List.lookup t g:=by rw [lk_set,h]; rfl
theorem u2 {v w : V} {K : V → V → Option ρ} : un2 (.tup [v,w]) K = K v w:=rfl
theorem u3 {v w z : V} {K : V → V → V → Option ρ} : un3 (.tup [v,w,z]) K = K v w z:=rfl
theorem xC {K : List V → Option ρ} : extC (.list xs) K = K xs:=rfl
theorem inI : isNoneV (.int a) = false:=rfl
theorem inN : isNoneV .none = true:=rfl
theorem inS : isNoneV (.str s) = false:=rfl
theorem inT : isNoneV (.tup xs) = false:=rfl
theorem loO : listOf (.list xs) = some xs:=rfl
theorem lcN {A : List V → Option ρ} : lenC Option.none A x = x:=rfl
theorem outS {c : α} {P : α → Prop} : Out (some c) P = P c:=propext ⟨fun ⟨_,e,h⟩ =>by obtain rfl:=Option.some.inj e; exact h,fun h =>⟨c,rfl,h⟩⟩
end
noncomputable def StepO (I : Gam → Prop) (Z : Fl → Prop) : Fl → Prop
 | .next g =>I g
 | .brk g =>Z (.next g)
 | .ret v g =>Z (.ret v g)
section
variable {n : Nat} {G : Ge} {sc : Scope} {mu : List Str} {t : Expr} {b : List Stmt} {Z : Fl → Prop}
theorem cont_out {o : Option Fl} {k : Gam → Option Fl} {I : Gam → Prop} (h : Out o (StepO I Z)) (hk : ∀ g,I g → Out (k g) Z) : Out (contF o k) Z:=by
 obtain ⟨fl,rfl,h⟩:=h
 cases fl with
 | next g =>exact hk g h
 | brk g =>exact ⟨_,rfl,h⟩
 | ret v g =>exact ⟨_,rfl,h⟩
theorem while_rule {α : Type} (I : α → Gam → Prop) (meas : α → Nat) (c : α → Prop) [∀ a,Decidable (c a)] (hT : ∀ a g,I a g → evT n G sc g t = some (decide (c a)))
  (hS : ∀ a g,I a g → c a → Out (exs n G sc mu b g) (StepO (fun g' =>∃ a',I a' g' ∧ meas a' < meas a) Z)) (hE : ∀ a g,I a g → ¬ c a → Z (.next g)) :
  ∀ K a g,meas a < K → I a g → Out (whileX n G sc mu t b K g) Z
 | 0,_,_,h,_ =>absurd h (Nat.not_lt_zero _)
 | K + 1,a,g,h,hI =>by
  rw [whileX_succ,hT a g hI]
  by_cases hc : c a
  ·rw [decide_eq_true hc]
   exact cont_out (hS a g hI hc) fun g' ⟨a',hI',hm⟩ =>while_rule I meas c hT hS hE K a' g' (Nat.lt_of_lt_of_le hm (Nat.le_of_lt_succ h)) hI'
  ·rw [decide_eq_false hc]
   exact ⟨_,rfl,hE a g hI hc⟩
theorem tp_ {p : Int} (h : 1 ≤ p) : 0 < p.toNat:=Int.lt_toNat.mpr h
theorem dec_ {α : Type} {l : List α} {p : Int} (h : l ≠ []) (hp : 1 ≤ p) : (l.drop p.toNat).length < l.length:=by rw [List.length_drop]; exact Nat.sub_lt (List.length_pos_iff.mpr h) (tp_ hp)
theorem dnD {α : Type} {l : List α} {p : Int} {n : Nat} (h : 1 ≤ p) (hl : l.length ≤ n + 1) : (l.drop p.toNat).length ≤ n:=by rw [List.length_drop]; exact Nat.sub_le_of_le_add (Nat.le_trans hl (Nat.add_le_add_left (tp_ h) n))
theorem rl_ {A B L : Nat} {p : Int} (h1 : 1 ≤ p) (h2 : p ≤ L) (h : A + B ≤ L - p.toNat) : A + 1 + B ≤ L:=by rw [Nat.add_right_comm]; exact Nat.lt_of_le_of_lt h (Nat.sub_lt (Int.ofNat_lt.mp (Int.lt_of_lt_of_le (show (0 : Int) < p from h1) h2)) (tp_ h1))
theorem nx4 {a : Nat} {p : Int} (h : 1 ≤ p) : (a : Int) + p = ((a + p.toNat : Nat) : Int):=by rw [Int.natCast_add,Int.toNat_of_nonneg (Int.le_trans (by decide) h)]
inductive CurI {β : Type} (E : Nat → List β → Gam → Gam) (L : Nat) (J : Nat → List β → Prop) (x : Nat × List β) (g : Gam) : Prop
 | mk (ex : Gam) (hg : g = E x.1 x.2 ex) (h1 : x.1 ≤ L) (h2 : x.2.length ≤ x.1) (h3 : J x.1 x.2) : CurI E L J x g
inductive CurN {β : Type} (E : Nat → List β → Gam → Gam) (L : Nat) (J : Nat → List β → Prop) (a : Nat) (fs : List β) (g : Gam) : Prop
 | mk (p : Int) (c : β) (ex : Gam) (hg : g = E (a + p.toNat) (fs ++ [c]) ex) (h1 : 1 ≤ p) (h2 : p ≤ (L - a : Nat)) (h3 : J (a + p.toNat) (fs ++ [c])) : CurN E L J a fs g
theorem cursor {β : Type} {L d : Nat} {ex0 : Gam} {E : Nat → List β → Gam → Gam} {J : Nat → List β → Prop} (hL : L ≤ 1000) (hT : ∀ a fs ex,evT n G sc (E a fs ex) t = some (decide ((a : Int) < L)))
  (hS : ∀ a fs ex,a < L → fs.length < 1048576 → J a fs → Out (exs n G sc mu b (E a fs ex)) (StepO (CurN E L J a fs) Z)) (hE : ∀ fs ex,fs.length ≤ L → J L fs → Z (.next (E L fs ex))) (hd : d ≤ L) (h0 : J d []) : Out (whileX n G sc mu t b 65536 (E d [] ex0)) Z:=by
 refine while_rule (CurI E L J) (fun x =>L - x.1) (fun x =>(x.1 : Int) < L) ?_ ?_ ?_ 65536 (d,[]) _ ?_ ⟨ex0,rfl,hd,Nat.zero_le _,h0⟩
 ·rintro x g ⟨ex,rfl,_,_,_⟩; exact hT _ _ _
 ·rintro ⟨a,fs⟩ g ⟨ex,rfl,h1,h2,h3⟩ hc
  have hlt : a < L:=Int.ofNat_lt.mp hc
  obtain ⟨fl,e,h⟩:=hS a fs ex hlt (Nat.lt_of_le_of_lt h2 (Nat.lt_of_lt_of_le hlt (Nat.le_trans hL (by decide)))) h3
  refine ⟨fl,e,?_⟩
  cases fl with
  | next g =>
   obtain ⟨p,c,ex',hg,k1,k2,k3⟩:=h
   exact ⟨(a + p.toNat,fs ++ [c]),⟨ex',hg,Nat.add_le_of_le_sub' h1 (Int.toNat_le.mpr k2),by rw [List.length_append]; exact Nat.add_le_add h2 (tp_ k1),k3⟩,Nat.sub_lt_sub_left hlt (Nat.lt_add_of_pos_right (tp_ k1))⟩
  | brk g =>exact h
  | ret v g =>exact h
 ·rintro ⟨a,fs⟩ g ⟨ex,rfl,h1,h2,h3⟩ hc
  have : a = L:=Nat.le_antisymm h1 (Nat.not_lt.mp fun h =>hc (Int.ofNat_lt.mpr h))
  subst this
  exact hE fs ex h2 h3
 ·exact Nat.lt_of_le_of_lt (Nat.sub_le _ _) (Nat.lt_of_le_of_lt hL (by decide))
theorem for_rule {β : Type} {f : β → V} (I : List β → Gam → Prop) (hS : ∀ x r g,I (x :: r) g → ∃ g1,bindT sc t (f x) g = some g1 ∧ Out (exs n G sc mu b g1) (StepO (I r) Z)) (hE : ∀ g,I [] g → Z (.next g)) :
  ∀ ns g,I ns g → Out (forX n G sc mu t b (ns.map f) g) Z
 | [],g,hI =>⟨_,rfl,hE g hI⟩
 | x :: r,g,hI =>by
  refine bc fun hN =>?_
  obtain ⟨g1,h1,h⟩:=hS x r g hI
  refine hN ?_; clear hN
  simp only [List.map_cons,forX_cons,h1]
  exact cont_out h fun g' h' =>for_rule I hS hE r g' h'
theorem for_cons {x : V} {r : List V} {g g1 : Gam} (h1 : bindT sc t x g = some g1) (h : Out (exs n G sc mu b g1) (StepO (fun g' =>Out (forX n G sc mu t b r g') Z) Z)) : Out (forX n G sc mu t b (x :: r) g) Z:=by
 simp only [forX_cons,h1]
 exact cont_out h fun g' h' =>h'
theorem for_nil {g : Gam} (h : Z (.next g)) : Out (forX n G sc mu t b [] g) Z:=⟨_,rfl,h⟩
theorem enum_rule {β : Type} {f : β → V} (I : Nat → List β → Gam → Prop) (hS : ∀ j x r g,I j (x :: r) g → ∃ g1,bindT sc t (.tup [.int (j : Int),f x]) g = some g1 ∧ Out (exs n G sc mu b g1) (StepO (I (j + 1) r) Z)) (hE : ∀ j g,I j [] g → Z (.next g)) :
  ∀ ns j g,I j ns g → Out (forX n G sc mu t b (enumL j (ns.map f)) g) Z
 | [],j,g,hI =>⟨_,rfl,hE j g hI⟩
 | x :: r,j,g,hI =>by
  obtain ⟨g1,h1,h⟩:=hS j x r g hI
  simp only [List.map_cons,en_cons,forX_cons,h1]
  exact cont_out h fun g' h' =>enum_rule I hS hE r (j + 1) g' h'
end
theorem loopE {ρ : Type} {o : Option Fl} {A B : Gam → Option ρ} {D : V → Gam → Option ρ} {R : Option ρ} (h : Out o fun fl =>flC fl A B D = R) : (o.bind fun fl =>flC fl A B D) = R:=by
 obtain ⟨fl,rfl,h⟩:=h
 exact h
theorem sN {I : Gam → Prop} {Z : Fl → Prop} {g : Gam} : StepO I Z (.next g) = I g:=rfl
theorem sB {I : Gam → Prop} {Z : Fl → Prop} {g : Gam} : StepO I Z (.brk g) = Z (.next g):=rfl
theorem sR {I : Gam → Prop} {Z : Fl → Prop} {v : V} {g : Gam} : StepO I Z (.ret v g) = Z (.ret v g):=rfl
theorem fN {ρ : Type} {g : Gam} {A B : Gam → Option ρ} {D : V → Gam → Option ρ} : flC (.next g) A B D = A g:=rfl
theorem fR {ρ : Type} {v : V} {g : Gam} {A B : Gam → Option ρ} {D : V → Gam → Option ρ} : flC (.ret v g) A B D = D v g:=rfl
theorem fB {ρ : Type} {g : Gam} {A B : Gam → Option ρ} {D : V → Gam → Option ρ} : flC (.brk g) A B D = B g:=rfl
theorem mapS {l : List Int} {c : Int} : (l ++ [c]).map V.int = l.map V.int ++ [V.int c]:=by rw [List.map_append]; rfl
theorem lenS {α : Type} {l : List α} {c : α} : (l ++ [c]).length = l.length + 1:=List.length_append
theorem scN {ρ : Type} {j : V} {K : V → Option ρ} {alt : Option ρ} : subC Option.none j K alt = alt:=rfl
theorem tp0 {v w : V} : itemV (.tup [v,w]) (.int 0) = some v:=rfl
theorem tp1 {v w : V} : itemV (.tup [v,w]) (.int 1) = some w:=rfl
theorem neE {zs : List V} : cmpV .NotEq (.list zs) (.list []) = some (!zs.isEmpty):=by cases zs <;> rfl
theorem comp_if {β : Type} {f : V → Option (Option V)} {g : β → V} {p : β → Bool} : ∀ (l : List β),(∀ x ∈ l,∃ o,f (g x) = some o ∧ o.isSome = p x) → ∃ zs,compV f (l.map g) = some zs ∧ zs.isEmpty = !(l.any p)
 | [],_ =>⟨[],rfl,rfl⟩
 | x :: r,h =>by
  refine bc fun hN =>?_
  obtain ⟨zs,h1,h2⟩:=comp_if r fun y hy =>h y (.tail _ hy)
  obtain ⟨o,h3,h4⟩:=h x (.head _)
  refine hN ?_; clear hN
  simp only [List.map_cons,cv_cons,h1,h3,List.any_cons,← h4]
  cases o with
  | none =>exact ⟨zs,rfl,h2⟩
  | some y =>exact ⟨y :: zs,rfl,rfl⟩
theorem comp_map {β : Type} {f : V → Option (Option V)} {g : β → V} {q : β → V} : ∀ (l : List β),(∀ x ∈ l,f (g x) = some (some (q x))) → compV f (l.map g) = some (l.map q)
 | [],_ =>rfl
 | x :: r,h =>by
  simp only [List.map_cons,cv_cons,comp_map r fun y hy =>h y (.tail _ hy),h x (.head _)]; rfl
theorem bindEx {α ρ : Type} {o : Option α} {P : α → Prop} {f : α → Option ρ} {r : Option ρ} (h : ∃ a,o = some a ∧ P a) (hk : ∀ a,P a → f a = r) : o.bind f = r:=by
 obtain ⟨a,rfl,h⟩:=h
 exact hk a h
theorem loopP {ρ : Type} {o : Option Fl} {A B : Gam → Option ρ} {D : V → Gam → Option ρ} {P : ρ → Prop} (h : Out o fun fl =>Out (flC fl A B D) P) : Out (o.bind fun fl =>flC fl A B D) P:=by
 obtain ⟨fl,rfl,h⟩:=h
 exact h
theorem outE {α : Type} {o : Option α} {a : α} {P : α → Prop} (e : o = some a) (h : P a) : Out o P:=⟨a,e,h⟩
theorem ptN {a : Nat} (h : a ≤ 1000000) : partV (some (.int (a : Int))) = some (some (a : Int)):=ptS (by lia)
section
variable {α β : Type} {o : Option α} {K : α → Option β} {a : α} {r x y : Option β} {b : Bool} {p : Prop} [Decidable p] {P : β → Prop} {ol : Option (List V)} {xs : List V} {j : V}
theorem bE (h : o = some a) (h2 : K a = r) : o.bind K = r:=by rw [h]; exact h2
theorem bO (h : o = some a) (h2 : Out (K a) P) : Out (o.bind K) P:=by rw [h]; exact h2
theorem bE0 (h2 : K a = r) : (some a).bind K = r:=h2
theorem bO0 (h2 : Out (K a) P) : Out ((some a).bind K) P:=h2
theorem cE (h : b = true) (h2 : x = r) : cond b x y = r:=by rw [h]; exact h2
theorem cE' (h : b = false) (h2 : y = r) : cond b x y = r:=by rw [h]; exact h2
theorem cO (h : b = true) (h2 : Out x P) : Out (cond b x y) P:=by rw [h]; exact h2
theorem cO' (h : b = false) (h2 : Out y P) : Out (cond b x y) P:=by rw [h]; exact h2
theorem cQ (h : b = true → x = y) : cond b x y = y:=by
 cases b
 ·rfl
 ·exact h rfl
theorem cR (h : b = true → x = y) (h2 : Out y P) : Out (cond b x y) P:=by
 cases b
 ·exact h2
 ·rw [h rfl]; exact h2
theorem iE (h : p) (h2 : x = r) : (if p then x else y) = r:=by rw [if_pos h]; exact h2
theorem iE' (h : ¬ p) (h2 : y = r) : (if p then x else y) = r:=by rw [if_neg h]; exact h2
theorem iO (h : p) (h2 : Out x P) : Out (if p then x else y) P:=by rw [if_pos h]; exact h2
theorem iO' (h : ¬ p) (h2 : Out y P) : Out (if p then x else y) P:=by rw [if_neg h]; exact h2
theorem sE {K : V → Option β} (h : ol = some xs) (h2 : (itemV (.list xs) j).bind K = r) : subC ol j K x = r:=by rw [h]; exact h2
theorem sE' {K : V → Option β} (h : ol = .none) (h2 : x = r) : subC ol j K x = r:=by rw [h]; exact h2
theorem sO {K : V → Option β} (h : ol = some xs) (h2 : Out ((itemV (.list xs) j).bind K) P) : Out (subC ol j K x) P:=by rw [h]; exact h2
theorem sO' {K : V → Option β} (h : ol = .none) (h2 : Out x P) : Out (subC ol j K x) P:=by rw [h]; exact h2
theorem lE {A : List V → Option β} (h : ol = some xs) (h2 : A xs = r) : lenC ol A x = r:=by rw [h]; exact h2
theorem lE' {A : List V → Option β} (h : ol = .none) (h2 : x = r) : lenC ol A x = r:=by rw [h]; exact h2
theorem lO {A : List V → Option β} (h : ol = some xs) (h2 : Out (A xs) P) : Out (lenC ol A x) P:=by rw [h]; exact h2
theorem lO' {A : List V → Option β} (h : ol = .none) (h2 : Out x P) : Out (lenC ol A x) P:=by rw [h]; exact h2
theorem kE {f : List (Str × V) → Option β} {cl : List (Str × V)} {oc : Option (List (Str × V))} (h : oc = some cl) (h2 : f cl = r) : clsC oc f x = r:=by rw [h]; exact h2
theorem kO {f : List (Str × V) → Option β} {cl : List (Str × V)} {oc : Option (List (Str × V))} (h : oc = some cl) (h2 : Out (f cl) P) : Out (clsC oc f x) P:=by rw [h]; exact h2
theorem uE {u v : V} {K : V → V → Option β} (h : K u v = r) : un2 (.tup [u,v]) K = r:=h
theorem uO {u v : V} {K : V → V → Option β} (h : Out (K u v) P) : Out (un2 (.tup [u,v]) K) P:=h
theorem wE {u v w : V} {K : V → V → V → Option β} (h : K u v w = r) : un3 (.tup [u,v,w]) K = r:=h
theorem wO {u v w : V} {K : V → V → V → Option β} (h : Out (K u v w) P) : Out (un3 (.tup [u,v,w]) K) P:=h
theorem fE {g : Gam} {A B : Gam → Option β} {D : V → Gam → Option β} (h : A g = r) : flC (.next g) A B D = r:=h
theorem fE' {g : Gam} {v : V} {A B : Gam → Option β} {D : V → Gam → Option β} (h : D v g = r) : flC (.ret v g) A B D = r:=h
theorem fO {g : Gam} {A B : Gam → Option β} {D : V → Gam → Option β} (h : Out (A g) P) : Out (flC (.next g) A B D) P:=h
theorem fO' {g : Gam} {v : V} {A B : Gam → Option β} {D : V → Gam → Option β} (h : Out (D v g) P) : Out (flC (.ret v g) A B D) P:=h
theorem eO {c : β} (h : P c) : Out (some c) P:=⟨c,rfl,h⟩
end
end Mine
end
namespace Mine
open PySem
local macro_rules
  | `(tactic| simp_arith! [$as,*]) => do
    let xs := (("bS mS orS cT cF trB lenB lenL lisL itB itL slB slL ptS isL isB isT adI sbI anI orI muI r6 r8 r10 r12 r16 r18 l6 l8 l10 l16 l24 d2 d4 d7 d8 d64 d256 d512 d1024 d65536 d16777216 m2 m4 m24 m64 m256 m1024 adB adL lt_ le_ gt_ ge_ eqI_ eqS_ eqB_ neB_ vV oO oV lkS lkN u2 u3 xC inI inN inS inT loO lcN fN fR fB outS scN tp0 tp1 neE sN sB sR cp cn cnp cnn Bool.not_true Bool.not_false decide_true decide_false ofString_beq String.reduceBEq Int.reduceAdd Int.reduceSub Int.reduceMul Int.reduceLT Int.reduceLE Int.reduceNeg Int.reduceBEq Nat.reduceBEq Int.reduceDiv Int.reduceMod Nat.reduceAdd Nat.reduceLT Nat.reduceLeDiff Nat.reduceSub".splitOn " ").toArray.map fun s => (⟨(Lean.mkIdent s.toName).raw⟩ : Lean.Term))
    `(tactic| simp only [$[$xs:term],*, ↓reduceIte, $as,*])
local macro_rules
  | `(tactic| simp_arith [$as,*]) => do
    let e ← `(tactic| first | (simp_arith! [$as,*] <;> with_reducible rfl) | fail)
    let c ← `(tactic| first | (simp_arith! [$as,*] <;> fail) | fail)
    let g (l : String) (u : Lean.Syntax.Tactic) : Lean.MacroM (Array Lean.Syntax.Tactic) := (l.splitOn " ").toArray.mapM fun s => `(tactic| refine $(Lean.mkIdent s.toName) (by $u:tactic) ?_)
    let z ← ("bE0 bO0 fE fO fE' fO' uE uO wE wO".splitOn " ").toArray.mapM fun s => `(tactic| refine $(Lean.mkIdent s.toName) ?_)
    let ts := z ++ (← g "bE bO" e) ++ (← g "cE cE' cO cO' iE iE' iO iO'" c) ++ (← g "sE sE' sO sO' lE lE' lO lO' kE kO" e)
    `(tactic| repeat (with_reducible first $[| $ts:tactic]*))
local macro_rules
  | `(tactic| simp_arith only [$as,*]) => `(tactic| (simp_arith [$as,*]; try simp_arith! [$as,*]))
noncomputable def isHigh (x : Int) : Bool:=decide (55296 ≤ x) && decide (x ≤ 56319)
noncomputable def isLow (x : Int) : Bool:=decide (56320 ≤ x) && decide (x ≤ 57343)
noncomputable def isSur (x : Int) : Bool:=decide (55296 ≤ x) && decide (x ≤ 57343)
noncomputable def isSca (x : Int) : Bool:=(decide (0 ≤ x) && decide (x ≤ 1114111)) && !isSur x
theorem condB {a b : Bool} : cond a (some (V.bool b)) (some (.bool false)) = some (.bool (a && b)):=by cases a <;> rfl
theorem condC {a b : Bool} : cond a (some (V.bool b)) (some (.bool a)) = some (.bool (a && b)):=by cases a <;> rfl
theorem bneF {a b : Int} (h : ¬ a = b) : (a == b) = false:=beq_eq_false_iff_ne.mpr h
section
variable {k : Nat} {x : Int}
theorem is_code_eq : (geOf tab (k + 1)).fn "is_code" [.int x] [] = some (.bool (decide (0 ≤ x) && decide (x ≤ 1114111))):=sh_is_code condB
theorem is_high_eq : (geOf tab (k + 1)).fn "is_high" [.int x] [] = some (.bool (isHigh x)):=sh_is_high condB
theorem is_low_eq : (geOf tab (k + 1)).fn "is_low" [.int x] [] = some (.bool (isLow x)):=sh_is_low condB
theorem is_surrogate_eq : (geOf tab (k + 1)).fn "is_surrogate" [.int x] [] = some (.bool (isSur x)):=sh_is_surrogate condB
theorem is_scalar_eq : (geOf tab (k + 2)).fn "is_scalar" [.int x] [] = some (.bool (isSca x)):=by
 refine sh_is_scalar ?_
 simp_arith! [is_code_eq,is_surrogate_eq]
 exact condC
theorem lead1 (h : x < 128) : (geOf tab (k + 1)).fn "utf8_lead" [.int x] [] = some (.tup [.int 1,.int 0,.int 0]):=by
 refine sh_utf8_lead ?_
 simp_arith! [h]
theorem lead0 (h : (128 ≤ x ∧ x < 194) ∨ 245 ≤ x) : (geOf tab (k + 1)).fn "utf8_lead" [.int x] [] = some .none:=by
 refine sh_utf8_lead ?_
 have h1 : ¬ x < 128:=by lia
 rcases h with h | h
 ·have h2 : ¬ 194 ≤ x:=by lia
  have h3 : ¬ 224 ≤ x:=by lia
  have h4 : ¬ 240 ≤ x:=by lia
  simp_arith! [h1,h2,h3,h4]
 ·have h2 : 194 ≤ x:=by lia
  have h3 : ¬ x ≤ 223:=by lia
  have h4 : 224 ≤ x:=by lia
  have h5 : ¬ x ≤ 239:=by lia
  have h6 : 240 ≤ x:=by lia
  have h7 : ¬ x ≤ 244:=by lia
  simp_arith! [h1,h2,h3,h4,h5,h6,h7]
theorem lead2 (h : 194 ≤ x ∧ x ≤ 223) : (geOf tab (k + 1)).fn "utf8_lead" [.int x] [] = some (.tup [.int 2,.int 128,.int 191]):=by
 refine sh_utf8_lead ?_
 have h1 : ¬ x < 128:=by lia
 simp_arith! [h1,h.1,h.2]
theorem condE {x c d e : Int} {A : Int → Option V} : cond (x == c) (A d) (A e) = A (if x = c then d else e):=by
 by_cases h : x = c
 ·subst h; rw [beq_self_eq_true,if_pos rfl]; rfl
 ·rw [bneF h,if_neg h]; rfl
theorem lead3 (h : 224 ≤ x ∧ x ≤ 239) : (geOf tab (k + 1)).fn "utf8_lead" [.int x] [] = some (.tup [.int 3,.int (if x = 224 then 160 else 128),.int (if x = 237 then 159 else 191)]):=by
 refine sh_utf8_lead ?_
 have h1 : ¬ x < 128:=by lia
 have h2 : 194 ≤ x:=by lia
 have h3 : ¬ x ≤ 223:=by lia
 simp_arith [h1,h2,h3,h.1,h.2]
 rw [condE (A:=fun b =>some (V.tup [.int 3,.int 160,.int b])),condE (A:=fun b =>some (V.tup [.int 3,.int 128,.int b]))]
 exact condE (A:=fun a =>some (V.tup [.int 3,.int a,.int (if x = 237 then 159 else 191)]))
theorem lead4 (h : 240 ≤ x ∧ x ≤ 244) : (geOf tab (k + 1)).fn "utf8_lead" [.int x] [] = some (.tup [.int 4,.int (if x = 240 then 144 else 128),.int (if x = 244 then 143 else 191)]):=by
 refine sh_utf8_lead ?_
 have h1 : ¬ x < 128:=by lia
 have h2 : 194 ≤ x:=by lia
 have h3 : ¬ x ≤ 223:=by lia
 have h4 : 224 ≤ x:=by lia
 have h5 : ¬ x ≤ 239:=by lia
 simp_arith [h1,h2,h3,h4,h5,h.1,h.2]
 rw [condE (A:=fun b =>some (V.tup [.int 4,.int 144,.int b])),condE (A:=fun b =>some (V.tup [.int 4,.int 128,.int b]))]
 exact condE (A:=fun a =>some (V.tup [.int 4,.int a,.int (if x = 244 then 143 else 191)]))
noncomputable def oct8 (x : Int) : List Int :=
 if x < 128 then [x] else if x < 2048 then [192 + x / 64,128 + x % 64]
 else if x < 65536 then [224 + x / 4096,128 + x / 64 % 64,128 + x % 64]
 else [240 + x / 262144,128 + x / 4096 % 64,128 + x / 64 % 64,128 + x % 64]
theorem bor128 {x : Int} : Builtin.bitOr 128 (x % 64) = 128 + x % 64:=bor_add (a:=2) 6 rfl (by lia) (by lia) (by lia)
theorem utf8_octets_eq (h0 : 0 ≤ x) (h1 : x ≤ 1114111) : (geOf tab (k + 1)).fn "utf8_octets" [.int x] [] = some (.list ((oct8 x).map .int)):=by
 refine sh_utf8_octets ?_
 have b0:=band63 (x:=x) h0
 have b1:=band63 (x:=x / 64) (by lia)
 have b2:=band63 (x:=x / 4096) (by lia)
 unfold oct8
 by_cases c1 : x < 128
 ·rw [if_pos c1]; simp_arith [c1]; rfl
 ·rw [if_neg c1]
  by_cases c2 : x < 2048
  ·rw [if_pos c2]
   have e:=bor_add (a:=6) (b:=x / 64) (m:=192) 5 rfl (by lia) (by lia) (by lia)
   simp_arith! [c1,c2,b0,bor128,e]; rfl
  ·rw [if_neg c2]
   by_cases c3 : x < 65536
   ·rw [if_pos c3]
    have e:=bor_add (a:=14) (b:=x / 4096) (m:=224) 4 rfl (by lia) (by lia) (by lia)
    simp_arith! [c1,c2,c3,b0,b1,bor128,e]; rfl
   ·rw [if_neg c3]
    have e:=bor_add (a:=30) (b:=x / 262144) (m:=240) 3 rfl (by lia) (by lia) (by lia)
    simp_arith! [c1,c2,c3,b0,b1,b2,bor128,e,List.length_cons,List.length_nil,List.cons_append,List.nil_append]; rfl
theorem utf16_joined_eq {y : Int} (h0 : 55296 ≤ x) (h1 : x ≤ 56319) : (geOf tab (k + 1)).fn "utf16_joined" [.int x,.int y] [] = some (.int (65536 + (x - 55296) * 1024 + (y - 56320))):=by
 refine sh_utf16_joined ?_
 have hs : small (x - 55296) = true:=small_of (by lia) (by lia)
 simp_arith! [hs]
theorem sneF {o s : String} (h : ¬ o = s) : (o == s) = false:=beq_eq_false_iff_ne.mpr h
theorem utf16_octets_eq {o : String} (h0 : 0 ≤ x) : (geOf tab (k + 1)).fn "utf16_octets" [.int x,.str o] [] = some (.list ((if o = "be" then [x / 256,x % 256] else [x % 256,x / 256]).map .int)):=by
 refine sh_utf16_octets ?_
 by_cases c : o = "be"
 ·rw [if_pos c]; simp_arith! [c,beq_self_eq_true,band255 h0]; rfl
 ·rw [if_neg c]; simp_arith! [sneF c,band255 h0]; rfl
theorem utf16_unit_eq {ks : List Int} {at_ a b : Int} {o : String} (hl : ks.length ≤ 1048576) (ha : itemAt ks at_ = some a) (hb : itemAt ks (at_ + 1) = some b) (a0 : 0 ≤ a ∧ a < 256) (b0 : 0 ≤ b ∧ b < 256) : (geOf tab (k + 1)).fn "utf16_unit" [.bytes ks,.int at_,.str o] [] = some (.int (if o = "be" then a * 256 + b else b * 256 + a)):=by
 refine sh_utf16_unit ?_
 have hs1 : small a = true:=small_of (by lia) (by lia)
 have hs2 : small b = true:=small_of (by lia) (by lia)
 by_cases c : o = "be"
 ·rw [if_pos c]
  simp_arith! [c,beq_self_eq_true,hl,ha,hb,hs1,or256 a0.1 b0.1 b0.2]
 ·rw [if_neg c]
  simp_arith! [sneF c,hl,ha,hb,hs2,or256 b0.1 a0.1 a0.2]
end
noncomputable abbrev sShort : Str:="a sequence that is cut short"
noncomputable abbrev sBroken : Str:="a sequence that breaks off"
noncomputable abbrev sAlone : Str:="a trail octet without a lead"
noncomputable abbrev sNever : Str:="an octet that never stands"
noncomputable abbrev Pc:=Int × Option Int × Str
noncomputable def tailM : Nat → Int → Int → Int → Int → List Int → Pc
 | 0,d,_,_,code,_ =>(d,some code,"")
 | _ + 1,d,_,_,_,[] =>(d,none,sShort)
 | k + 1,d,lo,hi,code,o :: r =>if lo ≤ o ∧ o ≤ hi then tailM k (d + 1) 128 191 (code * 64 + o % 64) r else (d,none,sBroken)
noncomputable def pieceM : List Int → Pc
 | [] =>(1,none,"")
 | b :: r =>if b < 128 then (1,some b,"") else if 194 ≤ b ∧ b ≤ 223 then tailM 1 1 128 191 (b % 32) r
  else if 224 ≤ b ∧ b ≤ 239 then tailM 2 1 (if b = 224 then 160 else 128) (if b = 237 then 159 else 191) (b % 16) r
  else if 240 ≤ b ∧ b ≤ 244 then tailM 3 1 (if b = 240 then 144 else 128) (if b = 244 then 143 else 191) (b % 8) r
  else (1,none,if b < 192 then sAlone else sNever)
noncomputable def optV : Option Int → V
 | some c =>.int c
 | none =>.none
noncomputable def pieceV (p : Pc) : V:=.tup [.int p.1,optV p.2.1,.str p.2.2]
noncomputable def Oct (l : List Int) : Prop:=∀ x ∈ l,0 ≤ x ∧ x < 256
theorem itemAt_drop {ks l : List Int} {a : Nat} (h : ks.drop a = l) (j : Nat) (hj : j < l.length) : itemAt ks ((a : Int) + j) = l[j]?:=by
 subst h
 have hlt : a + j < ks.length:=by rw [List.length_drop] at hj; lia
 unfold itemAt
 rw [if_pos (by lia),if_pos (by lia)]
 have : ((a : Int) + j).toNat = a + j:=by lia
 simp only [this,List.getElem?_drop]
theorem len_drop {ks l : List Int} {a : Nat} (h : ks.drop a = l) (ha : a ≤ ks.length) : (ks.length : Int) = a + l.length:=by
 subst h; rw [List.length_drop]; lia
theorem Oct.cons {a : Int} {l : List Int} (h : Oct (a :: l)) : (0 ≤ a ∧ a < 256) ∧ Oct l:=⟨h a (.head _),fun x hx =>h x (.tail _ hx)⟩
theorem Oct.drop {l : List Int} (h : Oct l) (n : Nat) : Oct (l.drop n):=fun x hx =>h x (List.mem_of_mem_drop hx)
theorem Oct.take {l : List Int} (h : Oct l) (n : Nat) : Oct (l.take n):=fun x hx =>h x (List.mem_of_mem_take hx)
theorem Oct.append {l m : List Int} (h : Oct l) (h2 : Oct m) : Oct (l ++ m):=fun x hx =>(List.mem_append.mp hx).elim (h x) (h2 x)
section
variable {k : Nat} {ks : List Int} {i b c lo hi : Int}
theorem thaw_set {x : Str} {v : V} : ∀ {g : Gam},thaw (setL x (.val v) g) = setL x (.val v) (thaw g)
 | [] =>rfl
 | (y,a) :: r =>by
  cases h : y == x with
  | true =>
   simp only [setL,if_pos h]
   cases a <;> (simp only [thaw]; simp only [setL,if_pos h])
  | false =>
   have h' : ¬ (y == x) = true:=by rw [h]; exact Bool.false_ne_true
   simp only [setL,if_neg h']
   cases a <;> (simp only [thaw]; simp only [setL,if_neg h',thaw_set])
theorem itNat {l : List Int} {j : Int} (n : Nat) (h : j = n) : itemAt l j = l[n]?:=by
 subst h
 unfold itemAt
 rw [if_pos (by lia)]
 split
 ·rw [Int.toNat_natCast]
 ·rw [List.getElem?_eq_none (by lia)]
noncomputable def Bd : Nat → Int → Prop
 | 0,_ =>True
 | 1,x =>0 ≤ x ∧ x < 32768
 | 2,x =>0 ≤ x ∧ x < 512
 | 3,x =>0 ≤ x ∧ x < 8
 | _,_ =>False
theorem bd_sml {x : Int} : ∀ {q : Nat},Bd (q + 1) x → 0 ≤ x ∧ x < 32768
 | 0,h =>h
 | 1,h =>⟨h.1,Int.lt_trans h.2 (by decide)⟩
 | 2,h =>⟨h.1,Int.lt_trans h.2 (by decide)⟩
theorem bd_step {x y : Int} (hy : 0 ≤ y ∧ y < 64) : ∀ {q : Nat},Bd (q + 1) x → Bd q (x * 64 + y)
 | 0,_ =>trivial
 | 1,h =>by have h : 0 ≤ x ∧ x < 512:=h; show 0 ≤ x * 64 + y ∧ x * 64 + y < 32768; lia
 | 2,h =>by have h : 0 ≤ x ∧ x < 8:=h; show 0 ≤ x * 64 + y ∧ x * 64 + y < 512; lia
theorem bd_step' {x y : Int} {q : Nat} (hy : 0 ≤ y ∧ y < 64) (h : Bd (q + 1) x) : Bd q (64 * x + y):=by rw [Int.mul_comm]; exact bd_step hy h
theorem mod64 {o : Int} : 0 ≤ o % 64 ∧ o % 64 < 64:=⟨Int.emod_nonneg _ (by decide),Int.emod_lt_of_pos _ (by decide)⟩
theorem piece_tail {i m : Int} {l : V} : ∀ (q d : Nat) (lo hi c : Int) (r : List Int) (ex : Gam),m = (d + q : Nat) → ks.length ≤ 1048576 → (∀ j : Nat,j < r.length → itemAt ks (i + (d + j : Nat)) = r[j]?) → (ks.length : Int) = i + d + r.length → Oct r → Bd q c →
  Out (forX 33 (wt (geOf tab k)) R28.sc R28.mu (testOf (sAt (blk R28.body []) 5)) (blk R28.body [5]) ((List.range' d q).map fun (j : Nat) =>V.int (j : Int)) (("octets",.val (.bytes ks)) :: ("at",.val (.int i)) :: ("lead",.val l) :: ("many",.val (.int m)) :: ("low",.val (.int lo)) :: ("high",.val (.int hi)) :: ("code",.val (.int c)) :: ex))
   fun fl =>flC fl (fun g =>exsK 34 (wt (geOf tab k)) R28.sc R28.mu g ((blk R28.body []).drop 6) retF) (fun g =>retF (.brk g)) (fun w g =>retF (.ret w g)) = some (pieceV (tailM q d lo hi c r))
 | 0,d,lo,hi,c,r,ex,hm,hl,hr,hn,ho,hcb =>by
  refine for_nil ?_
  subst hm
  dsimp only [fN]
  exact sha_utf8_piece rfl
 | q + 1,d,lo,hi,c,r,ex,hm,hl,hr,hn,ho,hcb =>by
  simp only [List.range'_succ,List.map_cons]
  refine for_cons (g1:=("octets",.val (.bytes ks)) :: ("at",.val (.int i)) :: ("lead",.val l) :: ("many",.val (.int m)) :: ("low",.val (.int lo)) :: ("high",.val (.int hi)) :: ("code",.val (.int c)) :: setL "behind" (AV.val (.int d)) ex) (by kernel_rfl) (shb_utf8_piece ?_)
  have hne : (("behind" : Str) == ("octet" : Str)) = false:=by kernel_rfl
  rcases r with _ | ⟨o,r⟩
  ·have L1 : (ks.length : Int) ≤ i + d:=by simp at hn; lia
   simp_arith only [thaw_set,hl,L1]
   rfl
  ·have L1 : ¬ (ks.length : Int) ≤ i + d:=by simp at hn; lia
   have h1 : itemAt ks (i + d) = some o:=hr 0 (by simp)
   simp_arith only [thaw_set,hl,L1,hne,h1]
   unfold tailM
   by_cases h2 : lo ≤ o
   ·by_cases h3 : o ≤ hi
    ·have b2 : Builtin.bitAnd o 63 = o % 64:=band63 ho.cons.1.1
     have b3 : Builtin.bitOr (c * 64) (o % 64) = c * 64 + o % 64:=or64 (bd_sml hcb).1 mod64.1 mod64.2
     simp_arith! [h2,h3,b2,b3,small_of (bd_sml hcb).1 (Int.lt_trans (bd_sml hcb).2 (by decide)),hne]
     rw [if_pos ⟨trivial,trivial⟩]
     exact piece_tail q (d + 1) 128 191 _ r _ (by lia) hl (fun j hj =>by have:=hr (j + 1) (by simpa using hj); rw [← Nat.add_assoc,Nat.add_right_comm] at this; rw [this]; rfl) (by simp at hn; lia) ho.cons.2 (bd_step mod64 hcb)
    ·simp_arith! [h2,h3,hne]; rw [if_neg (fun h =>h.2)]; rfl
   ·simp_arith! [h2,hne]; rw [if_neg (fun h =>h.1)]; rfl
theorem rg2 : iterV "range" [.int 1,.int 2] = some ((List.range' 1 1).map fun (j : Nat) =>V.int (j : Int)):=by kernel_rfl
theorem rg3 : iterV "range" [.int 1,.int 3] = some ((List.range' 1 2).map fun (j : Nat) =>V.int (j : Int)):=by kernel_rfl
theorem rg4 : iterV "range" [.int 1,.int 4] = some ((List.range' 1 3).map fun (j : Nat) =>V.int (j : Int)):=by kernel_rfl
theorem sh2 : binV .RShift (.int 127) (.int 2) = some (.int 31):=by kernel_rfl
theorem sh3 : binV .RShift (.int 127) (.int 3) = some (.int 15):=by kernel_rfl
theorem sh4 : binV .RShift (.int 127) (.int 4) = some (.int 7):=by kernel_rfl
end
theorem utf8_piece_eq {k : Nat} {ks : List Int} {a : Nat} (hl : ks.length ≤ 1048576) (ha : a < ks.length) (ho : Oct ks) : (geOf tab (k + 2)).fn "utf8_piece" [.bytes ks,.int a] [] = some (pieceV (pieceM (ks.drop a))):=by
 refine sh_utf8_piece ?_
 have hd:=ho.drop a
 cases hr : ks.drop a with
 | nil =>have:=congrArg List.length hr; simp at this; lia
 | cons b r =>
  rw [hr] at hd
  have hn:=len_drop hr (Nat.le_of_lt ha)
  have hn' : (ks.length : Int) = a + (1 : Nat) + r.length:=by simp at hn; lia
  have h0 : itemAt ks a = some b:=by
   have:=itemAt_drop hr 0 (by simp)
   simpa using this
  have hj : ∀ j : Nat,j < r.length → itemAt ks ((a : Int) + (1 + j : Nat)) = r[j]?:=fun j h =>by
   have:=itemAt_drop hr (j + 1) (by simpa using h)
   simp only [Nat.add_comm 1 j,this]; rfl
  have ob:=hd.cons.1
  have or:=hd.cons.2
  have i0 : itemV (.bytes ks) (.int a) = some (.int b):=(itB hl).trans (by rw [h0]; rfl)
  refine bE i0 (bE i0 ?_)
  rw [pieceM]
  by_cases c1 : b < 128
  ·rw [if_pos c1]
   simp_arith! [hl,h0,lead1 c1]; rfl
  rw [if_neg c1]
  by_cases c2 : 194 ≤ b ∧ b ≤ 223
  ·rw [if_pos c2]
   simp_arith [hl,h0,lead2 c2,sh2,rg2,band_mask 5 (show (31 : Int) = 2 ^ 5 - 1 from rfl) ob.1]
   exact loopE (piece_tail 1 1 _ _ _ r [] (by simp) hl hj hn' or ⟨Int.emod_nonneg _ (by decide),Int.lt_trans (Int.emod_lt_of_pos _ (by decide)) (by decide)⟩)
  rw [if_neg c2]
  by_cases c3 : 224 ≤ b ∧ b ≤ 239
  ·rw [if_pos c3]
   simp_arith only [hl,h0,lead3 c3,sh3,rg3,band_mask 4 (show (15 : Int) = 2 ^ 4 - 1 from rfl) ob.1]
   exact loopE (piece_tail 2 1 _ _ _ r [] (by simp) hl hj hn' or ⟨Int.emod_nonneg _ (by decide),Int.lt_trans (Int.emod_lt_of_pos _ (by decide)) (by decide)⟩)
  rw [if_neg c3]
  by_cases c4 : 240 ≤ b ∧ b ≤ 244
  ·rw [if_pos c4]
   simp_arith only [hl,h0,lead4 c4,sh4,rg4,band_mask 3 (show (7 : Int) = 2 ^ 3 - 1 from rfl) ob.1]
   exact loopE (piece_tail 3 1 _ _ _ r [] (by simp) hl hj hn' or ⟨Int.emod_nonneg _ (by decide),Int.emod_lt_of_pos _ (by decide)⟩)
  rw [if_neg c4]
  have c5 : (128 ≤ b ∧ b < 194) ∨ 245 ≤ b:=by lia
  by_cases c6 : b < 192
  ·rw [if_pos c6]; simp_arith! [hl,h0,lead0 c5,c6]; rfl
  ·rw [if_neg c6]; simp_arith! [hl,h0,lead0 c5,c6]; rfl
theorem tailM_bd : ∀ (k : Nat) (d lo hi code : Int) (r : List Int),d ≤ (tailM k d lo hi code r).1 ∧ (tailM k d lo hi code r).1 ≤ d + r.length
 | 0,d,_,_,_,r =>by simp [tailM]; lia
 | k + 1,d,_,_,_,[] =>by simp [tailM]
 | k + 1,d,lo,hi,code,o :: r =>by
  rw [tailM]
  split
  ·have:=tailM_bd k (d + 1) 128 191 (code * 64 + o % 64) r
   simp only [List.length_cons]; lia
  ·simp only [List.length_cons]; lia
theorem pieceM_bd {l : List Int} (h : l ≠ []) : 1 ≤ (pieceM l).1 ∧ (pieceM l).1 ≤ l.length:=by
 cases l with
 | nil =>exact absurd rfl h
 | cons b r =>
  simp only [pieceM,List.length_cons]
  split
  ·simp only; lia
  ·split
   ·have:=tailM_bd 1 1 128 191 (b % 32) r; lia
   ·split
    ·have:=tailM_bd 2 1 (if b = 224 then 160 else 128) (if b = 237 then 159 else 191) (b % 16) r; omega
    ·split
     ·have:=tailM_bd 3 1 (if b = 240 then 144 else 128) (if b = 244 then 143 else 191) (b % 8) r; omega
     ·simp only; lia
noncomputable def run (last : Bool) (l : List Int) : List Int × List Int :=
 if h : l = [] then ([],[]) else
  if (pieceM l).2.2 = sShort ∧ last = false then ([],l)
  else ((pieceM l).2.1.getD 65533 :: (run last (l.drop (pieceM l).1.toNat)).1,(run last (l.drop (pieceM l).1.toNat)).2)
termination_by l.length
decreasing_by all_goals exact dec_ h (pieceM_bd h).1
theorem run_nil {last : Bool} : run last [] = ([],[]):=by rw [run]; rfl
theorem run_short {last : Bool} {l : List Int} (h : l ≠ []) (h2 : (pieceM l).2.2 = sShort ∧ last = false) : run last l = ([],l):=by rw [run,dif_neg h,if_pos h2]
theorem run_step {last : Bool} {l : List Int} (h : l ≠ []) (h2 : ¬ ((pieceM l).2.2 = sShort ∧ last = false)) : run last l = ((pieceM l).2.1.getD 65533 :: (run last (l.drop (pieceM l).1.toNat)).1,(run last (l.drop (pieceM l).1.toNat)).2):=by
 rw [run,dif_neg h,if_neg h2]
theorem run_len (last : Bool) : ∀ (n : Nat) (l : List Int),l.length ≤ n → (run last l).1.length + (run last l).2.length ≤ l.length
 | _,[],_ =>by rw [run_nil]; simp
 | 0,_ :: _,h =>by simp at h
 | n + 1,b :: r,h =>by
  have hne : b :: r ≠ []:=by simp
  by_cases h2 : (pieceM (b :: r)).2.2 = sShort ∧ last = false
  ·rw [run_short hne h2]; simp
  ·rw [run_step hne h2]
   have hb:=pieceM_bd hne
   have:=run_len last n ((b :: r).drop (pieceM (b :: r)).1.toNat) (dnD hb.1 h)
   rw [List.length_drop] at this
   exact rl_ hb.1 hb.2 this
theorem drop_ne {ks : List Int} {a : Nat} (h : a < ks.length) : ks.drop a ≠ []:=by
 intro e; have:=congrArg List.length e; simp at this; lia
theorem decode_utf8_replaced_eq {k : Nat} {ks : List Int} (hl : ks.length ≤ 1000) (ho : Oct ks) : (geOf tab (k + 3)).fn "decode_utf8_replaced" [.bytes ks] [] = some (.list ((run true ks).1.map .int)):=by
 have hl' : ks.length ≤ 1048576:=by lia
 refine sh_decode_utf8_replaced (loopE (cursor (L:=ks.length) (d:=0) (E:=fun a (fs : List Int) ex =>("octets",.val (.bytes ks)) :: ("found",.own (fs.map .int)) :: ("at",.val (.int a)) :: ex) (J:=fun a fs =>fs ++ (run true (ks.drop a)).1 = (run true ks).1) hl ?_ ?_ ?_ (Nat.zero_le _) rfl))
 ·intro a fs ex
  refine sht_decode_utf8_replaced ?_
  simp_arith only [hl']
 ·intro a fs ex hlt hfs h6
  have hp:=utf8_piece_eq (k:=k) hl' hlt ho
  have hb:=pieceM_bd (drop_ne hlt)
  rw [List.length_drop] at hb
  rw [run_step (last:=true) (drop_ne hlt) (fun h =>nomatch h.2),List.drop_drop] at h6
  refine shb_decode_utf8_replaced ?_
  have e1 : (("code" : Str) == ("wrong" : Str)) = false:=by kernel_rfl
  have e2 : (("many" : Str) == ("wrong" : Str)) = false:=by kernel_rfl
  have e3 : (("many" : Str) == ("code" : Str)) = false:=by kernel_rfl
  have hm:=nx4 (a:=a) hb.1
  cases hz : (pieceM (ks.drop a)).2.1 with
  | none =>
   rw [hz] at h6
   simp_arith! [hp,pieceV,hz,optV,e1,e2,e3,List.length_map,hfs,hm]
   exact ⟨_,65533,_,by rw [mapS],hb.1,hb.2,by rw [List.append_assoc]; exact h6⟩
  | some c =>
   rw [hz] at h6
   simp_arith only [hp,pieceV,hz,optV,e1,e2,e3,List.length_map,hfs,hm]
   exact ⟨_,c,_,by rw [mapS],hb.1,hb.2,by rw [List.append_assoc]; exact h6⟩
 ·intro fs ex _ h6
  rw [List.drop_length,run_nil,List.append_nil] at h6
  rw [fN,h6]
  exact sha_decode_utf8_replaced rfl
noncomputable def fl8 (w : List Int) (n : Int) : List (Str × V):=[("is_strict",.bool false),("waiting",.bytes w),("place",.int n)]
theorem init8_eq {k : Nat} : (geOf tab (k + 1)).cls "Utf8Stream" [] = some (fl8 [] 0):=sh_Utf8Stream_init rfl
noncomputable def out8 (w p : List Int) (n : Int) (last : Bool) : V × List (Str × V):=(.list ((run last (w ++ p)).1.map .int),fl8 (if last = true then [] else (run last (w ++ p)).2) (if last = true then 0 else n + ((w ++ p).length - (run last (w ++ p)).2.length : Nat)))
theorem fin8_eq {k a : Nat} {w p : List Int} {n : Int} {last : Bool} {ex : Gam} (hl : (w ++ p).length ≤ 1000) (ha : a ≤ (w ++ p).length) (hd : (w ++ p).drop a = (run last (w ++ p)).2) : exsK 38 (wt (geOf tab k)) R31_1.sc R31_1.mu (("self",.inst "Utf8Stream" [("is_strict",V.bool false),("waiting",V.bytes w),("place",V.int n)]) :: ("octets",.val (.bytes p)) :: ("is_last",.val (.bool last)) :: ("whole",.val (.bytes (w ++ p))) :: ("found",.own ((run last (w ++ p)).1.map V.int)) :: ("at",.val (.int a)) :: ex) ((blk R31_1.body []).drop 2) retMf = some (out8 w p n last):=by
 refine sha_feed8 ?_
 unfold out8
 have hl' : (w ++ p).length ≤ 1048576:=by lia
 cases last with
 | true =>rfl
 | false =>
  have hna : (a : Int).natAbs < 4611686018427387904:=by lia
  have hx:=congrArg List.length hd
  rw [List.length_drop] at hx
  have ha' : (w ++ p).length - (run false (w ++ p)).2.length = a:=by rw [← hx]; exact Nat.sub_sub_self ha
  simp_arith only [hna,hl',cut_drop,hd,ha']
  rfl
theorem feed8_eq {k : Nat} {w p : List Int} {n : Int} {last : Bool} (hw : w.length + p.length ≤ 1000) (ho : Oct (w ++ p)) : (geOf tab (k + 3)).mth "Utf8Stream" "feed" (fl8 w n) [.bytes p,.bool last] = some (out8 w p n last):=by
 have hl1 : w.length + p.length ≤ 1048576:=by lia
 have hl2 : (w ++ p).length ≤ 1000:=by rw [List.length_append]; exact hw
 have hl' : (w ++ p).length ≤ 1048576:=by lia
 refine sh_Utf8Stream_feed (Eq.trans (congrArg (Option.bind · _) (adB hl1)) (loopE (cursor (L:=(w ++ p).length) (d:=0) (E:=fun a (fs : List Int) ex =>("self",.inst "Utf8Stream" [("is_strict",V.bool false),("waiting",V.bytes w),("place",V.int n)]) :: ("octets",.val (.bytes p)) :: ("is_last",.val (.bool last)) :: ("whole",.val (.bytes (w ++ p))) :: ("found",.own (fs.map .int)) :: ("at",.val (.int a)) :: ex) (J:=fun a fs =>fs ++ (run last ((w ++ p).drop a)).1 = (run last (w ++ p)).1 ∧ (run last ((w ++ p).drop a)).2 = (run last (w ++ p)).2) hl2 ?_ ?_ ?_ (Nat.zero_le _) ⟨rfl,rfl⟩)))
 ·intro a fs ex
  refine sht_feed8 ?_
  simp_arith! [hl']
 ·intro a fs ex hlt hfs ⟨h6,h7⟩
  have hp:=utf8_piece_eq (k:=k) hl' hlt ho
  have hb:=pieceM_bd (drop_ne hlt)
  rw [List.length_drop] at hb
  refine shb_feed8 ?_
  have e1 : (("code" : Str) == ("wrong" : Str)) = false:=by kernel_rfl
  have e2 : (("many" : Str) == ("wrong" : Str)) = false:=by kernel_rfl
  have e3 : (("many" : Str) == ("code" : Str)) = false:=by kernel_rfl
  have hm:=nx4 (a:=a) hb.1
  have next : ∀ (c : Int),(pieceM ((w ++ p).drop a)).2.1.getD 65533 = c → ¬ ((pieceM ((w ++ p).drop a)).2.2 = sShort ∧ last = false) → (fs ++ [c]) ++ (run last ((w ++ p).drop (a + (pieceM ((w ++ p).drop a)).1.toNat))).1 = (run last (w ++ p)).1 ∧ (run last ((w ++ p).drop (a + (pieceM ((w ++ p).drop a)).1.toNat))).2 = (run last (w ++ p)).2:=by
   intro c hz hs
   simp only [run_step (drop_ne hlt) hs,List.drop_drop,hz] at h6 h7
   exact ⟨by rw [List.append_assoc]; exact h6,h7⟩
  by_cases hs : (pieceM ((w ++ p).drop a)).2.2 = sShort ∧ last = false
  ·have hs1 : ((pieceM ((w ++ p).drop a)).2.2 == sShort) = true:=by rw [hs.1]; exact beq_self_eq_true _
   rw [run_short (drop_ne hlt) hs] at h6 h7
   rw [List.append_nil] at h6
   have hs2:=hs.2
   subst hs2
   simp_arith only [hp,pieceV,e1,e2,e3,hs1]
   rw [h6]
   exact fin8_eq hl2 (Nat.le_of_lt hlt) h7
  ·simp_arith [hp,pieceV,e1,e2,e3]
   refine cR (fun hb =>cE' (by cases last with | true =>rfl | false =>exact absurd ⟨beq_iff_eq.mp hb,rfl⟩ hs) rfl) ?_
   cases hz : (pieceM ((w ++ p).drop a)).2.1 with
   | none =>
    simp_arith! [hz,optV,e1,e2,e3,List.length_map,hfs,hm]
    exact ⟨_,65533,_,by rw [mapS],hb.1,hb.2,next _ (by rw [hz]; rfl) hs⟩
   | some c =>
    simp_arith only [hz,optV,e1,e2,e3,List.length_map,hfs,hm]
    exact ⟨_,c,_,by rw [mapS],hb.1,hb.2,next _ (by rw [hz]; rfl) hs⟩
 ·intro fs ex _ ⟨h6,h7⟩
  rw [List.drop_length,run_nil] at h6 h7
  rw [List.append_nil] at h6
  rw [fN,h6]
  exact fin8_eq hl2 (Nat.le_refl _) (by rw [List.drop_length]; exact h7)
theorem feed8_aux {k : Nat} {w p : List Int} {n : Int} {last : Bool} (hw : w.length + p.length ≤ 1000) (ho : Oct (w ++ p)) : Out ((geOf tab (k + 3)).mth "Utf8Stream" "feed" (fl8 w n) [.bytes p,.bool last]) (fun x =>∃ n',x = (.list ((run last (w ++ p)).1.map .int),fl8 (if last = true then [] else (run last (w ++ p)).2) n')):=⟨_,feed8_eq hw ho,_,rfl⟩
noncomputable def Sca (x : Int) : Prop:=(0 ≤ x ∧ x < 55296) ∨ (57344 ≤ x ∧ x ≤ 1114111)
theorem sca_iff {x : Int} : isSca x = true ↔ Sca x:=by
 unfold isSca isSur Sca
 simp only [Bool.and_eq_true,decide_eq_true_eq,Bool.not_eq_true',Bool.and_eq_false_iff,decide_eq_false_iff_not]
 constructor
 ·rintro ⟨⟨a,b⟩,c | c⟩
  ·exact .inl ⟨a,Int.not_le.mp c⟩
  ·exact .inr ⟨Int.not_le.mp c,b⟩
 ·rintro (⟨a,b⟩ | ⟨a,b⟩)
  ·exact ⟨⟨a,Int.le_trans (Int.le_of_lt b) (by decide)⟩,.inl (Int.not_le.mpr b)⟩
  ·exact ⟨⟨Int.le_trans (by decide) a,b⟩,.inr (Int.not_le.mpr a)⟩
theorem Sca.b {x : Int} (h : Sca x) : isSca x = true:=sca_iff.mpr h
noncomputable def Scas (l : List Int) : Prop:=∀ x ∈ l,Sca x
theorem Scas.cons {a : Int} {l : List Int} (h : Scas (a :: l)) : Sca a ∧ Scas l:=⟨h a (.head _),fun x hx =>h x (.tail _ hx)⟩
theorem intsV_map : ∀ l : List Int,intsV (l.map .int) = some l
 | [] =>rfl
 | a :: r =>by simp only [List.map_cons,intsV,intsV_map r]; rfl
theorem dl {x : Int} (a : Int) (h : a * 64 ≤ x) : a ≤ x / 64:=Int.le_ediv_of_mul_le (by decide) h
theorem dh {x : Int} (a : Int) (h : x < a * 64) : x / 64 < a:=Int.ediv_lt_of_lt_mul (by decide) h
theorem dd2 {x : Int} : x / 4096 = x / 64 / 64:=(Int.ediv_ediv_of_nonneg (x:=x) (y:=64) (z:=64) (by decide)).symm
theorem dd3 {x : Int} : x / 262144 = x / 64 / 64 / 64:=(Int.ediv_ediv_of_nonneg (x:=x) (y:=4096) (z:=64) (by decide)).symm.trans (congrArg (· / 64) dd2)
theorem lo_ {b q a n : Int} (h : a ≤ q) (d : n ≤ b + a) : n ≤ b + q:=Int.le_trans d (Int.add_le_add_left h b)
theorem hi_ {b q a n : Int} (h : q < a) (d : b + a ≤ n) : b + q < n:=Int.lt_of_lt_of_le (Int.add_lt_add_left h b) d
theorem am {m q : Int} (k : Int) (h0 : 0 ≤ q) (h : q < m) : (m * k + q) % m = q:=by rw [Int.add_comm,Int.add_mul_emod_self_left,Int.emod_eq_of_lt h0 h]
theorem md0 {y : Int} : 0 ≤ y % 64:=Int.emod_nonneg _ (by decide)
theorem md1 {y : Int} : y % 64 < 64:=Int.emod_lt_of_pos _ (by decide)
theorem in6 {y : Int} : 128 ≤ 128 + y % 64 ∧ 128 + y % 64 ≤ 191:=⟨lo_ md0 (by decide),Int.le_of_lt_add_one (b:=191) (hi_ md1 (by decide))⟩
theorem oc1 {a : Int} {l : List Int} (h : 0 ≤ a ∧ a < 256) (h2 : Oct l) : Oct (a :: l):=fun x hx =>(List.mem_cons.mp hx).elim (fun e =>e ▸ h) (h2 x)
theorem omd {x : Int} : 0 ≤ x % 256 ∧ x % 256 < 256:=⟨Int.emod_nonneg _ (by decide),Int.emod_lt_of_pos _ (by decide)⟩
theorem odv {x : Int} (c : Int) (hc : 0 < c) (h : 0 ≤ x) (h2 : x < 256 * c) : 0 ≤ x / c ∧ x / c < 256:=⟨Int.ediv_nonneg h (Int.le_of_lt hc),Int.ediv_lt_of_lt_mul hc h2⟩
theorem oc0 : Oct []:=fun x hx =>nomatch hx
theorem oc6 {y : Int} {l : List Int} (h : Oct l) : Oct ((128 + y % 64) :: l):=oc1 ⟨lo_ md0 (by decide),hi_ md1 (by decide)⟩ h
theorem ocd {b q c : Int} (d : Int) {l : List Int} (h0 : 0 ≤ q) (h1 : q < d * c) (hc : 0 < c) (hb : 0 ≤ b) (h : b + d ≤ 256) (k : Oct l) : Oct ((b + q / c) :: l):=oc1 ⟨Int.add_nonneg hb (Int.ediv_nonneg h0 (Int.le_of_lt hc)),hi_ (Int.ediv_lt_of_lt_mul hc h1) h⟩ k
theorem Sca.rg {x : Int} (h : Sca x) : 0 ≤ x ∧ x < 1114112:=h.elim (fun h =>⟨h.1,Int.lt_trans h.2 (by decide)⟩) fun h =>⟨Int.le_trans (by decide) h.1,Int.lt_of_le_of_lt h.2 (by decide)⟩
theorem oct8_oct {x : Int} (h : Sca x) : Oct (oct8 x):=by
 unfold oct8
 have r:=h.rg
 by_cases c1 : x < 128
 ·rw [if_pos c1]; exact oc1 ⟨r.1,Int.lt_trans c1 (by decide)⟩ oc0
 ·rw [if_neg c1]
  by_cases c2 : x < 2048
  ·rw [if_pos c2]; exact ocd 32 r.1 c2 (by decide) (by decide) (by decide) (oc6 oc0)
  ·rw [if_neg c2]
   by_cases c3 : x < 65536
   ·rw [if_pos c3]; exact ocd 16 r.1 c3 (by decide) (by decide) (by decide) (oc6 (oc6 oc0))
   ·rw [if_neg c3]; exact ocd 5 r.1 (Int.lt_trans r.2 (by decide)) (by decide) (by decide) (by decide) (oc6 (oc6 (oc6 oc0)))
theorem oct8_len {x : Int} : 1 ≤ (oct8 x).length ∧ (oct8 x).length ≤ 4:=by
 unfold oct8
 split
 ·simp
 ·split
  ·simp
  ·split <;> simp
theorem enc8_oct : ∀ {l : List Int},Scas l → Oct (l.flatMap oct8)
 | [],_ =>fun x hx =>by cases hx
 | a :: r,h =>by rw [List.flatMap_cons]; exact (oct8_oct h.cons.1).append (enc8_oct h.cons.2)
theorem enc8_len : ∀ {l : List Int},(l.flatMap oct8).length ≤ 4 * l.length
 | [] =>by simp
 | a :: r =>by
  have h1:=enc8_len (l:=r)
  have h2:=oct8_len (x:=a)
  simp only [List.flatMap_cons,List.length_append,List.length_cons]; lia
theorem t6 {y : Int} : (128 + y % 64) % 64 = y % 64:=am (m:=64) 2 md0 md1
theorem j6 {y : Int} : y / 64 * 64 + y % 64 = y:=Int.ediv_mul_add_emod y 64
theorem ld2 {q : Int} (h : 2 ≤ q ∧ q < 32) : ¬ 192 + q < 128 ∧ (194 ≤ 192 + q ∧ 192 + q ≤ 223) ∧ (192 + q) % 32 = q:=⟨Int.not_lt.mpr (lo_ h.1 (by decide)),⟨lo_ h.1 (by decide),Int.le_of_lt_add_one (b:=223) (hi_ h.2 (by decide))⟩,am (m:=32) 6 (Int.le_trans (by decide) h.1) h.2⟩
theorem ld3 {q : Int} (h : 0 ≤ q ∧ q < 16) : ¬ 224 + q < 128 ∧ ¬ (194 ≤ 224 + q ∧ 224 + q ≤ 223) ∧ (224 ≤ 224 + q ∧ 224 + q ≤ 239) ∧ (224 + q) % 16 = q:=⟨Int.not_lt.mpr (lo_ h.1 (by decide)),fun c =>Int.not_le.mpr (show (223 : Int) + 1 ≤ 224 + q from lo_ h.1 (by decide)) c.2,⟨lo_ h.1 (by decide),Int.le_of_lt_add_one (b:=239) (hi_ h.2 (by decide))⟩,am (m:=16) 14 h.1 h.2⟩
theorem ld4 {q : Int} (h : 0 ≤ q ∧ q < 5) : ¬ 240 + q < 128 ∧ ¬ (194 ≤ 240 + q ∧ 240 + q ≤ 223) ∧ ¬ (224 ≤ 240 + q ∧ 240 + q ≤ 239) ∧ (240 ≤ 240 + q ∧ 240 + q ≤ 244) ∧ (240 + q) % 8 = q:=⟨Int.not_lt.mpr (lo_ h.1 (by decide)),fun c =>Int.not_le.mpr (show (223 : Int) + 1 ≤ 240 + q from lo_ h.1 (by decide)) c.2,fun c =>Int.not_le.mpr (show (239 : Int) + 1 ≤ 240 + q from lo_ h.1 (by decide)) c.2,⟨lo_ h.1 (by decide),Int.le_of_lt_add_one (b:=244) (hi_ h.2 (by decide))⟩,am (m:=8) 30 h.1 (Int.lt_trans h.2 (by decide))⟩
theorem sp3 {y : Int} (h1 : 32 ≤ y) (h2 : y < 864 ∨ 896 ≤ y) : (if 224 + y / 64 = 224 then 160 else 128) ≤ 128 + y % 64 ∧ 128 + y % 64 ≤ (if 224 + y / 64 = 237 then 159 else 191):=by
 constructor <;> split <;> omega
theorem sp4 {y : Int} (h1 : 16 ≤ y) (h2 : y ≤ 271) : (if 240 + y / 64 = 240 then 144 else 128) ≤ 128 + y % 64 ∧ 128 + y % 64 ≤ (if 240 + y / 64 = 244 then 143 else 191):=by
 constructor <;> split <;> omega
theorem piece_oct8 {x : Int} {r : List Int} (h : Sca x) : pieceM (oct8 x ++ r) = (((oct8 x).length : Int),some x,("" : Str)):=by
 unfold oct8
 by_cases c1 : x < 128
 ·simp only [c1,if_true,List.cons_append,List.nil_append,pieceM]; rfl
 ·rw [if_neg c1]
  by_cases c2 : x < 2048
  ·rw [if_pos c2]
   refine bc fun hN =>?_
   obtain ⟨a1,a2,a3⟩:=ld2 (q:=x / 64) ⟨dl 2 (Int.not_lt.mp c1),dh 32 c2⟩
   refine hN ?_; clear hN
   simp only [List.cons_append,List.nil_append,pieceM,tailM]
   rw [if_neg a1,if_pos a2,if_pos in6,a3,t6,j6]; rfl
  ·rw [if_neg c2]
   by_cases c3 : x < 65536
   ·refine bc fun hN =>?_
    obtain ⟨a1,a2,a3,a4⟩:=ld3 (q:=x / 64 / 64) ⟨Int.ediv_nonneg (Int.ediv_nonneg h.rg.1 (by decide)) (by decide),dh 16 (dh 1024 c3)⟩
    refine hN ?_; clear hN
    rw [if_pos c3,dd2]
    simp only [List.cons_append,List.nil_append,pieceM,tailM]
    rw [if_neg a1,if_neg a2,if_pos a3,if_pos (sp3 (dl 32 (Int.not_lt.mp c2)) (h.imp (fun h =>dh 864 h.2) fun h =>dl 896 h.1)),if_pos in6,a4,t6,j6,t6,j6]; rfl
   ·refine bc fun hN =>?_
    obtain ⟨a1,a2,a3,a4,a5⟩:=ld4 (q:=x / 64 / 64 / 64) ⟨Int.ediv_nonneg (Int.ediv_nonneg (Int.ediv_nonneg h.rg.1 (by decide)) (by decide)) (by decide),dh 5 (dh 320 (dh 20480 (Int.lt_trans h.rg.2 (by decide))))⟩
    refine hN ?_; clear hN
    rw [if_neg c3,dd3,dd2]
    simp only [List.cons_append,List.nil_append,pieceM,tailM]
    rw [if_neg a1,if_neg a2,if_neg a3,if_pos a4,if_pos (sp4 (dl 16 (dl 1024 (Int.not_lt.mp c3))) (Int.le_of_lt_add_one (b:=271) (dh 272 (dh 17408 h.rg.2)))),if_pos in6,if_pos in6,a5,t6,j6,t6,j6,t6,j6]; rfl
theorem byL {l : List Int} (h1 : l.length ≤ 1048576) (h2 : ∀ n ∈ l,0 ≤ n ∧ n < 256) : bltV "bytes" [.list (l.map .int)] = some (.bytes l):=by
 rw [bl_bytes,intsV_map]
 exact if_pos ⟨h1,h2⟩
theorem encode_utf8_eq {k : Nat} {text : List Int} (hl : text.length ≤ 100) (hs : Scas text) : (geOf tab (k + 3)).fn "encode_utf8" [.list (text.map .int)] [] = some (.bytes (text.flatMap oct8)):=by
 have hl' : (text.map V.int).length ≤ 1048576:=by rw [List.length_map]; lia
 have hel : (text.flatMap oct8).length ≤ 1048576:=by have:=enc8_len (l:=text); lia
 refine sh_encode_utf8 (Eq.trans (congrArg (Option.bind · _) (isL hl')) (loopE (for_rule (fun ns g =>∃ fs ex,g = (("text" : Str),AV.val (.list (text.map .int))) :: (("found" : Str),AV.own (fs.map .int)) :: ex ∧ Scas ns ∧ fs ++ ns.flatMap oct8 = text.flatMap oct8) ?_ ?_ text _ ⟨[],[],rfl,hs,rfl⟩)))
 ·rintro x r g ⟨fs,ex,hg,h2,h3⟩
  subst hg
  have h0 : 0 ≤ x ∧ x ≤ 1114111:=by have:=h2.cons.1; unfold Sca at this; lia
  have hle : (fs.map V.int).length + ((oct8 x).map V.int).length ≤ 1048576:=by
   have:=congrArg List.length h3
   rw [List.flatMap_cons] at this
   simp only [List.length_append,List.length_map] at this ⊢; lia
  refine ⟨(("text" : Str),AV.val (.list (text.map .int))) :: (("found" : Str),AV.own (fs.map .int)) :: setL ("code" : Str) (.val (.int x)) ex,by kernel_rfl,shb_encode_utf8 ?_⟩
  simp_arith! [is_scalar_eq,h2.cons.1.b,utf8_octets_eq h0.1 h0.2,hle]
  refine ⟨fs ++ oct8 x,_,by rw [List.map_append],h2.cons.2,?_⟩
  rw [← h3]; simp
 ·rintro g ⟨fs,ex,hg,h2,h3⟩
  subst hg
  simp only [List.flatMap_nil,List.append_nil] at h3
  subst h3
  rw [fN]
  refine sha_encode_utf8 ?_
  rw [byL hel (enc8_oct hs)]; rfl
theorem decode_utf8_eq {k : Nat} {text : List Int} (hl : text.length ≤ 100) (hs : Scas text) : (geOf tab (k + 3)).fn "decode_utf8" [.bytes (text.flatMap oct8)] [] = some (.list (text.map .int)):=by
 have hel : (text.flatMap oct8).length ≤ 1000:=by have:=enc8_len (l:=text); lia
 have ho:=enc8_oct hs
 generalize hks : text.flatMap oct8 = ks at *
 have hl' : ks.length ≤ 1048576:=by lia
 refine sh_decode_utf8 (loopE (cursor (L:=ks.length) (d:=0) (E:=fun a (fs : List Int) ex =>("octets",.val (.bytes ks)) :: ("found",.own (fs.map .int)) :: ("at",.val (.int a)) :: ex) (J:=fun a fs =>∃ rem,ks.drop a = rem.flatMap oct8 ∧ fs ++ rem = text ∧ Scas rem) hel ?_ ?_ ?_ (Nat.zero_le _) ?_))
 ·intro a fs ex
  refine sht_decode_utf8 ?_
  simp_arith! [hl']
 ·rintro a fs ex hlt hfs ⟨rem,h6,h7,h8⟩
  have hp:=utf8_piece_eq (k:=k) hl' hlt ho
  cases rem with
  | nil =>rw [List.flatMap_nil] at h6; exact absurd h6 (drop_ne hlt)
  | cons x r =>
   have h9:=h8.cons
   simp only [h6,List.flatMap_cons,piece_oct8 h9.1] at hp
   refine shb_decode_utf8 ?_
   have e1 : (("code" : Str) == ("wrong" : Str)) = false:=by kernel_rfl
   have e2 : (("many" : Str) == ("wrong" : Str)) = false:=by kernel_rfl
   have e3 : (("many" : Str) == ("code" : Str)) = false:=by kernel_rfl
   simp_arith! [hp,pieceV,optV,e1,e2,e3,List.length_map,hfs]
   have hdl:=congrArg List.length h6
   rw [List.flatMap_cons,List.length_append,List.length_drop] at hdl
   refine ⟨((oct8 x).length : Int),x,_,by rw [mapS]; rfl,Int.ofNat_le.mpr oct8_len.1,Int.ofNat_le.mpr (by rw [hdl]; exact Nat.le_add_right _ _),r,?_,by rw [List.append_assoc]; exact h7,h9.2⟩
   simp only [Int.toNat_natCast,← List.drop_drop,h6,List.flatMap_cons,List.drop_left]
 ·rintro fs ex _ ⟨rem,h6,h7,_⟩
  rw [List.drop_length] at h6
  rw [fN]
  cases rem with
  | nil =>rw [List.append_nil] at h7; rw [h7]; exact sha_decode_utf8 rfl
  | cons x r =>
   have:=congrArg List.length h6
   rw [List.flatMap_cons,List.length_append,List.length_nil] at this
   exact absurd (Nat.eq_zero_of_add_eq_zero_right this.symm) (Nat.ne_of_gt oct8_len.1)
 ·exact ⟨text,hks.symm,rfl,hs⟩
noncomputable def begT : Nat → Int → Int → List Int → Bool
 | _,_,_,[] =>true
 | 0,_,_,_ :: _ =>false
 | k + 1,lo,hi,o :: r =>decide (lo ≤ o) && decide (o ≤ hi) && begT k 128 191 r
noncomputable def begB : List Int → Bool
 | [] =>false
 | b :: r =>if b < 128 then r.isEmpty else if 194 ≤ b ∧ b ≤ 223 then begT 1 128 191 r
  else if 224 ≤ b ∧ b ≤ 239 then begT 2 (if b = 224 then 160 else 128) (if b = 237 then 159 else 191) r
  else if 240 ≤ b ∧ b ≤ 244 then begT 3 (if b = 240 then 144 else 128) (if b = 244 then 143 else 191) r
  else false
noncomputable def spanM : Nat → Int → Int → List Int → Int × Int
 | 0,lo,hi,_ =>(lo,hi)
 | q + 1,lo,hi,[] =>spanM q (64 * lo + 0) (64 * hi + 63) []
 | q + 1,lo,hi,o :: r =>spanM q (64 * lo + (o - 128)) (64 * hi + (o - 128)) r
noncomputable def midB (r : List Int) : Bool:=r.all fun x =>decide (128 ≤ x) && decide (x < 192)
noncomputable def pairV (p : Int × Int) : V:=.tup [.int p.1,.int p.2]
noncomputable def inAny (rs : List (Int × Int)) (p : Int × Int) : Bool:=rs.any fun q =>decide (p.1 ≤ q.2) && decide (q.1 ≤ p.2)
section
variable {k : Nat} {ks : List Int} {b m lo hi : Int} {q1 q2 : V}
theorem beg_end {ex : Gam} {rs : List (Int × Int)} (hd : dictV [2,3,4] [.list [.tup [.int 128,.int 2047]],.list [.tup [.int 2048,.int 55295],.tup [.int 57344,.int 65535]],.list [.tup [.int 65536,.int 1114111]]] (.int m) = some (.list (rs.map pairV))) (hr : (rs.map pairV).length ≤ 1048576) : exsK 34 (wt (geOf tab k)) R54.sc R54.mu (("part",.val (.bytes ks)) :: ("lead",.val (.int b)) :: ("many",.val (.int m)) :: ("size",.val q1) :: ("first",.val q2) :: ("low",.val (.int lo)) :: ("high",.val (.int hi)) :: ex) ((blk R54.body []).drop 6) retF = some (.bool (inAny rs (lo,hi))):=by
 refine sha_is_begun2 ?_
 simp_arith! [hd,thaw_set,hr]
 generalize setL "some" _ (thaw ex) = E
 refine bindEx (comp_if (p:=fun q =>decide (lo ≤ q.2) && decide (q.1 ≤ hi)) rs ?_) fun zs h =>by simp only [h,Bool.not_not]; rfl
 intro q hq
 unfold pairV
 by_cases h1 : lo ≤ q.2
 ·by_cases h2 : q.1 ≤ hi
  ·simp_arith! [h1,h2]; exact ⟨_,rfl,rfl⟩
  ·simp_arith! [h1,h2]; exact ⟨_,rfl,rfl⟩
 ·simp_arith! [h1]; exact ⟨_,rfl,rfl⟩
theorem beg_loop {rs : List (Int × Int)} (hl : ks.length ≤ 1048576) (hd : dictV [2,3,4] [.list [.tup [.int 128,.int 2047]],.list [.tup [.int 2048,.int 55295],.tup [.int 57344,.int 65535]],.list [.tup [.int 65536,.int 1114111]]] (.int m) = some (.list (rs.map pairV))) (hr : (rs.map pairV).length ≤ 1048576) : ∀ (q d : Nat) (lo hi : Int) (r : List Int) (ex : Gam),(∀ j : Nat,j < r.length → itemAt ks (d + j : Nat) = r[j]?) → (r = [] ∧ ks.length ≤ d ∨ ks.length = d + r.length) → (∀ x ∈ r,128 ≤ x ∧ x < 192) → Bd q lo → Bd q hi →
  Out (forX 33 (wt (geOf tab k)) R54.sc R54.mu (testOf (sAt (blk R54.body []) 5)) (blk R54.body [5]) ((List.range' d q).map fun (j : Nat) =>V.int (j : Int)) (("part",.val (.bytes ks)) :: ("lead",.val (.int b)) :: ("many",.val (.int m)) :: ("size",.val q1) :: ("first",.val q2) :: ("low",.val (.int lo)) :: ("high",.val (.int hi)) :: ex))
   fun fl =>flC fl (fun g =>exsK 34 (wt (geOf tab k)) R54.sc R54.mu g ((blk R54.body []).drop 6) retF) (fun g =>retF (.brk g)) (fun w g =>retF (.ret w g)) = some (.bool (inAny rs (spanM q lo hi r))):=by
 intro q
 induction q with
 | zero =>intro d lo hi r ex hi1 hn ho hb hb2; exact for_nil (fN.trans (beg_end hd hr))
 | succ q ih =>
  intro d lo hi r ex hi1 hn ho hb hb2
  simp only [List.range'_succ,List.map_cons]
  refine for_cons (g1:=("part",.val (.bytes ks)) :: ("lead",.val (.int b)) :: ("many",.val (.int m)) :: ("size",.val q1) :: ("first",.val q2) :: ("low",.val (.int lo)) :: ("high",.val (.int hi)) :: setL "k" (AV.val (.int d)) ex) (by kernel_rfl) (shb_is_begun2 ?_)
  have s1 : small lo = true:=small_of (bd_sml hb).1 (Int.lt_trans (bd_sml hb).2 (by decide))
  have s2 : small hi = true:=small_of (bd_sml hb2).1 (Int.lt_trans (bd_sml hb2).2 (by decide))
  have s3 : small 64 = true:=rfl
  rcases r with _ | ⟨o,r⟩
  ·have L1 : ¬ (d : Int) < ks.length:=by simp at hn; lia
   simp_arith! [hl,L1,s1,s2,s3]
   exact ih (d + 1) _ _ [] _ (fun j h =>by cases h) (.inl ⟨rfl,by simp at hn; lia⟩) (fun x h =>by cases h) (bd_step' (by decide) hb) (bd_step' (by decide) hb2)
  ·have L1 : (d : Int) < ks.length:=by simp at hn; lia
   have h1 : itemAt ks (d : Int) = some o:=hi1 0 (by simp)
   have ho1:=ho o (.head _)
   have h2 : 0 ≤ o - 128 ∧ o - 128 < 64:=by lia
   simp_arith! [hl,L1,s1,s2,s3,h1]
   exact ih (d + 1) _ _ r _ (fun j hj =>by have:=hi1 (j + 1) (by simpa using hj); rw [← Nat.add_assoc,Nat.add_right_comm] at this; rw [this]; rfl) (.inr (by simp at hn; lia)) (fun x h =>ho x (.tail _ h)) (bd_step' h2 hb) (bd_step' h2 hb2)
theorem beg_mid {r : List Int} {rs : List (Int × Int)} {Q : Nat} {p q t : Int} (hl : r.length < 1000000) (hm : m = (Q : Int) + 1) (hP : binV .Pow (.int 2) (.int (m + 1)) = some (.int p)) (hD : binV .FloorDiv (.int 256) (.int p) = some (.int q)) (hM : binV .Mod (.int b) (.int q) = some (.int t)) (hR : iterV "range" [.int 1,.int m] = some ((List.range' 1 Q).map fun (j : Nat) =>V.int (j : Int)))
  (hd : dictV [2,3,4] [.list [.tup [.int 128,.int 2047]],.list [.tup [.int 2048,.int 55295],.tup [.int 57344,.int 65535]],.list [.tup [.int 65536,.int 1114111]]] (.int m) = some (.list (rs.map pairV))) (hr : (rs.map pairV).length ≤ 1048576) (hq : Bd Q t) :
  exsK 37 (wt (geOf tab k)) R54.sc R54.mu [(("part" : Str),AV.val (.bytes (b :: r))),(("lead" : Str),AV.val (.int b)),(("many" : Str),AV.val (.int m)),(("size" : Str),AV.val q1),(("first" : Str),AV.val q2)] ((blk R54.body []).drop 3) retF = some (.bool (decide (r.length ≤ Q) && (midB r && inAny rs (spanM Q t t r)))):=by
 refine sha_is_begun1 ?_
 have hl1 : (b :: r).length ≤ 1048576:=by rw [List.length_cons]; lia
 have hl2 : (r.map V.int).length ≤ 1048576:=by rw [List.length_map]; lia
 have hl3 : r.length ≤ 1048576:=by lia
 have m0 : (m == 0) = false:=bneF (by lia)
 have c1 : cut (b :: r) (some 1) Option.none = r:=cut_drop (a:=1)
 have p1 : partV (some (.int 1)) = some (some 1):=rfl
 by_cases hc : r.length ≤ Q
 ·have L1 : ¬ m < ((b :: r).length : Int):=by rw [List.length_cons]; lia
  have e : setL ("high" : Str) (AV.val (.int t)) (setL ("low" : Str) (AV.val (.int t)) [(("size" : Str),AV.val q1),(("first" : Str),AV.val q2)]) = [(("size" : Str),AV.val q1),(("first" : Str),AV.val q2),(("low" : Str),AV.val (.int t)),(("high" : Str),AV.val (.int t))]:=by kernel_rfl
  simp_arith! [hl1,hl2,hl3,m0,L1,p1,c1,hP,hD,hM,hR,e]
  simp only [decide_eq_true hc,Bool.true_and]
  refine bindEx (comp_if (p:=fun x =>!(decide (128 ≤ x) && decide (x < 192))) r ?_) fun zs h =>?_
  ·intro x hx
   by_cases h1 : 128 ≤ x
   ·by_cases h2 : x < 192
    ·simp_arith! [h1,h2]; exact ⟨_,rfl,rfl⟩
    ·simp_arith! [h1,h2]; exact ⟨_,rfl,rfl⟩
   ·simp_arith! [h1]; exact ⟨_,rfl,rfl⟩
  ·have hmid : midB r = zs.isEmpty:=by
    simp only [h,midB,List.any_eq_not_all_not]
    simp only [Bool.not_not]
   rw [hmid]
   cases hz : zs.isEmpty with
   | false =>rfl
   | true =>
    have hall : ∀ x ∈ r,128 ≤ x ∧ x < 192:=by
     rw [hz,midB,List.all_eq_true] at hmid
     intro x hx
     have:=hmid x hx
     rw [Bool.and_eq_true,decide_eq_true_eq,decide_eq_true_eq] at this
     exact this
    simp_arith [cT]
    refine loopE (beg_loop hl1 hd hr Q 1 t t r [] (fun j hj =>?_) (.inr (by rw [List.length_cons]; lia)) hall hq hq)
    rw [itNat (1 + j) rfl,Nat.add_comm,List.getElem?_cons_succ]
 ·have L1 : m < ((b :: r).length : Int):=by rw [List.length_cons]; lia
  simp_arith [hl1,m0,L1]
  rw [decide_eq_false hc]; rfl
theorem pw3 : binV .Pow (.int 2) (.int (2 + 1)) = some (.int 8):=by kernel_rfl
theorem pw4 : binV .Pow (.int 2) (.int (3 + 1)) = some (.int 16):=by kernel_rfl
theorem pw5 : binV .Pow (.int 2) (.int (4 + 1)) = some (.int 32):=by kernel_rfl
theorem dv3 : binV .FloorDiv (.int 256) (.int 8) = some (.int 32):=by kernel_rfl
theorem dv4 : binV .FloorDiv (.int 256) (.int 16) = some (.int 16):=by kernel_rfl
theorem dv5 : binV .FloorDiv (.int 256) (.int 32) = some (.int 8):=by kernel_rfl
theorem beg_step {s f p q : Int} {P : Fl → Prop} (hP : binV .Pow (.int 2) (.int (s + 1)) = some (.int p)) (hD : binV .FloorDiv (.int 256) (.int p) = some (.int q)) (h : P (.next ((("part" : Str),AV.val (.bytes ks)) :: (("lead" : Str),AV.val (.int b)) :: (("many" : Str),AV.val (.int (if f ≤ b ∧ b < f + q then s else m))) :: [(("size" : Str),AV.val (.int s)),(("first" : Str),AV.val (.int f))]))) :
  Out (exs 36 (wt (geOf tab k)) R54.sc R54.mu (blk R54.body [2]) ((("part" : Str),AV.val (.bytes ks)) :: (("lead" : Str),AV.val (.int b)) :: (("many" : Str),AV.val (.int m)) :: [(("size" : Str),AV.val (.int s)),(("first" : Str),AV.val (.int f))])) P:=by
 refine shb_is_begun1 ?_
 have e1 : List.lookup ("first" : Str) [(("size" : Str),AV.val (.int s)),(("first" : Str),AV.val (.int f))] = some (.val (.int f)):=by kernel_rfl
 have e2 : List.lookup ("size" : Str) [(("size" : Str),AV.val (.int s)),(("first" : Str),AV.val (.int f))] = some (.val (.int s)):=by kernel_rfl
 by_cases h1 : f ≤ b
 ·by_cases h2 : b < f + q
  ·simp_arith! [e1,e2,hP,hD,h1,h2]; rw [if_pos ⟨h1,h2⟩] at h; exact h
  ·simp_arith! [e1,e2,hP,hD,h1,h2]; rw [if_neg (fun h =>h2 h.2)] at h; exact h
 ·simp_arith! [e1,e2,hP,hD,h1]; rw [if_neg (fun h =>h1 h.1)] at h; exact h
noncomputable def sizeM (b : Int) : Int:=if 240 ≤ b ∧ b < 240 + 8 then 4 else if 224 ≤ b ∧ b < 224 + 16 then 3 else if 192 ≤ b ∧ b < 192 + 32 then 2 else 0
theorem beg_head {r : List Int} {v : V} (hl : (b :: r).length ≤ 1048576) (hb : ¬ b < 128) (h : exsK 37 (wt (geOf tab k)) R54.sc R54.mu (("part",.val (.bytes (b :: r))) :: ("lead",.val (.int b)) :: ("many",.val (.int (sizeM b))) :: [("size",.val (.int 4)),("first",.val (.int 240))]) ((blk R54.body []).drop 3) retF = some v) : (geOf tab (k + 1)).fn "_law_is_begun" [.bytes (b :: r)] [] = some v:=by
 refine sh_law_is_begun ?_
 have h0 : itemAt (b :: r) 0 = some b:=itNat 0 rfl
 have hi : itemsV (.tup [.tup [.int 2,.int 192],.tup [.int 3,.int 224],.tup [.int 4,.int 240]]) = some [.tup [.int 2,.int 192],.tup [.int 3,.int 224],.tup [.int 4,.int 240]]:=by kernel_rfl
 simp_arith [hl,h0,hb,hi]
 refine loopE ?_
 refine for_cons (g1:=("part",.val (.bytes (b :: r))) :: ("lead",.val (.int b)) :: ("many",.val (.int 0)) :: [("size",.val (.int 2)),("first",.val (.int 192))]) (by kernel_rfl) (beg_step pw3 dv3 ?_)
 refine for_cons (g1:=("part",.val (.bytes (b :: r))) :: ("lead",.val (.int b)) :: ("many",.val (.int (if 192 ≤ b ∧ b < 192 + 32 then 2 else 0))) :: [("size",.val (.int 3)),("first",.val (.int 224))]) (by kernel_rfl) (beg_step pw4 dv4 ?_)
 refine for_cons (g1:=("part",.val (.bytes (b :: r))) :: ("lead",.val (.int b)) :: ("many",.val (.int (if 224 ≤ b ∧ b < 224 + 16 then 3 else (if 192 ≤ b ∧ b < 192 + 32 then 2 else 0)))) :: [("size",.val (.int 4)),("first",.val (.int 240))]) (by kernel_rfl) (beg_step pw5 dv5 ?_)
 exact for_nil (Eq.trans fN h)
theorem midB_of {j : Nat} {lo hi : Int} {r : List Int} (h1 : 128 ≤ lo) (h2 : hi ≤ 191) : begT j lo hi r = true → midB r = true ∧ r.length ≤ j:=by
 induction r generalizing j lo hi with
 | nil =>intro _; exact ⟨rfl,Nat.zero_le _⟩
 | cons o r ih =>
  cases j with
  | zero =>intro h; cases h
  | succ j =>
   intro h
   simp only [begT,Bool.and_eq_true,Bool.and_eq_true,decide_eq_true_eq,decide_eq_true_eq] at h
   have:=ih (j:=j) (lo:=128) (hi:=191) (by lia) (by lia) h.2
   refine ⟨?_,by rw [List.length_cons]; lia⟩
   simp only [midB,List.all_cons,Bool.and_eq_true,Bool.and_eq_true,decide_eq_true_eq,decide_eq_true_eq]
   exact ⟨⟨by lia,by lia⟩,this.1⟩
theorem begT_of {j : Nat} : ∀ {r : List Int},midB r = true → r.length ≤ j → begT j 128 191 r = true:=by
 induction j with
 | zero =>intro r _ h; cases r with
  | nil =>rfl
  | cons _ _ =>simp at h
 | succ j ih =>
  intro r h1 h2
  cases r with
  | nil =>rfl
  | cons o r =>
   simp only [midB,List.all_cons,Bool.and_eq_true,Bool.and_eq_true,decide_eq_true_eq,decide_eq_true_eq] at h1
   simp only [begT,ih h1.2 (by simpa using h2),Bool.and_true,Bool.and_eq_true,decide_eq_true_eq,decide_eq_true_eq]
   lia
theorem beg_core {j : Nat} {lo hi : Int} {r : List Int} {A : Bool} (h1 : 128 ≤ lo) (h2 : hi ≤ 191) (h0 : r = [] → A = true) (hA : ∀ o s,r = o :: s → (128 ≤ o ∧ o < 192) → midB s = true → s.length ≤ j → A = (decide (lo ≤ o) && decide (o ≤ hi))) :
  (decide (r.length ≤ j + 1) && (midB r && A)) = begT (j + 1) lo hi r:=by
 cases r with
 | nil =>rw [h0 rfl]; rfl
 | cons o s =>
  cases hb : begT (j + 1) lo hi (o :: s) with
  | true =>
   have:=midB_of h1 h2 hb
   simp only [this.1,decide_eq_true this.2,Bool.true_and,Bool.true_and]
   rw [begT,Bool.and_eq_true] at hb
   have hm:=this.1
   rw [midB,List.all_cons,Bool.and_eq_true,Bool.and_eq_true,decide_eq_true_eq,decide_eq_true_eq] at hm
   rw [hA o s rfl hm.1 hm.2 (by simpa using this.2)]
   exact hb.1
  | false =>
   cases hl : decide ((o :: s).length ≤ j + 1) with
   | false =>rfl
   | true =>
    cases hm : midB (o :: s) with
    | false =>rfl
    | true =>
     have hl:=of_decide_eq_true hl
     rw [midB,List.all_cons,Bool.and_eq_true,Bool.and_eq_true,decide_eq_true_eq,decide_eq_true_eq] at hm
     rw [begT,begT_of hm.2 (by simpa using hl),Bool.and_true] at hb
     rw [hA o s rfl hm.1 hm.2 (by simpa using hl),hb]; rfl
theorem span_bd {q : Nat} : ∀ {lo hi : Int} {r : List Int},lo ≤ hi → (∀ x ∈ r,128 ≤ x ∧ x < 192) → lo * 64 ^ q ≤ (spanM q lo hi r).1 ∧ (spanM q lo hi r).1 ≤ (spanM q lo hi r).2 ∧ (spanM q lo hi r).2 < (hi + 1) * 64 ^ q:=by
 induction q with
 | zero =>intro lo hi r h _; rw [spanM]; simp; lia
 | succ q ih =>
  intro lo hi r h ho
  cases r with
  | nil =>
   rw [spanM]
   have:=ih (lo:=64 * lo + 0) (hi:=64 * hi + 63) (r:=[]) (by lia) ho
   refine ⟨?_,this.2.1,?_⟩
   ·simp only [Int.pow_succ,Int.mul_comm _ 64,← Int.mul_assoc]; refine Int.le_trans (Int.le_of_eq ?_) this.1; simp only [Int.mul_comm lo,Int.add_zero]
   ·simp only [Int.pow_succ,Int.mul_comm _ 64,← Int.mul_assoc]; refine Int.lt_of_lt_of_le this.2.2 (Int.le_of_eq ?_); congr 1; lia
  | cons o r =>
   rw [spanM]
   have h1:=ho o (.head _)
   have:=ih (lo:=64 * lo + (o - 128)) (hi:=64 * hi + (o - 128)) (r:=r) (by lia) fun x hx =>ho x (.tail _ hx)
   have hp : (0 : Int) ≤ 64 ^ q:=Int.le_of_lt (Int.pow_pos (by lia))
   refine ⟨?_,this.2.1,?_⟩
   ·simp only [Int.pow_succ,Int.mul_comm _ 64,← Int.mul_assoc]; exact Int.le_trans (Int.mul_le_mul_of_nonneg_right (by lia) hp) this.1
   ·simp only [Int.pow_succ,Int.mul_comm _ 64,← Int.mul_assoc]; exact Int.lt_of_lt_of_le this.2.2 (Int.mul_le_mul_of_nonneg_right (by lia) hp)
theorem mid_all {r : List Int} (h : midB r = true) : ∀ x ∈ r,128 ≤ x ∧ x < 192:=by
 intro x hx
 simp only [midB,List.all_eq_true] at h
 have:=h x hx
 simp only [Bool.and_eq_true,decide_eq_true_eq,decide_eq_true_eq] at this
 exact this
theorem beg_none {j : Nat} {r : List Int} {A : Bool} (h : midB r = true → A = false) : (decide (r.length ≤ j) && (midB r && A)) = false:=by
 cases hm : midB r with
 | false =>rw [Bool.false_and,Bool.and_false]
 | true =>rw [h hm,Bool.and_false,Bool.and_false]
theorem inAny1 {x y : Int} {p : Int × Int} : inAny [(x,y)] p = true ↔ p.1 ≤ y ∧ x ≤ p.2:=by
 simp only [inAny,List.any_cons,List.any_nil,Bool.or_false,Bool.and_eq_true,decide_eq_true_eq]
theorem inAny2 {x y z w : Int} {p : Int × Int} : inAny [(x,y),(z,w)] p = true ↔ (p.1 ≤ y ∧ x ≤ p.2) ∨ p.1 ≤ w ∧ z ≤ p.2:=by
 simp only [inAny,List.any_cons,List.any_nil,Bool.or_false,Bool.or_eq_true,Bool.and_eq_true,decide_eq_true_eq]
theorem p1 : (64 : Int) ^ 1 = 64:=rfl
theorem p2 : (64 : Int) ^ 2 = 4096:=rfl
theorem p3 : (64 : Int) ^ 3 = 262144:=rfl
theorem core2 {t : Int} {r : List Int} (ht : 2 ≤ t ∧ t < 32) : (decide (r.length ≤ 1) && (midB r && inAny [(128,2047)] (spanM 1 t t r))) = begT 1 128 191 r:=by
 refine beg_core (by lia) (by lia) ?_ ?_
 ·intro h; subst h; rw [inAny1]; simp only [spanM]; lia
 ·intro o s h ho hs hl; subst h
  rw [Bool.eq_iff_iff,inAny1,Bool.and_eq_true,decide_eq_true_eq,decide_eq_true_eq]; simp only [spanM]; omega
theorem core2n {t : Int} {r : List Int} (ht : 0 ≤ t ∧ t < 2) : (decide (r.length ≤ 1) && (midB r && inAny [(128,2047)] (spanM 1 t t r))) = false:=by
 refine beg_none fun hm =>?_
 have:=span_bd (q:=1) (Int.le_refl t) (mid_all hm)
 rw [p1] at this
 rw [← Bool.not_eq_true,inAny1]; lia
theorem bl1 {P : Int × Int} {z M b : Int} (a : Int) (hM : 0 ≤ M) (h : z * M ≤ P.1 ∧ P.1 ≤ P.2 ∧ P.2 < (z + 1) * M) (e : b + 1 = (a + 1) * M) : P.1 ≤ b ↔ z ≤ a :=
 ⟨fun q =>Int.le_of_lt_add_one (Int.lt_of_mul_lt_mul_right (Int.lt_of_le_of_lt h.1 (e ▸ Int.lt_add_one_of_le q)) hM),fun q =>Int.le_of_lt_add_one (e ▸ Int.lt_of_le_of_lt h.2.1 (Int.lt_of_lt_of_le h.2.2 (Int.mul_le_mul_of_nonneg_right (Int.add_le_add_right q 1) hM)))⟩
theorem bl2 {P : Int × Int} {z M c : Int} (a : Int) (hM : 0 ≤ M) (h : z * M ≤ P.1 ∧ P.1 ≤ P.2 ∧ P.2 < (z + 1) * M) (e : c = a * M) : c ≤ P.2 ↔ a ≤ z :=
 ⟨fun q =>Int.le_of_lt_add_one (Int.lt_of_mul_lt_mul_right (Int.lt_of_le_of_lt (e ▸ q) h.2.2) hM),fun q =>e ▸ Int.le_trans (Int.mul_le_mul_of_nonneg_right q hM) (Int.le_trans h.1 h.2.1)⟩
theorem core3 {t : Int} {r : List Int} (ht : 0 ≤ t ∧ t < 16) : (decide (r.length ≤ 2) && (midB r && inAny [(2048,55295),(57344,65535)] (spanM 2 t t r))) = begT 2 (if t = 0 then 160 else 128) (if t = 13 then 159 else 191) r:=by
 refine beg_core (by split <;> decide) (by split <;> decide) ?_ ?_
 ·intro h; subst h; rw [inAny2]; simp only [spanM]; lia
 ·intro o s h ho hs hl; subst h
  have:=span_bd (q:=1) (Int.le_refl (64 * t + (o - 128))) (mid_all hs)
  rw [p1] at this
  rw [Bool.eq_iff_iff,inAny2,Bool.and_eq_true,decide_eq_true_eq,decide_eq_true_eq,spanM,bl1 (b:=55295) 863 (by decide) this rfl,bl2 (c:=2048) 32 (by decide) this rfl,bl1 (b:=65535) 1023 (by decide) this rfl,bl2 (c:=57344) 896 (by decide) this rfl]
  clear this hs hl
  have h191:=Int.le_of_lt_add_one (b:=191) ho.2
  by_cases h0 : t = 0
  ·rw [if_pos h0,if_neg (by rw [h0]; decide)]; subst h0
   exact ⟨fun h =>⟨by lia,h191⟩,fun h =>.inl ⟨by lia,by lia⟩⟩
  ·rw [if_neg h0]
   by_cases h13 : t = 13
   ·rw [if_pos h13]; subst h13
    exact ⟨fun h =>⟨ho.1,h.elim (fun h =>by lia) fun h =>by lia⟩,fun h =>.inl ⟨by lia,by lia⟩⟩
   ·rw [if_neg h13]
    refine ⟨fun h =>⟨ho.1,h191⟩,fun h =>?_⟩
    by_cases h9 : t ≤ 13
    ·exact .inl ⟨by lia,by lia⟩
    ·exact .inr ⟨by lia,by lia⟩
theorem core4 {t : Int} {r : List Int} (ht : 0 ≤ t ∧ t < 5) : (decide (r.length ≤ 3) && (midB r && inAny [(65536,1114111)] (spanM 3 t t r))) = begT 3 (if t = 0 then 144 else 128) (if t = 4 then 143 else 191) r:=by
 refine beg_core (by split <;> decide) (by split <;> decide) ?_ ?_
 ·intro h; subst h; rw [inAny1]; simp only [spanM]; lia
 ·intro o s h ho hs hl; subst h
  have:=span_bd (q:=2) (Int.le_refl (64 * t + (o - 128))) (mid_all hs)
  rw [p2] at this
  rw [Bool.eq_iff_iff,inAny1,Bool.and_eq_true,decide_eq_true_eq,decide_eq_true_eq,spanM,bl1 (b:=1114111) 271 (by decide) this rfl,bl2 (c:=65536) 16 (by decide) this rfl]
  clear this hs hl
  have h191:=Int.le_of_lt_add_one (b:=191) ho.2
  by_cases h0 : t = 0
  ·rw [if_pos h0,if_neg (by rw [h0]; decide)]; subst h0
   exact ⟨fun h =>⟨by lia,h191⟩,fun h =>⟨by lia,by lia⟩⟩
  ·rw [if_neg h0]
   by_cases h13 : t = 4
   ·rw [if_pos h13]; subst h13
    exact ⟨fun h =>⟨ho.1,by lia⟩,fun h =>⟨by lia,by lia⟩⟩
   ·rw [if_neg h13]
    exact ⟨fun h =>⟨ho.1,h191⟩,fun h =>⟨by lia,by lia⟩⟩
theorem core4n {t : Int} {r : List Int} (ht : 5 ≤ t ∧ t < 8) : (decide (r.length ≤ 3) && (midB r && inAny [(65536,1114111)] (spanM 3 t t r))) = false:=by
 refine beg_none fun hm =>?_
 have:=span_bd (q:=3) (Int.le_refl t) (mid_all hm)
 rw [p3] at this
 rw [← Bool.not_eq_true,inAny1]; omega
theorem modc {b m : Int} (k : Int) (h0 : m * k ≤ b) (h1 : b < m * k + m) : b % m = b - m * k:=by
 have:=am (m:=m) (q:=b - m * k) k (Int.sub_nonneg.mpr h0) (Int.sub_left_lt_of_lt_add h1)
 rwa [(Int.add_comm _ _).trans (Int.sub_add_cancel b (m * k))] at this
theorem is_begun_eq {l : List Int} (h : 1 ≤ l.length ∧ l.length ≤ 4) (ho : Oct l) : (geOf tab (k + 1)).fn "_law_is_begun" [.bytes l] [] = some (.bool (begB l)):=by
 cases l with
 | nil =>simp at h
 | cons b r =>
  have hb:=ho.cons.1
  rw [List.length_cons] at h
  have hl : (b :: r).length ≤ 1048576:=by rw [List.length_cons]; lia
  have hr : r.length < 1000000:=by lia
  rw [begB]
  by_cases h1 : b < 128
  ·rw [if_pos h1]
   refine sh_law_is_begun ?_
   have h0 : itemAt (b :: r) 0 = some b:=itNat 0 rfl
   simp_arith [hl,h0,h1]
   cases r with
   | nil =>rfl
   | cons c r =>rw [bneF (by simp; lia)]; rfl
  rw [if_neg h1]
  refine beg_head hl h1 ?_
  by_cases h2 : 192 ≤ b ∧ b < 224
  ·have e : sizeM b = 2:=by unfold sizeM; rw [if_neg (by lia),if_neg (by lia),if_pos (by lia)]
   rw [e,beg_mid (m:=2) (Q:=1) (rs:=[(128,2047)]) (t:=b % 32) hr rfl pw3 dv3 (mdI (by lia)) rg2 (by kernel_rfl) (by decide) ⟨Int.emod_nonneg _ (by decide),Int.lt_trans (Int.emod_lt_of_pos _ (by decide)) (by decide)⟩]
   have hm : b % 32 = b - 192:=modc (m:=32) 6 h2.1 h2.2
   rw [hm]
   by_cases h3 : 194 ≤ b
   ·rw [if_pos ⟨h3,Int.le_of_lt_add_one (b:=223) h2.2⟩,core2 ⟨Int.le_sub_left_of_add_le h3,Int.sub_left_lt_of_lt_add h2.2⟩]
   ·rw [if_neg (fun h =>h3 h.1),if_neg (fun h =>Int.not_le.mpr h2.2 h.1),if_neg (fun h =>Int.not_le.mpr (Int.lt_trans h2.2 (by decide)) h.1),core2n ⟨Int.sub_nonneg.mpr h2.1,Int.sub_left_lt_of_lt_add (Int.not_le.mp h3)⟩]
  rw [if_neg (by lia)]
  by_cases h3 : 224 ≤ b ∧ b ≤ 239
  ·have e : sizeM b = 3:=by unfold sizeM; rw [if_neg (by lia),if_pos (by lia)]
   rw [e,beg_mid (m:=3) (Q:=2) (rs:=[(2048,55295),(57344,65535)]) (t:=b % 16) hr rfl pw4 dv4 (mdI (by lia)) rg3 (by kernel_rfl) (by decide) ⟨Int.emod_nonneg _ (by decide),Int.lt_trans (Int.emod_lt_of_pos _ (by decide)) (by decide)⟩,if_pos h3,show b % 16 = b - 224 from modc (m:=16) 14 h3.1 (Int.lt_add_one_of_le h3.2),core3 ⟨Int.sub_nonneg.mpr h3.1,Int.sub_left_lt_of_lt_add (Int.lt_add_one_of_le h3.2)⟩]
   have e1 : (b = 224) = (b - 224 = 0):=propext Int.sub_eq_zero.symm
   have e2 : (b = 237) = (b - 224 = 13):=propext ⟨fun h =>by rw [h]; rfl,fun h =>Int.sub_eq_iff_eq_add.mp h⟩
   simp only [e1,e2]
  rw [if_neg h3]
  by_cases h4 : 240 ≤ b ∧ b < 248
  ·have e : sizeM b = 4:=by unfold sizeM; rw [if_pos (by lia)]
   rw [e,beg_mid (m:=4) (Q:=3) (rs:=[(65536,1114111)]) (t:=b % 8) hr rfl pw5 dv5 (mdI (by lia)) rg4 (by kernel_rfl) (by decide) ⟨Int.emod_nonneg _ (by decide),Int.emod_lt_of_pos _ (by decide)⟩]
   rw [show b % 8 = b - 240 from modc (m:=8) 30 h4.1 h4.2]
   by_cases h5 : b ≤ 244
   ·rw [if_pos ⟨h4.1,h5⟩,core4 ⟨Int.sub_nonneg.mpr h4.1,Int.sub_left_lt_of_lt_add (Int.lt_add_one_of_le h5)⟩]
    have e1 : (b = 240) = (b - 240 = 0):=propext Int.sub_eq_zero.symm
    have e2 : (b = 244) = (b - 240 = 4):=propext ⟨fun h =>by rw [h]; rfl,fun h =>Int.sub_eq_iff_eq_add.mp h⟩
    simp only [e1,e2]
   ·rw [if_neg (fun h =>h5 h.2),core4n ⟨Int.le_sub_left_of_add_le (Int.add_one_le_of_lt (Int.not_le.mp h5)),Int.sub_left_lt_of_lt_add h4.2⟩]
  rw [if_neg (by lia)]
  have e : sizeM b = 0:=by unfold sizeM; rw [if_neg (by lia),if_neg (by lia),if_neg (by lia)]
  rw [e]
  exact sha_is_begun1 rfl
end
noncomputable def codeM (l : List Int) : Option Int:=if (pieceM l).1 = l.length then (pieceM l).2.1 else none
noncomputable def cont : Int → List Int → Int
 | c,[] =>c
 | c,o :: r =>cont (c * 64 + o % 64) r
theorem tl_le : ∀ (k : Nat) (d lo hi code : Int) (r : List Int),(tailM k d lo hi code r).1 ≤ d + k
 | 0,d,_,_,_,r =>by simp [tailM]
 | k + 1,d,_,_,_,[] =>by simp [tailM]; lia
 | k + 1,d,lo,hi,code,o :: r =>by
  rw [tailM]
  split
  ·have:=tl_le k (d + 1) 128 191 (code * 64 + o % 64) r; lia
  ·simp only; lia
theorem begT_nil {k : Nat} {lo hi : Int} : begT k lo hi [] = true:=by cases k <;> rfl
theorem tl_some : ∀ (k : Nat) (d lo hi code : Int) (r : List Int),begT k lo hi r = true ∧ r.length = k → tailM k d lo hi code r = (d + k,some (cont code r),("" : Str))
 | 0,d,_,_,_,[],_ =>by simp [tailM,cont]
 | 0,d,_,_,_,_ :: _,h =>by simp at h
 | k + 1,d,_,_,_,[],h =>by simp at h
 | k + 1,d,lo,hi,code,o :: r,⟨h,h2⟩ =>by
  simp only [begT,Bool.and_eq_true,decide_eq_true_eq] at h
  simp only [List.length_cons] at h2
  rw [tailM,if_pos h.1,tl_some k (d + 1) 128 191 _ r ⟨h.2,by lia⟩,cont]
  refine Prod.ext ?_ rfl
  simp only; lia
theorem tl_none : ∀ (k : Nat) (d lo hi code : Int) (r : List Int),r.length ≤ k → ¬ (begT k lo hi r = true ∧ r.length = k) → (tailM k d lo hi code r).2.1 = none
 | 0,d,_,_,_,[],_,h =>by simp [begT] at h
 | 0,d,_,_,_,_ :: _,h,_ =>by simp at h
 | k + 1,d,_,_,_,[],_,_ =>by simp [tailM]
 | k + 1,d,lo,hi,code,o :: r,h1,h2 =>by
  rw [tailM]
  simp only [begT,Bool.and_eq_true,decide_eq_true_eq,List.length_cons] at h1 h2
  split
  ·rename_i c
   exact tl_none k _ _ _ _ r (by lia) (fun h =>h2 ⟨⟨c,h.1⟩,by lia⟩)
  ·rfl
theorem code_tail {k : Nat} {b lo hi c0 : Int} {r : List Int} (hp : pieceM (b :: r) = tailM k 1 lo hi c0 r) : codeM (b :: r) = if begT k lo hi r = true ∧ r.length = k then some (cont c0 r) else none:=by
 unfold codeM
 rw [hp]
 split
 ·rename_i h
  have:=tl_le k 1 lo hi c0 r
  simp only [h,List.length_cons] at this
  split
  ·rename_i h2; rw [tl_some k 1 lo hi c0 r h2]
  ·rename_i h2; exact tl_none k 1 lo hi c0 r (by lia) h2
 ·rename_i h
  rw [if_neg]
  intro h2
  rw [tl_some k 1 lo hi c0 r h2,List.length_cons] at h
  simp only at h; lia
section
variable {b : Int} {r : List Int}
theorem pm_C (h : 194 ≤ b ∧ b ≤ 223) : pieceM (b :: r) = tailM 1 1 128 191 (b % 32) r:=by rw [pieceM,if_neg (by lia),if_pos h]
theorem pm_D (h : 224 ≤ b ∧ b ≤ 239) : pieceM (b :: r) = tailM 2 1 (if b = 224 then 160 else 128) (if b = 237 then 159 else 191) (b % 16) r:=by rw [pieceM,if_neg (by lia),if_neg (by lia),if_pos h]
theorem pm_E (h : 240 ≤ b ∧ b ≤ 244) : pieceM (b :: r) = tailM 3 1 (if b = 240 then 144 else 128) (if b = 244 then 143 else 191) (b % 8) r:=by rw [pieceM,if_neg (by lia),if_neg (by lia),if_neg (by lia),if_pos h]
theorem pm_bad (h : (128 ≤ b ∧ b < 194) ∨ 245 ≤ b) : pieceM (b :: r) = (1,none,if b < 192 then sAlone else sNever):=by rw [pieceM,if_neg (by lia),if_neg (by lia),if_neg (by lia),if_neg (by lia)]
theorem bg_C (h : 194 ≤ b ∧ b ≤ 223) : begB (b :: r) = begT 1 128 191 r:=by rw [begB,if_neg (by lia),if_pos h]
theorem bg_D (h : 224 ≤ b ∧ b ≤ 239) : begB (b :: r) = begT 2 (if b = 224 then 160 else 128) (if b = 237 then 159 else 191) r:=by rw [begB,if_neg (by lia),if_neg (by lia),if_pos h]
theorem bg_E (h : 240 ≤ b ∧ b ≤ 244) : begB (b :: r) = begT 3 (if b = 240 then 144 else 128) (if b = 244 then 143 else 191) r:=by rw [begB,if_neg (by lia),if_neg (by lia),if_neg (by lia),if_pos h]
theorem bg_bad (h : (128 ≤ b ∧ b < 194) ∨ 245 ≤ b) : begB (b :: r) = false:=by rw [begB,if_neg (by lia),if_neg (by lia),if_neg (by lia),if_neg (by lia)]
theorem cd_bad (h : (128 ≤ b ∧ b < 194) ∨ 245 ≤ b) : codeM (b :: r) = none:=by unfold codeM; rw [pm_bad h]; simp only [ite_self]
end
theorem begT_mid : ∀ (k : Nat) (lo hi : Int) (r : List Int),128 ≤ lo → hi ≤ 191 → begT k lo hi r = true → ∀ x ∈ r,128 ≤ x ∧ x < 192
 | _,_,_,[],_,_,_ =>fun x h =>by cases h
 | 0,_,_,_ :: _,_,_,h =>by simp [begT] at h
 | k + 1,lo,hi,o :: r,h1,h2,h =>by
  simp only [begT,Bool.and_eq_true,decide_eq_true_eq] at h
  intro x hx
  rcases List.mem_cons.mp hx with rfl | hx
  ·lia
  ·exact begT_mid k 128 191 r (by lia) (by lia) h.2 x hx
theorem cd_fin0 {k : Nat} {b lo hi c0 : Int} {r : List Int} (hp : pieceM (b :: r) = tailM k 1 lo hi c0 r) (hr : r.length ≠ k) : V.none = optV (codeM (b :: r)):=by
 rw [code_tail hp,if_neg (fun h =>hr h.2)]; rfl
section
variable {k : Nat} {b m : Int} {r : List Int}
theorem pc3 : binV .Pow (.int 2) (.int 3) = some (.int 8):=by kernel_rfl
theorem pc4 : binV .Pow (.int 2) (.int 4) = some (.int 16):=by kernel_rfl
theorem pc5 : binV .Pow (.int 2) (.int 5) = some (.int 32):=by kernel_rfl
theorem code_loop {t : Int} (hmid : ∀ x ∈ r,128 ≤ x ∧ x < 192) (hB : Bd r.length t) : ((forX 35 (wt (geOf tab k)) R55.sc R55.mu (testOf (sAt (blk R55.body []) 3)) (blk R55.body [3]) (r.map .int) [(("part" : Str),AV.val (.bytes (b :: r))),(("many" : Str),AV.val (.int m)),(("number" : Str),AV.val (.int t))]).bind fun fl =>flC fl (fun g =>exsK 36 (wt (geOf tab k)) R55.sc R55.mu g ((blk R55.body []).drop 4) retF) (fun g =>retF (.brk g)) (fun w g =>retF (.ret w g))) = some (.int (cont t r)):=by
 refine loopE (for_rule (fun ns g =>∃ c ex,g = (("part" : Str),AV.val (.bytes (b :: r))) :: (("many" : Str),AV.val (.int m)) :: (("number" : Str),AV.val (.int c)) :: ex ∧ (∀ x ∈ ns,128 ≤ x ∧ x < 192) ∧ Bd ns.length c ∧ cont c ns = cont t r) ?_ ?_ r _ ⟨t,[],rfl,hmid,hB,rfl⟩)
 ·rintro x s g ⟨c,ex,hg,h1,h2,h3⟩
  subst hg
  refine ⟨("part",.val (.bytes (b :: r))) :: ("many",.val (.int m)) :: ("number",.val (.int c)) :: setL "octet" (AV.val (.int x)) ex,by kernel_rfl,shb_law_code ?_⟩
  have hx:=h1 x (.head _)
  have s1 : small c = true:=small_of (bd_sml h2).1 (Int.lt_trans (bd_sml h2).2 (by decide))
  have s2 : small 64 = true:=rfl
  simp_arith! [s1,s2]
  have e : 64 * c + x - 128 = c * 64 + x % 64:=by lia
  rw [e]
  exact ⟨_,_,rfl,fun y hy =>h1 y (.tail _ hy),bd_step mod64 h2,h3⟩
 ·rintro g ⟨c,ex,hg,h1,h2,h3⟩
  subst hg
  simp only [fN,← h3]
  exact sha_law_code rfl
theorem code_fin {K : Nat} {lo hi t : Int} (hp : pieceM (b :: r) = tailM K 1 lo hi t r) (hg : begB (b :: r) = begT K lo hi r) (h1 : 128 ≤ lo) (h2 : hi ≤ 191) (hr : r.length = K) (hB : Bd K t) {o : Option V} (ho : (∀ x ∈ r,128 ≤ x ∧ x < 192) → o = some (.int (cont t r))) : cond (!begB (b :: r)) (some V.none) o = some (optV (codeM (b :: r))):=by
 simp only [code_tail hp,hg]
 cases h : begT K lo hi r with
 | false =>rw [if_neg (fun h =>by cases h.1)]; rfl
 | true =>rw [if_pos ⟨rfl,hr⟩]; exact ho (begT_mid K lo hi r h1 h2 h)
theorem code_bad (h : (128 ≤ b ∧ b < 194) ∨ 245 ≤ b) {o : Option V} : cond (!begB (b :: r)) (some V.none) o = some (optV (codeM (b :: r))):=by rw [cd_bad h,bg_bad h]; rfl
theorem law_code_eq {l : List Int} (h : 1 ≤ l.length ∧ l.length ≤ 4) (ho : Oct l) : (geOf tab (k + 2)).fn "_law_code" [.bytes l] [] = some (optV (codeM l)):=by
 have hbg:=is_begun_eq (k:=k) h ho
 cases l with
 | nil =>simp at h
 | cons b r =>
  have hb:=ho.cons.1
  rw [List.length_cons] at h
  have hl : (b :: r).length ≤ 1048576:=by rw [List.length_cons]; lia
  have hl2 : (r.map V.int).length ≤ 1048576:=by rw [List.length_map]; lia
  have hl3 : r.length ≤ 1048576:=by lia
  have h0 : itemAt (b :: r) 0 = some b:=itNat 0 rfl
  have c1 : cut (b :: r) (some 1) Option.none = r:=cut_drop (a:=1)
  have p1 : partV (some (.int 1)) = some (some 1):=rfl
  have neq : ∀ q : Nat,r.length ≠ q → (!(((b :: r).length : Int) == (q : Int) + 1)) = true:=fun q hq =>by rw [bneF (by rw [List.length_cons]; lia)]; rfl
  have eqq : ∀ q : Nat,r.length = q → (!(((b :: r).length : Int) == (q : Int) + 1)) = false:=fun q hq =>by simp only [List.length_cons,hq]; simp
  have ne_ : ∀ x y : Int,cmpV .NotEq (.int x) (.int y) = some (!(x == y)):=fun _ _ =>rfl
  have i0 : itemV (.bytes (b :: r)) (.int 0) = some (.int b):=(itB hl).trans (by rw [h0]; rfl)
  refine sh_law_code (bE i0 (bE lt_ ?_))
  by_cases h1 : b < 128
  ·refine cE (decide_eq_true h1) ?_
   cases r with
   | nil =>
    have hx : begB [b] = true:=by rw [begB,if_pos h1]; rfl
    have e : (!(([b].length : Int) == 1)) = false:=eqq 0 rfl
    have i0' : itemsV (.bytes []) = some (([] : List Int).map .int):=rfl
    simp_arith [hl,h0,ne_,e,hbg,hx,c1,p1,i0']
    have e2 : codeM [b] = some b:=by rw [codeM,pieceM,if_pos h1]; rfl
    rw [e2]
    exact code_loop (b:=b) (r:=[]) (t:=b) (fun x h =>by cases h) trivial
   | cons c s =>
    have e : (!(((b :: c :: s).length : Int) == 1)) = true:=neq 0 (by simp)
    simp_arith [hl,h0,ne_,e]
    rw [codeM,pieceM,if_pos h1,if_neg (by simp only [List.length_cons]; lia)]; rfl
  refine cE' (decide_eq_false h1) (bE i0 (bE lt_ ?_))
  by_cases h2 : b < 224
  ·refine cE (decide_eq_true h2) ?_
   have bad : r.length ≠ 1 → V.none = optV (codeM (b :: r)):=fun hr =>by
    by_cases h3 : 194 ≤ b
    ·exact cd_fin0 (pm_C ⟨h3,by lia⟩) hr
    ·rw [cd_bad (by lia)]; rfl
   by_cases hr : r.length = 1
   ·have e : (!(((b :: r).length : Int) == 2)) = false:=eqq 1 hr
    simp_arith [hl,h0,ne_,e,hbg]
    by_cases h3 : 194 ≤ b
    ·have h4 : 194 ≤ b ∧ b ≤ 223:=⟨h3,by lia⟩
     have B : Bd 1 (b % 32):=⟨Int.emod_nonneg _ (by decide),Int.lt_trans (Int.emod_lt_of_pos _ (by decide)) (by decide)⟩
     exact code_fin (pm_C h4) (bg_C h4) (by decide) (by decide) hr B fun hm =>by simp_arith [hl,h0,hl2,hl3,c1,p1,pc3,dv3,mdI (a:=b) (b:=32) (by decide)]; exact code_loop hm (by rw [hr]; exact B)
    ·exact code_bad (by lia)
   ·have e : (!(((b :: r).length : Int) == 2)) = true:=neq 1 hr
    simp_arith [hl,h0,ne_,e]
    rw [← bad hr]
  refine cE' (decide_eq_false h2) (bE i0 (bE lt_ ?_))
  by_cases h3 : b < 240
  ·refine cE (decide_eq_true h3) ?_
   have h4 : 224 ≤ b ∧ b ≤ 239:=by lia
   by_cases hr : r.length = 2
   ·have e : (!(((b :: r).length : Int) == 3)) = false:=eqq 2 hr
    simp_arith [hl,h0,ne_,e,hbg]
    have B : Bd 2 (b % 16):=⟨Int.emod_nonneg _ (by decide),Int.lt_trans (Int.emod_lt_of_pos _ (by decide)) (by decide)⟩
    exact code_fin (pm_D h4) (bg_D h4) (by split <;> decide) (by split <;> decide) hr B fun hm =>by simp_arith [hl,h0,hl2,hl3,c1,p1,pc4,dv4,mdI (a:=b) (b:=16) (by decide)]; exact code_loop hm (by rw [hr]; exact B)
   ·have e : (!(((b :: r).length : Int) == 3)) = true:=neq 2 hr
    simp_arith [hl,h0,ne_,e]
    rw [← cd_fin0 (pm_D h4) hr]
  ·refine cE' (decide_eq_false h3) ?_
   by_cases hr : r.length = 3
   ·have e : (!(((b :: r).length : Int) == 4)) = false:=eqq 3 hr
    simp_arith [hl,h0,ne_,e,hbg]
    by_cases h4 : b ≤ 244
    ·have h5 : 240 ≤ b ∧ b ≤ 244:=by lia
     have B : Bd 3 (b % 8):=⟨Int.emod_nonneg _ (by decide),Int.emod_lt_of_pos _ (by decide)⟩
     exact code_fin (pm_E h5) (bg_E h5) (by split <;> decide) (by split <;> decide) hr B fun hm =>by simp_arith [hl,h0,hl2,hl3,c1,p1,pc5,dv5,mdI (a:=b) (b:=8) (by decide)]; exact code_loop hm (by rw [hr]; exact B)
    ·exact code_bad (by lia)
   ·have e : (!(((b :: r).length : Int) == 4)) = true:=neq 3 hr
    simp_arith [hl,h0,ne_,e]
    by_cases h4 : b ≤ 244
    ·rw [← cd_fin0 (pm_E (by lia)) hr]
    ·rw [cd_bad (by lia)]; rfl
end
theorem bool_eq {a b : Bool} (h : a = true ↔ b = true) : a = b:=Bool.eq_iff_iff.mpr h
theorem tl_take : ∀ (k : Nat) (d lo hi code : Int) (r : List Int) (j : Nat),j ≤ r.length → begT k lo hi (r.take j) = decide (d + j ≤ (tailM k d lo hi code r).1)
 | k,d,lo,hi,code,r,0,_ =>by
  simp only [List.take_zero,begT_nil]
  have:=(tailM_bd k d lo hi code r).1
  simp; lia
 | _,_,_,_,_,[],j + 1,h =>by simp at h
 | 0,d,lo,hi,code,o :: r,j + 1,_ =>by
  rw [List.take_succ_cons,begT,tailM]
  apply Eq.symm; apply decide_eq_false; simp only; lia
 | k + 1,d,lo,hi,code,o :: r,j + 1,h =>by
  rw [List.take_succ_cons,begT,tailM]
  simp only [List.length_cons] at h
  by_cases c : lo ≤ o ∧ o ≤ hi
  ·simp only [if_pos c,tl_take k (d + 1) 128 191 (code * 64 + o % 64) r j (by lia)]
   simp only [c.1,c.2,decide_true,Bool.true_and]
   apply bool_eq
   simp only [decide_eq_true_eq]; lia
  ·rw [if_neg c]
   have : (decide (lo ≤ o) && decide (o ≤ hi)) = false:=by simp only [Bool.and_eq_false_iff,decide_eq_false_iff_not,decide_eq_false_iff_not]; lia
   rw [this]; simp; lia
theorem beg_iff {l : List Int} {m : Nat} (h : 2 ≤ m ∧ m ≤ l.length) : begB (l.take m) = decide ((m : Int) ≤ (pieceM l).1):=by
 obtain ⟨j,rfl⟩ : ∃ j,m = j + 1:=⟨m - 1,by lia⟩
 rcases l with _ | ⟨b,r⟩
 ·simp at h
 ·rw [List.take_succ_cons]
  simp only [List.length_cons] at h
  by_cases h1 : b < 128
  ·rw [begB,if_pos h1,pieceM,if_pos h1]
   rcases r with _ | ⟨c,r⟩
   ·simp only [List.length_nil] at h; lia
   ·obtain ⟨i,rfl⟩ : ∃ i,j = i + 1:=⟨j - 1,by lia⟩
    rw [List.take_succ_cons]; simp; lia
  ·by_cases h2 : b < 194
   ·rw [bg_bad (by lia),pm_bad (by lia)]; simp; lia
   ·by_cases h3 : b ≤ 223
    ·rw [bg_C (by lia),pm_C (by lia),tl_take 1 1 _ _ (b % 32) r j (by lia)]
     apply bool_eq; simp only [decide_eq_true_eq]; lia
    ·by_cases h4 : b ≤ 239
     ·rw [bg_D (by lia),pm_D (by lia),tl_take 2 1 _ _ (b % 16) r j (by lia)]
      apply bool_eq; simp only [decide_eq_true_eq]; lia
     ·by_cases h5 : b ≤ 244
      ·rw [bg_E (by lia),pm_E (by lia),tl_take 3 1 _ _ (b % 8) r j (by lia)]
       apply bool_eq; simp only [decide_eq_true_eq]; lia
      ·rw [bg_bad (by lia),pm_bad (by lia)]; simp; lia
theorem tl_prefix : ∀ (k : Nat) (d lo hi code : Int) (r : List Int) (j : Nat),(tailM k d lo hi code r).1 = d + j → (tailM k d lo hi code (r.take j)).1 = d + j ∧ (tailM k d lo hi code (r.take j)).2.1 = (tailM k d lo hi code r).2.1
 | 0,d,lo,hi,code,r,j,h =>by
  simp only [tailM] at h ⊢
  exact ⟨h,trivial⟩
 | k + 1,d,lo,hi,code,[],j,h =>by
  simp only [tailM] at h
  simp only [List.take_nil,tailM]
  exact ⟨h,trivial⟩
 | k + 1,d,lo,hi,code,o :: r,j,h =>by
  rw [tailM] at h ⊢
  by_cases c : lo ≤ o ∧ o ≤ hi
  ·rw [if_pos c] at h ⊢
   have:=(tailM_bd k (d + 1) 128 191 (code * 64 + o % 64) r).1
   obtain ⟨i,rfl⟩ : ∃ i,j = i + 1:=⟨j - 1,by lia⟩
   simp only [List.take_succ_cons,tailM,if_pos c]
   have:=tl_prefix k (d + 1) 128 191 (code * 64 + o % 64) r i (by lia)
   exact ⟨by rw [this.1]; lia,this.2⟩
  ·rw [if_neg c] at h ⊢
   have : j = 0:=by simp only at h; lia
   subst this
   simp [tailM]
theorem piece_le4 {l : List Int} : (pieceM l).1 ≤ 4:=by
 rcases l with _ | ⟨b,r⟩
 ·simp [pieceM]
 ·rw [pieceM]
  split
  ·simp
  ·split
   ·have:=tl_le 1 1 128 191 (b % 32) r; lia
   ·split
    ·have:=tl_le 2 1 (if b = 224 then 160 else 128) (if b = 237 then 159 else 191) (b % 16) r; lia
    ·split
     ·have:=tl_le 3 1 (if b = 240 then 144 else 128) (if b = 244 then 143 else 191) (b % 8) r; lia
     ·simp
theorem code_take {l : List Int} (h : l ≠ []) : codeM (l.take (pieceM l).1.toNat) = (pieceM l).2.1:=by
 have hb:=pieceM_bd h
 obtain ⟨j,hj⟩ : ∃ j : Nat,(pieceM l).1 = 1 + (j : Int):=⟨(pieceM l).1.toNat - 1,by lia⟩
 have hm : (pieceM l).1.toNat = j + 1:=by lia
 rw [hm]
 rcases l with _ | ⟨b,r⟩
 ·exact absurd rfl h
 ·rw [List.take_succ_cons]
  unfold codeM
  have key : ∀ (k : Nat) (lo hi c0 : Int),(∀ s,pieceM (b :: s) = tailM k 1 lo hi c0 s) → (if (pieceM (b :: r.take j)).1 = ((b :: r.take j).length : Nat) then (pieceM (b :: r.take j)).2.1 else none) = (pieceM (b :: r)).2.1:=by
   intro k lo hi c0 hp
   rw [hp] at hj hb
   rw [hp,hp]
   have:=tl_prefix k 1 lo hi c0 r j hj
   rw [if_pos,this.2]
   have hjr : j ≤ r.length:=by have:=hb.2; rw [hj,List.length_cons] at this; lia
   rw [this.1,List.length_cons,List.length_take,Nat.min_eq_left hjr]; exact Int.add_comm 1 j
  by_cases h1 : b < 128
  ·have hj0 : j = 0:=by rw [pieceM,if_pos h1] at hj; simp only at hj; lia
   subst hj0
   rw [List.take_zero,pieceM,if_pos h1,pieceM,if_pos h1]; rfl
  ·by_cases h2 : b < 194 ∨ 245 ≤ b
   ·have hj0 : j = 0:=by rw [pm_bad (by lia)] at hj; simp only at hj; lia
    subst hj0
    rw [List.take_zero,pm_bad (by lia),pm_bad (by lia)]; rfl
   ·by_cases h3 : b ≤ 223
    ·exact key _ _ _ _ (fun s =>pm_C (by lia))
    ·by_cases h4 : b ≤ 239
     ·exact key _ _ _ _ (fun s =>pm_D (by lia))
     ·exact key _ _ _ _ (fun s =>pm_E (by lia))
theorem begT_len : ∀ (k : Nat) (lo hi : Int) (r : List Int),begT k lo hi r = true → r.length ≤ k
 | _,_,_,[],_ =>by simp
 | 0,_,_,_ :: _,h =>by simp [begT] at h
 | k + 1,lo,hi,o :: r,h =>by
  simp only [begT,Bool.and_eq_true] at h
  have:=begT_len k _ _ r h.2
  simp only [List.length_cons]; lia
theorem ne1 : ¬ (("" : Str) = sShort):=by decide
theorem ne2 : ¬ (sBroken = sShort):=by decide
theorem ne3 : ¬ (sAlone = sShort):=by decide
theorem ne4 : ¬ (sNever = sShort):=by decide
theorem tl_short : ∀ (k : Nat) (d lo hi code : Int) (r : List Int),(tailM k d lo hi code r).2.2 = sShort ↔ (begT k lo hi r = true ∧ r.length < k)
 | 0,d,lo,hi,code,r =>by simp only [tailM]; simp [ne1]
 | k + 1,d,lo,hi,code,[] =>by simp [tailM,begT]
 | k + 1,d,lo,hi,code,o :: r =>by
  rw [tailM]
  simp only [begT,Bool.and_eq_true,decide_eq_true_eq,List.length_cons]
  by_cases c : lo ≤ o ∧ o ≤ hi
  ·rw [if_pos c,tl_short k]
   constructor
   ·intro h; exact ⟨⟨c,h.1⟩,by lia⟩
   ·intro h; exact ⟨h.1.2,by lia⟩
  ·rw [if_neg c]
   constructor
   ·intro h; exact absurd h ne2
   ·intro h; exact absurd h.1.1 c
theorem short_iff {l : List Int} (h : l ≠ []) : (pieceM l).2.2 = sShort ↔ (codeM l = none ∧ begB l = true):=by
 rcases l with _ | ⟨b,r⟩
 ·exact absurd rfl h
 ·have key : ∀ (k : Nat) (lo hi c0 : Int),pieceM (b :: r) = tailM k 1 lo hi c0 r → begB (b :: r) = begT k lo hi r → ((pieceM (b :: r)).2.2 = sShort ↔ (codeM (b :: r) = none ∧ begB (b :: r) = true)):=by
   intro k lo hi c0 hp hg
   simp only [code_tail hp,hp,hg,tl_short]
   constructor
   ·rintro ⟨h1,h2⟩; exact ⟨if_neg (by lia),h1⟩
   ·rintro ⟨h1,h2⟩
    have:=begT_len _ _ _ _ h2
    refine ⟨h2,?_⟩
    by_cases e : r.length = k
    ·rw [if_pos ⟨h2,e⟩] at h1; cases h1
    ·lia
  by_cases h1 : b < 128
  ·simp only [pieceM,if_pos h1,begB,if_pos h1]
   constructor
   ·intro h; exact absurd h ne1
   ·rintro ⟨h2,h3⟩
    have : r = []:=List.isEmpty_iff.mp h3
    subst this
    rw [codeM,pieceM,if_pos h1] at h2
    simp at h2
  ·by_cases h2 : b < 194 ∨ 245 ≤ b
   ·rw [pm_bad (by lia),bg_bad (by lia)]
    constructor
    ·intro h
     simp only at h
     split at h
     ·exact absurd h ne3
     ·exact absurd h ne4
    ·intro h; simp at h
   ·by_cases h3 : b ≤ 223
    ·exact key _ _ _ _ (pm_C (by lia)) (bg_C (by lia))
    ·by_cases h4 : b ≤ 239
     ·exact key _ _ _ _ (pm_D (by lia)) (bg_D (by lia))
     ·exact key _ _ _ _ (pm_E (by lia)) (bg_E (by lia))
theorem short_all {l : List Int} (h : l ≠ []) (hs : (pieceM l).2.2 = sShort) : (pieceM l).1 = l.length:=by
 have hg:=((short_iff h).mp hs).2
 have hb:=pieceM_bd h
 by_cases h2 : 2 ≤ l.length
 ·have:=beg_iff (l:=l) (m:=l.length) ⟨h2,Nat.le_refl _⟩
  rw [List.take_length,hg] at this
  have:=of_decide_eq_true this.symm
  lia
 ·lia
noncomputable def cutM (l : List Int) : List (List Int):=if h : l = [] then [] else l.take (pieceM l).1.toNat :: cutM (l.drop (pieceM l).1.toNat)
termination_by l.length
decreasing_by exact dec_ h (pieceM_bd h).1
theorem cutM_nil : cutM [] = []:=by rw [cutM]; rfl
theorem cutM_cons {l : List Int} (h : l ≠ []) : cutM l = l.take (pieceM l).1.toNat :: cutM (l.drop (pieceM l).1.toNat):=by rw [cutM,dif_neg h]
noncomputable def waits (p : List Int) : Bool:=(codeM p).isNone && begB p
noncomputable def lastOff (ps : List (List Int)) : List (List Int):=if ps.getLast?.any waits = true then ps.dropLast else ps
noncomputable def got (p : List Int) : Int:=(codeM p).getD 65533
theorem run_true : ∀ (n : Nat) (l : List Int),l.length ≤ n → (run true l).1 = (cutM l).map got
 | _,[],_ =>by rw [run_nil,cutM_nil]; rfl
 | 0,_ :: _,h =>by simp at h
 | n + 1,b :: r,h =>by
  have hne : b :: r ≠ []:=by simp
  have hb:=pieceM_bd hne
  rw [run_step hne (by simp),cutM_cons hne,List.map_cons,got,code_take hne,run_true n _ (dnD hb.1 h)]
theorem waits_iff {l : List Int} (h : l ≠ []) : waits l = true ↔ (pieceM l).2.2 = sShort:=by
 rw [short_iff h]; unfold waits; rw [Bool.and_eq_true,Option.isNone_iff_eq_none]
theorem run_false : ∀ (n : Nat) (l : List Int),l.length ≤ n → (run false l).1 = (lastOff (cutM l)).map got
 | _,[],_ =>by rw [run_nil,cutM_nil]; rfl
 | 0,_ :: _,h =>by simp at h
 | n + 1,b :: r,h =>by
  have hne : b :: r ≠ []:=by simp
  have hb:=pieceM_bd hne
  generalize hl : b :: r = l at *
  by_cases hs : (pieceM l).2.2 = sShort
  ·rw [run_short hne ⟨hs,rfl⟩,cutM_cons hne,short_all hne hs]
   rw [Int.toNat_natCast,List.take_length,List.drop_length,cutM_nil]
   unfold lastOff
   rw [List.getLast?_singleton,Option.any_some,if_pos ((waits_iff hne).mpr hs)]; rfl
  ·rw [run_step hne (fun h =>hs h.1),cutM_cons hne]
   have ih:=run_false n (l.drop (pieceM l).1.toNat) (dnD hb.1 h)
   rw [ih]
   by_cases hd : l.drop (pieceM l).1.toNat = []
   ·rw [hd,cutM_nil]
    have hlen : l.length ≤ (pieceM l).1.toNat:=by have:=congrArg List.length hd; simp at this; lia
    rw [List.take_of_length_le hlen]
    unfold lastOff
    rw [List.getLast?_singleton,Option.any_some,if_neg (fun h =>hs ((waits_iff hne).mp h))]
    have:=code_take hne
    rw [List.take_of_length_le hlen] at this
    simp [got,this]
   ·generalize hq : cutM (l.drop (pieceM l).1.toNat) = q
    have hq0 : q ≠ []:=by rw [← hq,cutM_cons hd]; simp
    unfold lastOff
    rw [List.getLast?_cons,List.getLast?_eq_some_getLast hq0]
    simp only [Option.getD_some,Option.any_some]
    by_cases hw : waits (q.getLast hq0) = true
    ·rw [if_pos hw,if_pos hw,List.dropLast_cons_of_ne_nil hq0,List.map_cons,got,code_take hne]
    ·rw [if_neg hw,if_neg hw,List.map_cons,got,code_take hne]
noncomputable def wr : Nat → Int → List Int → Int × List Int
 | 0,x,fs =>(x,fs)
 | n + 1,x,fs =>wr n (x / 64) ((128 + x % 64) :: fs)
theorem wr_loop {k : Nat} {x s : Int} {xs : List Int} (hl : xs.length ≤ 3) {v : V} (hv : ∀ ex,exsK 36 (wt (geOf tab k)) R57.sc R57.mu ((("code" : Str),AV.val (.int (wr xs.length x []).1)) :: (("size" : Str),AV.val (.int s)) :: (("found" : Str),AV.val (.list ((wr xs.length x []).2.map .int))) :: ex) ((blk R57.body []).drop 4) retF = some v) : ((forX 35 (wt (geOf tab k)) R57.sc R57.mu (testOf (sAt (blk R57.body []) 3)) (blk R57.body [3]) (xs.map .int) [(("code" : Str),AV.val (.int x)),(("size" : Str),AV.val (.int s)),(("found" : Str),AV.val (.list []))]).bind fun fl =>flC fl (fun g =>exsK 36 (wt (geOf tab k)) R57.sc R57.mu g ((blk R57.body []).drop 4) retF) (fun g =>retF (.brk g)) (fun w g =>retF (.ret w g))) = some v:=by
 refine loopE (for_rule (fun ns g =>∃ y fs ex,g = (("code" : Str),AV.val (.int y)) :: (("size" : Str),AV.val (.int s)) :: (("found" : Str),AV.val (.list (fs.map .int))) :: ex ∧ ns.length + fs.length ≤ 3 ∧ wr ns.length y fs = wr xs.length x []) ?_ ?_ xs _ ⟨x,[],[],rfl,hl,rfl⟩)
 ·rintro z r g ⟨y,fs,ex,hg,h1,h2⟩
  subst hg
  have hfs : [V.int (128 + y % 64)].length + (fs.map V.int).length ≤ 1048576:=by simp only [List.length_cons,List.length_nil,List.length_map] at h1 ⊢; lia
  refine ⟨("code",.val (.int y)) :: ("size",.val (.int s)) :: ("found",.val (.list (fs.map .int))) :: setL "k" (AV.val (.int z)) ex,by kernel_rfl,shb_law_written ?_⟩
  simp_arith only [hfs]
  exact ⟨y / 64,(128 + y % 64) :: fs,_,rfl,by rw [List.length_cons] at h1 ⊢; lia,h2⟩
 ·rintro g ⟨y,fs,ex,hg,h1,h2⟩
  subst hg
  rw [fN]
  have h2 : (y,fs) = wr xs.length x []:=h2
  have:=hv ex
  rw [← h2] at this
  exact this
theorem wr_end {k : Nat} {s w y : Int} {fs : List Int} {ex : Gam} (hd : dictV [2,3,4] [.int 192,.int 224,.int 240] (.int s) = some (.int w)) (hl : fs.length ≤ 3) (ho : Oct ((w + y) :: fs)) : exsK 36 (wt (geOf tab k)) R57.sc R57.mu (("code",.val (.int y)) :: ("size",.val (.int s)) :: ("found",.val (.list (fs.map .int))) :: ex) ((blk R57.body []).drop 4) retF = some (.bytes ((w + y) :: fs)):=by
 refine sha_law_written ?_
 have hfs : [V.int (w + y)].length + (fs.map V.int).length ≤ 1048576:=by rw [List.length_map]; simp only [List.length_cons,List.length_nil]; lia
 simp_arith! [hd,hfs]
 exact congrArg (Option.bind · some) (byL (l:=(w + y) :: fs) (by rw [List.length_cons]; lia) ho)
theorem Oct.of {a : Int} {l : List Int} (h : 0 ≤ a ∧ a < 256) (h2 : Oct l) : Oct (a :: l):=fun x hx =>by
 cases hx with
 | head =>exact h
 | tail _ hx =>exact h2 x hx
theorem Oct.nil : Oct []:=fun x hx =>by cases hx
theorem wg2 : iterV "range" [.int (2 - 1)] = some (([0] : List Int).map .int):=by kernel_rfl
theorem wg3 : iterV "range" [.int (3 - 1)] = some (([0,1] : List Int).map .int):=by kernel_rfl
theorem wg4 : iterV "range" [.int (4 - 1)] = some (([0,1,2] : List Int).map .int):=by kernel_rfl
theorem law_written_eq {k : Nat} {x : Int} (h0 : 0 ≤ x) (h1 : x ≤ 1114111) : (geOf tab (k + 1)).fn "_law_written" [.int x] [] = some (.bytes (oct8 x)):=by
 have d1 : x / 64 / 64 = x / 4096:=dd2.symm
 have d2 : x / 4096 / 64 = x / 262144:=Int.ediv_ediv_of_nonneg (x:=x) (y:=4096) (z:=64) (by decide)
 refine sh_law_written ?_
 unfold oct8
 by_cases c1 : x < 128
 ·rw [if_pos c1]
  simp_arith [c1]
  exact congrArg (Option.bind · some) (byL (l:=[x]) (Nat.le_add_left 1 1048575) (oc1 ⟨h0,Int.lt_trans c1 (by decide)⟩ oc0))
 rw [if_neg c1]
 have n1 : decide (x < 128) = false:=decide_eq_false c1
 by_cases c2 : x < 2048
 ·rw [if_pos c2]
  have n2 : decide (x < 2048) = true:=decide_eq_true c2
  simp only [n1,n2,cT,cF,wg2,bS]
  exact wr_loop (by decide) fun ex =>wr_end (k:=k) (s:=2) (w:=192) (y:=x / 64) (fs:=[128 + x % 64]) (by kernel_rfl) (Nat.le_add_left 1 2) (ocd 32 h0 c2 (by decide) (by decide) (by decide) (oc6 oc0))
 rw [if_neg c2]
 have n2 : decide (x < 2048) = false:=decide_eq_false c2
 by_cases c3 : x < 65536
 ·rw [if_pos c3]
  have n3 : decide (x < 65536) = true:=decide_eq_true c3
  simp only [n1,n2,n3,cT,cF,wg3,bS]
  rw [← d1]
  exact wr_loop (by decide) fun ex =>wr_end (k:=k) (s:=3) (w:=224) (y:=x / 64 / 64) (fs:=[128 + x / 64 % 64,128 + x % 64]) (by kernel_rfl) (Nat.le_add_left 2 1) (ocd 16 (Int.ediv_nonneg h0 (by decide)) (dh 1024 c3) (by decide) (by decide) (by decide) (oc6 (oc6 oc0)))
 ·rw [if_neg c3]
  have n3 : decide (x < 65536) = false:=decide_eq_false c3
  simp only [n1,n2,n3,cT,cF,wg4,bS]
  rw [← d2,← d1]
  exact wr_loop (by decide) fun ex =>wr_end (k:=k) (s:=4) (w:=240) (y:=x / 64 / 64 / 64) (fs:=[128 + x / 64 / 64 % 64,128 + x / 64 % 64,128 + x % 64]) (by kernel_rfl) (Nat.le_refl 3) (ocd 5 (Int.ediv_nonneg (Int.ediv_nonneg h0 (by decide)) (by decide)) (dh 320 (dh 20480 (Int.lt_of_le_of_lt h1 (by decide)))) (by decide) (by decide) (by decide) (oc6 (oc6 (oc6 oc0))))
theorem beg_at {k a : Nat} {ks : List Int} (ho : Oct ks) (j : Nat) (h2 : 2 ≤ j ∧ j ≤ 4) (h : a + j ≤ ks.length) : (geOf tab (k + 1)).fn "_law_is_begun" [.bytes (cut ks (some (a : Int)) (some ((a : Int) + (j : Int))))] [] = some (.bool (decide ((j : Int) ≤ (pieceM (ks.drop a)).1))):=by
 have e : (a : Int) + (j : Int) = ((a + j : Nat) : Int):=(Int.natCast_add a j).symm
 have le : j ≤ ks.length - a:=Nat.le_sub_of_add_le (by rw [Nat.add_comm]; exact h)
 rw [e,cut_both,Nat.add_sub_cancel_left,is_begun_eq ?_ ((ho.drop a).take j),beg_iff ?_]
 ·rw [List.length_drop]; exact ⟨h2.1,le⟩
 ·rw [List.length_take,List.length_drop,Nat.min_eq_left le]; exact ⟨Nat.le_trans (by decide) h2.1,h2.2⟩
section
variable {k a : Nat} {ks : List Int} {fs : List V}
theorem cut_step {j S : Nat} {ex : Gam} {P : Fl → Prop} (hl : ks.length ≤ 1000) (ho : Oct ks) (ha : a < ks.length) (hj : 2 ≤ j ∧ j ≤ 4) (hx : List.lookup ("more" : Str) ex = some (.val (.int j))) (hs : List.lookup ("size" : Str) ex = some (.val (.int S)))
  (h : ∀ ex',List.lookup ("size" : Str) ex' = some (.val (.int (if (j : Int) ≤ (pieceM (ks.drop a)).1 then j else S : Nat))) → P (.next (("octets",.val (.bytes ks)) :: ("found",.own (fs)) :: ("at",.val (.int a)) :: ex'))) : Out (exs 34 (wt (geOf tab (k + 1))) R56.sc R56.mu (blk R56.body [1,1]) (("octets",.val (.bytes ks)) :: ("found",.own (fs)) :: ("at",.val (.int a)) :: ex)) P:=by
 refine shb_law_cut_in ?_
 have hl' : ks.length ≤ 1048576:=by lia
 have hb:=(pieceM_bd (drop_ne ha)).2
 rw [List.length_drop] at hb
 by_cases h1 : (a : Int) + (j : Int) ≤ ks.length
 ·have B:=beg_at (k:=k) ho j hj (a:=a) (by lia)
  have p1:=ptN (a:=a) (by lia)
  have p2:=ptN (a:=a + j) (by lia)
  rw [Int.natCast_add] at p2
  by_cases h2 : (j : Int) ≤ (pieceM (ks.drop a)).1
  ·rw [if_pos h2] at h
   simp_arith! [hx,h1,hl',p1,p2,B,h2]
   exact h _ lkS
  ·rw [if_neg h2] at h
   simp_arith! [hx,h1,hl',p1,p2,B,h2]
   exact h _ hs
 ·rw [if_neg (by lia)] at h
  simp_arith only [hx,h1,hl']
  exact h _ hs
noncomputable def cutS (m : Int) : List Nat → Nat → Nat
 | [],S =>S
 | j :: r,S =>cutS m r (if (j : Int) ≤ m then j else S)
theorem law_cut_eq (hl : ks.length ≤ 1000) (ho : Oct ks) : (geOf tab (k + 2)).fn "_law_cut" [.bytes ks] [] = some (.list ((cutM ks).map .bytes)):=by
 have hl' : ks.length ≤ 1048576:=by lia
 refine sh_law_cut (loopE (cursor (L:=ks.length) (d:=0) (E:=fun a (fs : List (List Int)) ex =>("octets",.val (.bytes ks)) :: ("found",.own (fs.map .bytes)) :: ("at",.val (.int a)) :: ex) (J:=fun a fs =>fs ++ cutM (ks.drop a) = cutM ks) hl ?_ ?_ ?_ (Nat.zero_le _) rfl))
 ·intro a fs ex
  refine sht_law_cut ?_
  simp_arith! [hl']
 ·intro a fs ex hlt hfs h6
  rw [← List.length_map (f:=V.bytes)] at hfs
  have hb:=pieceM_bd (drop_ne hlt)
  have h4':=piece_le4 (l:=ks.drop a)
  have ct:=cutM_cons (drop_ne hlt)
  rw [List.drop_drop] at ct
  rw [List.length_drop] at hb
  have hi : itemsV (.tup [.int 2,.int 3,.int 4]) = some (([2,3,4] : List Nat).map fun (j : Nat) =>V.int (j : Int)):=by kernel_rfl
  refine shb_law_cut ?_
  simp_arith only [hi]
  obtain ⟨m,hm⟩ : ∃ m : Nat,(pieceM (ks.drop a)).1 = m:=⟨(pieceM (ks.drop a)).1.toNat,by lia⟩
  refine loopP (for_rule (fun ns g =>∃ ex S,g = (("octets" : Str),AV.val (.bytes ks)) :: (("found" : Str),AV.own (fs.map .bytes)) :: (("at" : Str),AV.val (.int a)) :: ex ∧ List.lookup ("size" : Str) ex = some (.val (.int (S : Nat))) ∧ (∀ j ∈ ns,2 ≤ j ∧ j ≤ 4) ∧ cutS m ns S = m) ?_ ?_ _ _ ⟨_,1,rfl,lkS,by decide,?_⟩)
  ·rintro j r g ⟨ex,S,hg,hs,hj,hS⟩
   subst hg
   have e : (("size" : Str) == ("more" : Str)) = false:=by kernel_rfl
   refine ⟨("octets",.val (.bytes ks)) :: ("found",.own (fs.map .bytes)) :: ("at",.val (.int a)) :: setL "more" (AV.val (.int (j : Int))) ex,by kernel_rfl,cut_step hl ho hlt (hj j (.head _)) lkS ((lkN e).trans hs) fun ex' hx =>⟨ex',_,rfl,hx,fun i hi =>hj i (.tail _ hi),?_⟩⟩
   rw [hm]; exact hS
  ·rintro g ⟨ex,S,hg,hs,hj,hS⟩
   subst hg
   have hS : S = m:=hS
   subst hS
   rw [fN]
   have p1:=ptN (a:=a) (by lia)
   have p2:=ptN (a:=a + S) (by lia)
   rw [Int.natCast_add] at p2
   have hcut : cut ks (some (a : Int)) (some ((a : Int) + (S : Int))) = (ks.drop a).take S:=by rw [← Int.natCast_add,cut_both,Nat.add_sub_cancel_left]
   refine outE (sha_law_cut_in ?_) (?_ : StepO _ _ (.next (("octets",.val (.bytes ks)) :: ("found",.own (fs.map .bytes ++ [.bytes ((ks.drop a).take S)])) :: ("at",.val (.int ((a : Int) + S))) :: ex)))
   ·simp_arith only [p1,p2,hs,hl',hcut,hfs]
   ·rw [ct,hm,Int.toNat_natCast] at h6
    exact ⟨(S : Int),(ks.drop a).take S,ex,by rw [List.map_append]; rfl,by rw [← hm]; exact hb.1,by rw [← hm]; exact hb.2,by rw [List.append_assoc]; exact h6⟩
  ·have : m = 1 ∨ m = 2 ∨ m = 3 ∨ m = 4:=by lia
   rcases this with rfl | rfl | rfl | rfl <;> decide
 ·intro fs ex _ h6
  rw [List.drop_length,cutM_nil,List.append_nil] at h6
  rw [fN,h6]
  exact sha_law_cut rfl
end
noncomputable abbrev sOdd : Str:="odd end"
noncomputable abbrev sLow : Str:="low"
noncomputable abbrev sHigh : Str:="high"
noncomputable def unitM (o : String) (a b : Int) : Int:=if o = "be" then a * 256 + b else b * 256 + a
noncomputable def joinM (u v : Int) : Int:=65536 + (u - 55296) * 1024 + (v - 56320)
noncomputable def stepM (o : String) : List Int → Pc
 | a :: b :: r =>if isLow (unitM o a b) = true then (2,none,sLow) else if isHigh (unitM o a b) = true then (match r with
   | c :: d :: _ =>if isLow (unitM o c d) = true then (4,some (joinM (unitM o a b) (unitM o c d)),"") else (2,none,sHigh)
   | _ =>(2,none,sHigh)) else (2,some (unitM o a b),"")
 | l =>(l.length,none,sOdd)
noncomputable def lackM (o : String) : List Int → Bool
 | a :: b :: r =>decide (r.length < 2) && isHigh (unitM o a b)
 | _ =>true
section
variable {o : String} {a b c d : Int} {r : List Int}
theorem st1 : stepM o [a] = (1,none,sOdd):=rfl
theorem st2 : stepM o [a,b] = if isLow (unitM o a b) = true then (2,none,sLow) else if isHigh (unitM o a b) = true then (2,none,sHigh) else (2,some (unitM o a b),""):=rfl
theorem st3 : stepM o [a,b,c] = if isLow (unitM o a b) = true then (2,none,sLow) else if isHigh (unitM o a b) = true then (2,none,sHigh) else (2,some (unitM o a b),""):=rfl
theorem st4 : stepM o (a :: b :: c :: d :: r) = if isLow (unitM o a b) = true then (2,none,sLow) else if isHigh (unitM o a b) = true then (if isLow (unitM o c d) = true then (4,some (joinM (unitM o a b) (unitM o c d)),"") else (2,none,sHigh)) else (2,some (unitM o a b),""):=rfl
end
theorem stepM_bd {o : String} {l : List Int} (h : l ≠ []) : 1 ≤ (stepM o l).1 ∧ (stepM o l).1 ≤ l.length:=by
 rcases l with _ | ⟨a,_ | ⟨b,_ | ⟨c,_ | ⟨d,r⟩⟩⟩⟩
 ·exact absurd rfl h
 ·rw [st1]; simp
 ·rw [st2]; split <;> (try split) <;> simp
 ·rw [st3]; split <;> (try split) <;> simp
 ·rw [st4]; simp only [List.length_cons]; split <;> (try split) <;> (try split) <;> (simp only; lia)
noncomputable def run16 (o : String) (last : Bool) (l : List Int) : List (Option Int) × List Int :=
 if h : l = [] then ([],[]) else
  if last = false ∧ lackM o l = true then ([],l)
  else ((stepM o l).2.1 :: (run16 o last (l.drop (stepM o l).1.toNat)).1,(run16 o last (l.drop (stepM o l).1.toNat)).2)
termination_by l.length
decreasing_by all_goals exact dec_ h (stepM_bd (o:=o) h).1
section
variable {o : String} {last : Bool} {l : List Int}
theorem run16_nil : run16 o last [] = ([],[]):=by rw [run16]; rfl
theorem run16_lack (h : l ≠ []) (h2 : last = false ∧ lackM o l = true) : run16 o last l = ([],l):=by rw [run16,dif_neg h,if_pos h2]
theorem run16_step (h : l ≠ []) (h2 : ¬ (last = false ∧ lackM o l = true)) : run16 o last l = ((stepM o l).2.1 :: (run16 o last (l.drop (stepM o l).1.toNat)).1,(run16 o last (l.drop (stepM o l).1.toNat)).2):=by
 rw [run16,dif_neg h,if_neg h2]
end
theorem run16_len (o : String) (last : Bool) : ∀ (n : Nat) (l : List Int),l.length ≤ n → (run16 o last l).1.length + (run16 o last l).2.length ≤ l.length
 | _,[],_ =>by rw [run16_nil]; simp
 | 0,_ :: _,h =>by simp at h
 | n + 1,b :: r,h =>by
  have hne : b :: r ≠ []:=by simp
  by_cases h2 : last = false ∧ lackM o (b :: r) = true
  ·rw [run16_lack hne h2]; simp
  ·rw [run16_step hne h2]
   have hb:=stepM_bd (o:=o) hne
   have:=run16_len o last n ((b :: r).drop (stepM o (b :: r)).1.toNat) (dnD hb.1 h)
   rw [List.length_drop] at this
   exact rl_ hb.1 hb.2 this
section
variable {k : Nat} {ks r : List Int} {o : String}
theorem utf16_start_eq : (geOf tab (k + 1)).fn "utf16_start" [.bytes ks,.str o] [] = some (.tup [.str o,.int 0]):=by
 refine sh_utf16_start ?_
 simp_arith only [cT]
theorem stL {x y : Int} (h : isLow (unitM o x y) = true) : stepM o (x :: y :: r) = (2,none,sLow):=by
 show (if isLow (unitM o x y) = true then _ else _) = _
 rw [if_pos h]
theorem stP {x y : Int} (h : ¬ isLow (unitM o x y) = true) (h2 : ¬ isHigh (unitM o x y) = true) : stepM o (x :: y :: r) = ((2,some (unitM o x y),"") : Pc):=by
 show (if isLow (unitM o x y) = true then _ else if isHigh (unitM o x y) = true then _ else _) = _
 rw [if_neg h,if_neg h2]
theorem pt2 : partV (some (.int 2)) = some (some 2):=rfl
theorem pt4 : partV (some (.int 4)) = some (some 4):=rfl
theorem utf16_start_be (hl : r.length ≤ 1000) : (geOf tab (k + 1)).fn "utf16_start" [.bytes (254 :: 255 :: r),.none] [] = some (.tup [.str "be",.int 2]):=by
 have hl' : (254 :: 255 :: r).length ≤ 1048576:=by simp only [List.length_cons]; lia
 have c2 : cut (254 :: 255 :: r) Option.none (some 2) = [254,255]:=cut_take (b:=2)
 have b1 : (([254,255] : List Int) == [255,254]) = false:=rfl
 have b2 : (([254,255] : List Int) == [254,255]) = true:=rfl
 refine sh_utf16_start ?_
 simp_arith only [hl',pt2,c2,b1,b2]
theorem utf16_start_le (hl : r.length ≤ 1000) : (geOf tab (k + 1)).fn "utf16_start" [.bytes (255 :: 254 :: r),.none] [] = some (.tup [.str "le",.int 2]):=by
 have hl' : (255 :: 254 :: r).length ≤ 1048576:=by simp only [List.length_cons]; lia
 have c2 : cut (255 :: 254 :: r) Option.none (some 2) = [255,254]:=cut_take (b:=2)
 have b1 : (([255,254] : List Int) == [255,254]) = true:=rfl
 refine sh_utf16_start ?_
 simp_arith only [hl',pt2,c2,b1]
theorem utf16_step_eq {a : Nat} (hl : ks.length ≤ 1000) (ha : a < ks.length) (ho : Oct ks) :
  (geOf tab (k + 2)).fn "utf16_step" [.bytes ks,.int a,.str o] [] = some (.tup [optV (stepM o (ks.drop a)).2.1,.int ((a : Int) + (stepM o (ks.drop a)).1),.str (stepM o (ks.drop a)).2.2]):=by
 have hl' : ks.length ≤ 1048576:=by lia
 have hd:=ho.drop a
 refine sh_utf16_step ?_
 rcases hr : ks.drop a with _ | ⟨x,_ | ⟨y,r⟩⟩
 ·exact absurd hr (drop_ne ha)
 ·have hn:=len_drop hr (Nat.le_of_lt ha)
  have e1 : (ks.length : Int) = (a : Int) + 1:=by simpa using hn
  have L2 : (ks.length : Int) < (a : Int) + 2:=by lia
  simp_arith [hl',L2]
  rw [e1]; rfl
 ·have hn:=len_drop hr (Nat.le_of_lt ha)
  rw [hr] at hd
  simp only [List.length_cons] at hn
  have L2 : ¬ (ks.length : Int) < (a : Int) + 2:=by lia
  have i0 : itemAt ks a = some x:=by have:=itemAt_drop hr 0 (by simp); simpa using this
  have i1 : itemAt ks ((a : Int) + 1) = some y:=by have:=itemAt_drop hr 1 (by simp); simpa using this
  have hu : (geOf tab (k + 1)).fn "utf16_unit" [.bytes ks,.int a,.str o] [] = some (.int (unitM o x y)):=utf16_unit_eq hl' i0 i1 hd.cons.1 hd.cons.2.cons.1
  simp_arith [hl',L2,hu,is_low_eq]
  by_cases c1 : isLow (unitM o x y) = true
  ·refine cE c1 ?_
   rw [stL c1]; rfl
  ·refine cE' (Bool.eq_false_iff.mpr c1) ?_
   simp_arith [is_high_eq]
   by_cases c2 : isHigh (unitM o x y) = true
   ·refine cE' (by rw [c2]; rfl) ?_
    have hj:=c2
    unfold isHigh at hj
    rw [Bool.and_eq_true,decide_eq_true_eq,decide_eq_true_eq] at hj
    rcases r with _ | ⟨z,_ | ⟨w,r⟩⟩
    ·have L4 : ¬ (a : Int) + 4 ≤ (ks.length : Int):=by simp only [List.length_nil] at hn; lia
     simp_arith [hl',L4]
     rw [st2,if_neg c1,if_pos c2]; rfl
    ·have L4 : ¬ (a : Int) + 4 ≤ (ks.length : Int):=by simp only [List.length_cons,List.length_nil] at hn; lia
     simp_arith [hl',L4]
     rw [st3,if_neg c1,if_pos c2]; rfl
    ·have L4 : (a : Int) + 4 ≤ (ks.length : Int):=by simp only [List.length_cons] at hn; lia
     have i2 : itemAt ks ((a : Int) + 2) = some z:=by have:=itemAt_drop hr 2 (by simp); simpa using this
     have i3 : itemAt ks ((a : Int) + 2 + 1) = some w:=by have:=itemAt_drop hr 3 (by simp); rw [show (a : Int) + 2 + 1 = (a : Int) + (3 : Nat) by lia]; simpa using this
     have hv : (geOf tab (k + 1)).fn "utf16_unit" [.bytes ks,.int ((a : Int) + 2),.str o] [] = some (.int (unitM o z w)):=utf16_unit_eq hl' i2 i3 hd.cons.2.cons.2.cons.1 hd.cons.2.cons.2.cons.2.cons.1
     simp_arith [hl',L4,hv,is_low_eq]
     rw [st4,if_neg c1,if_pos c2]
     by_cases c3 : isLow (unitM o z w) = true
     ·refine cE c3 ?_
      simp_arith [utf16_joined_eq (k:=k) (y:=unitM o z w) hj.1 hj.2]
      rw [if_pos c3]; rfl
     ·refine cE' (Bool.eq_false_iff.mpr c3) ?_
      rw [if_neg c3]; rfl
   ·refine cE (by rw [Bool.eq_false_iff.mpr c2]; rfl) ?_
    rw [stP c1 c2]; rfl
theorem is_lacking_eq {a : Nat} (hl : ks.length ≤ 1000) (ha : a < ks.length) (ho : Oct ks) :
  (geOf tab (k + 2)).pm "Utf16Stream" "is_lacking" [.bytes ks,.int a,.str o] = some (.bool (lackM o (ks.drop a))):=by
 have hl' : ks.length ≤ 1048576:=by lia
 have hd:=ho.drop a
 refine sh_Utf16Stream_is_lacking ?_
 rcases hr : ks.drop a with _ | ⟨x,_ | ⟨y,r⟩⟩
 ·exact absurd hr (drop_ne ha)
 ·have hn:=len_drop hr (Nat.le_of_lt ha)
  have L2 : (ks.length : Int) - (a : Int) < 2:=by simp only [List.length_cons,List.length_nil] at hn; lia
  simp_arith! [hl',L2]; rfl
 ·have hn:=len_drop hr (Nat.le_of_lt ha)
  rw [hr] at hd
  simp only [List.length_cons] at hn
  have L2 : ¬ (ks.length : Int) - (a : Int) < 2:=by lia
  have i0 : itemAt ks a = some x:=by have:=itemAt_drop hr 0 (by simp); simpa using this
  have i1 : itemAt ks ((a : Int) + 1) = some y:=by have:=itemAt_drop hr 1 (by simp); simpa using this
  have hu : (geOf tab (k + 1)).fn "utf16_unit" [.bytes ks,.int a,.str o] [] = some (.int (unitM o x y)):=utf16_unit_eq hl' i0 i1 hd.cons.1 hd.cons.2.cons.1
  rw [lackM]
  by_cases c : r.length < 2
  ·have L4 : (ks.length : Int) - (a : Int) < 4:=by lia
   simp_arith! [hl',L2,L4,hu,is_high_eq,c,Bool.true_and]
  ·have L4 : ¬ (ks.length : Int) - (a : Int) < 4:=by lia
   simp_arith! [hl',L2,L4,c,Bool.false_and]
end
noncomputable def got16 (c : Option Int) : Int:=c.getD 65533
theorem decode_utf16_replaced_eq {k : Nat} {ks : List Int} {o : String} (hl : ks.length ≤ 1000) (ho : Oct ks) : (geOf tab (k + 3)).fn "decode_utf16_replaced" [.bytes ks,.str o] [] = some (.list (((run16 o true ks).1.map got16).map .int)):=by
 have hl' : ks.length ≤ 1048576:=by lia
 refine sh_decode_utf16_replaced ?_
 simp_arith [utf16_start_eq]
 refine loopE (cursor (L:=ks.length) (d:=0) (E:=fun a (fs : List Int) ex =>("octets",.val (.bytes ks)) :: ("order",.val (.str o)) :: ("at",.val (.int a)) :: ("found",.own (fs.map .int)) :: ex) (J:=fun a fs =>fs ++ (run16 o true (ks.drop a)).1.map got16 = (run16 o true ks).1.map got16) hl ?_ ?_ ?_ (Nat.zero_le _) rfl)
 ·intro a fs ex
  refine sht_decode_utf16_replaced ?_
  simp_arith only [hl']
 ·intro a fs ex hlt hfs h6
  have hp:=utf16_step_eq (k:=k) (o:=o) hl hlt ho
  have hb:=stepM_bd (o:=o) (drop_ne hlt)
  rw [← List.length_map (f:=V.int)] at hfs
  rw [List.length_drop] at hb
  rw [run16_step (drop_ne hlt) (fun h =>by cases h.1),List.drop_drop,List.map_cons] at h6
  have hm:=nx4 (a:=a) hb.1
  have e1 : (("code" : Str) == ("what" : Str)) = false:=by kernel_rfl
  refine shb_decode_utf16_replaced ?_
  cases hz : (stepM o (ks.drop a)).2.1 with
  | none =>
   rw [hz] at h6
   simp_arith! [hp,hz,optV,e1,hfs,hm]
   exact ⟨_,65533,_,by rw [mapS],hb.1,hb.2,by rw [List.append_assoc]; exact h6⟩
  | some c =>
   rw [hz] at h6
   simp_arith only [hp,hz,optV,e1,hfs,hm]
   exact ⟨_,c,_,by rw [mapS],hb.1,hb.2,by rw [List.append_assoc]; exact h6⟩
 ·intro fs ex _ h6
  rw [List.drop_length,run16_nil,List.map_nil,List.append_nil] at h6
  rw [fN,h6]
  exact sha_decode_utf16_replaced rfl
noncomputable def fl16 (ord : V) (st : Bool) (w : List Int) (n : Int) : List (Str × V):=[("order",ord),("is_strict",.bool st),("left",.bytes w),("used",.int n)]
noncomputable def out16 (o : String) (st last : Bool) (ks : List Int) (d : Nat) (n : Int) : V × List (Str × V):=(.list (((run16 o last (ks.drop d)).1.map got16).map .int),fl16 (.str o) st (run16 o last (ks.drop d)).2 (n + (ks.length - (run16 o last (ks.drop d)).2.length : Nat)))
section
variable {k : Nat} {w p ks : List Int} {n : Int} {last st : Bool} {o : String} {ov : V}
theorem init16_eq : (geOf tab (k + 1)).cls "Utf16Stream" [] = some (fl16 .none true [] 0):=sh_Utf16Stream_init0 rfl
theorem init16_be : (geOf tab (k + 1)).cls "Utf16Stream" [.str "be",.bool false] = some (fl16 (.str "be") false [] 0):=sh_Utf16Stream_init rfl
theorem fin16 {a : Nat} {x : V} {fs : List V} {ex : Gam} (hl : ks.length ≤ 1000) (ha : a ≤ ks.length) : exsK 37 (wt (geOf tab k)) R44_2.sc R44_2.mu (("self",.inst "Utf16Stream" [("order",ov),("is_strict",.bool st),("left",.bytes w),("used",.int n)]) :: ("octets",.val (.bytes p)) :: ("is_last",.val (.bool last)) :: ("ahead",.val (.bytes ks)) :: ("found",.own (fs)) :: ("at",.val (.int a)) :: ("order",.val (x)) :: ex) ((blk R44_2.body []).drop 3) retMf = some (.list fs,fl16 x st (ks.drop a) (n + a)):=by
 refine sha_feed16 ?_
 have hl' : ks.length ≤ 1048576:=by lia
 simp_arith [ptN (a:=a) (by lia),hl',cut_drop]
 rfl
theorem feed16_wait (hw : w.length + p.length < 2) : Out ((geOf tab (k + 1)).mth "Utf16Stream" "feed" (fl16 .none true w n) [.bytes p,.bool false]) (fun x =>∃ n',x = (.list [],fl16 .none true (w ++ p) n')):=by
 have hl' : w.length + p.length ≤ 1048576:=by lia
 have hl2 : (w ++ p).length ≤ 1048576:=by rw [List.length_append]; exact hl'
 have hl3 : ¬ (2 : Int) ≤ ((w ++ p).length : Nat):=by rw [List.length_append]; lia
 have hl4 : (w ++ p).length ≤ 1000:=by rw [List.length_append]; lia
 refine outE (sh_Utf16Stream_feed (v:=(.list [],fl16 .none true ((w ++ p).drop 0) (n + (0 : Nat)))) ?_) ⟨_,rfl⟩
 simp_arith! [hl',hl2,hl3]
 refine loopE ?_
 rw [whileX_succ,sht_feed16 (v:=false) rfl]
 exact ⟨_,rfl,Eq.trans fN (fin16 (a:=0) hl4 (Nat.zero_le _))⟩
theorem feed16_loop {d : Nat} (hl : ks.length ≤ 1000) (hd : d ≤ ks.length) (ho : Oct ks) (hst : st = true → ∀ c ∈ (run16 o last (ks.drop d)).1,c ≠ none) : ((whileX 36 (wt (geOf tab (k + 2))) R44_2.sc R44_2.mu (testOf (sAt (blk R44_2.body []) 2)) (blk R44_2.body [2]) 65536 (("self",.inst "Utf16Stream" [("order",ov),("is_strict",.bool st),("left",.bytes w),("used",.int n)]) :: ("octets",.val (.bytes p)) :: ("is_last",.val (.bool last)) :: ("ahead",.val (.bytes ks)) :: ("found",.own ([])) :: ("at",.val (.int d)) :: ("order",.val (.str o)) :: [])).bind fun fl =>flC fl (fun g =>exsK 37 (wt (geOf tab (k + 2))) R44_2.sc R44_2.mu g ((blk R44_2.body []).drop 3) retMf) (fun g =>retMf (.brk g)) (fun w g =>retMf (.ret w g))) = some (out16 o st last ks d n):=by
 have hl' : ks.length ≤ 1048576:=by lia
 have fin : ∀ (a : Nat) (ex : Gam),a ≤ ks.length → ks.drop a = (run16 o last (ks.drop d)).2 → exsK 37 (wt (geOf tab (k + 2))) R44_2.sc R44_2.mu (("self",.inst "Utf16Stream" [("order",ov),("is_strict",.bool st),("left",.bytes w),("used",.int n)]) :: ("octets",.val (.bytes p)) :: ("is_last",.val (.bool last)) :: ("ahead",.val (.bytes ks)) :: ("found",.own (((run16 o last (ks.drop d)).1.map got16).map V.int)) :: ("at",.val (.int a)) :: ("order",.val (.str o)) :: ex) ((blk R44_2.body []).drop 3) retMf = some (out16 o st last ks d n):=by
  intro a ex ha hx
  have e:=congrArg List.length hx
  rw [List.length_drop] at e
  have ha' : ks.length - (run16 o last (ks.drop d)).2.length = a:=by rw [← e]; exact Nat.sub_sub_self ha
  rw [out16,ha',← hx]
  exact fin16 hl ha
 refine loopE (cursor (L:=ks.length) (d:=d) (E:=fun a (fs : List (Option Int)) ex =>("self",.inst "Utf16Stream" [("order",ov),("is_strict",.bool st),("left",.bytes w),("used",.int n)]) :: ("octets",.val (.bytes p)) :: ("is_last",.val (.bool last)) :: ("ahead",.val (.bytes ks)) :: ("found",.own ((fs.map got16).map .int)) :: ("at",.val (.int a)) :: ("order",.val (.str o)) :: ex) (J:=fun a fs =>fs ++ (run16 o last (ks.drop a)).1 = (run16 o last (ks.drop d)).1 ∧ (run16 o last (ks.drop a)).2 = (run16 o last (ks.drop d)).2) hl ?_ ?_ ?_ hd ⟨rfl,rfl⟩)
 ·intro a fs ex
  refine sht_feed16 ?_
  simp_arith [hl']
  cases decide ((a : Int) < ks.length) <;> rfl
 ·intro a fs ex hlt hfs ⟨h6,h7⟩
  have hp:=utf16_step_eq (k:=k) (o:=o) hl hlt ho
  have hk:=is_lacking_eq (k:=k) (o:=o) hl hlt ho
  have hb:=stepM_bd (o:=o) (drop_ne hlt)
  rw [← List.length_map (f:=got16),← List.length_map (f:=V.int)] at hfs
  rw [List.length_drop] at hb
  have hm:=nx4 (a:=a) hb.1
  have e1 : (("code" : Str) == ("what" : Str)) = false:=by kernel_rfl
  have e2 : (("code" : Str) == ("behind" : Str)) = false:=by kernel_rfl
  have e3 : (("behind" : Str) == ("what" : Str)) = false:=by kernel_rfl
  have e4 : (("behind" : Str) == ("code" : Str)) = false:=by kernel_rfl
  refine shb_feed16 ?_
  by_cases hs : last = false ∧ lackM o (ks.drop a) = true
  ·rw [run16_lack (drop_ne hlt) hs] at h6 h7
   rw [List.append_nil] at h6
   simp only at h6 h7
   have hs1:=hs.1
   subst hs1
   simp_arith! [hk,hs.2]
   rw [h6]
   exact fin a ex (Nat.le_of_lt hlt) h7
  ·simp only [run16_step (drop_ne hlt) hs,List.drop_drop] at h6 h7
   have hN : (stepM o (ks.drop a)).2.1 = none → st = false:=fun hz =>by
    cases st with
    | false =>rfl
    | true =>exact absurd hz (hst rfl _ (by rw [← h6]; exact List.mem_append_right _ (.head _)))
   have hm2 : ∀ {z : Int},got16 (stepM o (ks.drop a)).2.1 = z → (fs.map got16).map V.int ++ [V.int z] = ((fs ++ [(stepM o (ks.drop a)).2.1]).map got16).map V.int:=fun h =>by rw [List.map_append,List.map_append,← h]; rfl
   have h6' : (fs ++ [(stepM o (ks.drop a)).2.1]) ++ (run16 o last (ks.drop (a + (stepM o (ks.drop a)).1.toNat))).1 = (run16 o last (ks.drop d)).1:=by rw [List.append_assoc]; exact h6
   refine cR (fun hl =>bE hk (bE trB (cE' (Bool.eq_false_iff.mpr fun h =>hs ⟨(Bool.not_eq_true' _).mp hl,h⟩) rfl))) ?_
   cases hz : (stepM o (ks.drop a)).2.1 with
   | none =>
    have:=hN hz
    subst this
    simp_arith! [hp,hz,optV,e1,e2,e3,e4,hfs,hm]
    exact ⟨_,_,_,by rw [hm2 (by rw [hz]; rfl)],hb.1,hb.2,h6',h7⟩
   | some c =>
    simp_arith! [hp,hz,optV,e1,e2,e3,e4,hfs,hm]
    exact ⟨_,_,_,by rw [hm2 (by rw [hz]; rfl)],hb.1,hb.2,h6',h7⟩
 ·intro fs ex _ ⟨h6,h7⟩
  rw [List.drop_length,run16_nil] at h6 h7
  rw [List.append_nil] at h6
  rw [fN,h6]
  exact fin _ ex (Nat.le_refl _) (by rw [List.drop_length]; exact h7)
theorem feed16_on (hw : w.length + p.length ≤ 1000) (ho : Oct (w ++ p)) (hst : st = true → ∀ c ∈ (run16 o last ((w ++ p))).1,c ≠ none) :
  Out ((geOf tab (k + 3)).mth "Utf16Stream" "feed" (fl16 (.str o) st w n) [.bytes p,.bool last]) (fun x =>∃ n',x = (.list (((run16 o last ((w ++ p))).1.map got16).map .int),fl16 (.str o) st (run16 o last ((w ++ p))).2 n')):=by
 have hl' : w.length + p.length ≤ 1048576:=by lia
 refine ⟨out16 o st last (w ++ p) 0 n,sh_Utf16Stream_feed ?_,_,rfl⟩
 simp_arith! [hl']
 exact feed16_loop (d:=0) (by rw [List.length_append]; exact hw) (Nat.zero_le _) ho hst
theorem feed16_first (hw : w.length + p.length ≤ 1000) (ho : Oct (w ++ p)) (h2 : 2 ≤ (w ++ p).length) (hs : ∀ k,(geOf tab (k + 1)).fn "utf16_start" [.bytes (w ++ p),.none] [] = some (.tup [.str o,.int 2])) (hst : st = true → ∀ c ∈ (run16 o last ((w ++ p).drop 2)).1,c ≠ none) :
  Out ((geOf tab (k + 3)).mth "Utf16Stream" "feed" (fl16 .none st w n) [.bytes p,.bool last]) (fun x =>∃ n',x = (.list (((run16 o last ((w ++ p).drop 2)).1.map got16).map .int),fl16 (.str o) st (run16 o last ((w ++ p).drop 2)).2 n')):=by
 have hl' : w.length + p.length ≤ 1048576:=by lia
 have hl2 : (w ++ p).length ≤ 1048576:=by rw [List.length_append]; exact hl'
 have hl3 : (2 : Int) ≤ ((w ++ p).length : Nat):=by lia
 refine ⟨out16 o st last (w ++ p) 2 n,sh_Utf16Stream_feed ?_,_,rfl⟩
 simp_arith [hl',hl2,hl3,hs]
 exact feed16_loop (d:=2) (by rw [List.length_append]; exact hw) h2 ho hst
end
theorem tl_app : ∀ (k : Nat) (d lo hi c : Int) (r b : List Int),(tailM k d lo hi c r).2.2 ≠ sShort → tailM k d lo hi c (r ++ b) = tailM k d lo hi c r
 | 0,d,lo,hi,c,r,b,_ =>by simp only [tailM,tailM]
 | k + 1,d,lo,hi,c,[],b,h =>by simp [tailM] at h
 | k + 1,d,lo,hi,c,o :: r,b,h =>by
  rw [tailM] at h
  simp only [List.cons_append,tailM,tailM]
  split
  ·rename_i c1
   rw [if_pos c1] at h
   exact tl_app k _ _ _ _ r b h
  ·rfl
theorem piece_app {l b : List Int} (h : l ≠ []) (hs : (pieceM l).2.2 ≠ sShort) : pieceM (l ++ b) = pieceM l:=by
 rcases l with _ | ⟨x,r⟩
 ·exact absurd rfl h
 ·simp only [List.cons_append,pieceM,pieceM]
  rw [pieceM] at hs
  split
  ·rfl
  ·rename_i c1
   rw [if_neg c1] at hs
   split
   ·rename_i c2
    rw [if_pos c2] at hs
    exact tl_app _ _ _ _ _ _ _ hs
   ·rename_i c2
    rw [if_neg c2] at hs
    split
    ·rename_i c3
     rw [if_pos c3] at hs
     exact tl_app _ _ _ _ _ _ _ hs
    ·rename_i c3
     rw [if_neg c3] at hs
     split
     ·rename_i c4
      rw [if_pos c4] at hs
      exact tl_app _ _ _ _ _ _ _ hs
     ·rfl
theorem run_app (last : Bool) (b : List Int) : ∀ (n : Nat) (a : List Int),a.length ≤ n → run last (a ++ b) = ((run false a).1 ++ (run last ((run false a).2 ++ b)).1,(run last ((run false a).2 ++ b)).2)
 | _,[],_ =>by rw [run_nil]; simp
 | 0,_ :: _,h =>by simp at h
 | n + 1,x :: r,h =>by
  have hne : x :: r ≠ []:=by simp
  generalize x :: r = a at *
  by_cases hk : (pieceM a).2.2 = sShort
  ·rw [run_short (last:=false) hne ⟨hk,rfl⟩]; simp
  ·have ha:=piece_app (b:=b) hne hk
   have hb:=pieceM_bd hne
   have hne2 : a ++ b ≠ []:=by simp [hne]
   rw [run_step hne2 (fun q =>hk (by rw [← ha]; exact q.1)),run_step (last:=false) hne (fun q =>hk q.1),ha,List.drop_append_of_le_length (by lia)]
   rw [run_app last b n (a.drop (pieceM a).1.toNat) (dnD hb.1 h)]
   simp
theorem tl_zero {d lo hi c : Int} {r : List Int} : tailM 0 d lo hi c r = (d,some c,("" : Str)):=by rw [tailM]
theorem tl_one {d lo hi c X : Int} {r : List Int} (h : (tailM 1 d lo hi c r).2.1 = some X) : ∃ o,lo ≤ o ∧ o ≤ hi ∧ X = c * 64 + o % 64:=by
 rcases r with _ | ⟨o,r⟩
 ·simp [tailM] at h
 ·rw [tailM] at h
  split at h
  ·rename_i c1; rw [tl_zero] at h; simp only [Option.some.injEq] at h; exact ⟨o,c1.1,c1.2,h.symm⟩
  ·simp at h
theorem tl_more {k : Nat} {d lo hi c X : Int} {r : List Int} (h : (tailM (k + 1) d lo hi c r).2.1 = some X) : ∃ o s,lo ≤ o ∧ o ≤ hi ∧ (tailM k (d + 1) 128 191 (c * 64 + o % 64) s).2.1 = some X:=by
 rcases r with _ | ⟨o,r⟩
 ·simp [tailM] at h
 ·rw [tailM] at h
  split at h
  ·rename_i c1; exact ⟨o,r,c1.1,c1.2,h⟩
  ·simp at h
theorem m6 (o : Int) : 0 ≤ o % 64 ∧ o % 64 ≤ 63:=⟨Int.emod_nonneg _ (by decide),Int.le_of_lt_add_one (Int.emod_lt_of_pos _ (by decide))⟩
theorem sca3 {q r s : Int} (h1 : 0 ≤ q) (h2 : q ≤ 15) (h3 : 0 ≤ r ∧ r ≤ 63) (h4 : 0 ≤ s ∧ s ≤ 63) (h : q = 13 → r ≤ 31) : Sca ((q * 64 + r) * 64 + s):=by
 rcases h3 with ⟨a,b⟩
 rcases h4 with ⟨c,d⟩
 by_cases x : q ≤ 13
 ·refine .inl ⟨by lia,?_⟩
  by_cases y : q = 13
  ·have:=h y; subst y; lia
  ·have : q ≤ 12:=by lia
   clear y h h1
   lia
 ·exact .inr ⟨by lia,by lia⟩
theorem sca4 {q r s t : Int} (h1 : 0 ≤ q) (h2 : q ≤ 4) (h3 : 0 ≤ r ∧ r ≤ 63) (h4 : 0 ≤ s ∧ s ≤ 63) (h5 : 0 ≤ t ∧ t ≤ 63) (h : q = 0 → 16 ≤ r) (h' : q = 4 → r ≤ 15) : Sca (((q * 64 + r) * 64 + s) * 64 + t):=by
 rcases h3 with ⟨a,b⟩
 rcases h4 with ⟨c,d⟩
 rcases h5 with ⟨e,f⟩
 have : 16 ≤ q * 64 + r:=by
  by_cases x : q = 0
  ·have:=h x; lia
  ·lia
 have : q * 64 + r ≤ 271:=by
  by_cases x : q = 4
  ·have:=h' x; lia
  ·lia
 generalize q * 64 + r = z at *
 exact .inr ⟨by lia,by lia⟩
theorem piece_sca {l : List Int} (ho : Oct l) {X : Int} (h : (pieceM l).2.1 = some X) : Sca X:=by
 rcases l with _ | ⟨b,r⟩
 ·simp [pieceM] at h
 ·have hb:=ho.cons.1
  rw [pieceM] at h
  split at h
  ·rename_i c1; obtain rfl:=Option.some.inj h; exact .inl ⟨hb.1,Int.lt_trans c1 (by decide)⟩
  ·split at h
   ·refine bc fun hN =>?_
    obtain ⟨o,h1,h2,h3⟩:=tl_one h
    refine hN ?_
    subst h3
    have:=m6 o
    exact .inl ⟨by lia,by lia⟩
   ·split at h
    ·rename_i c3
     refine bc fun hN =>?_
     obtain ⟨o,s,h1,h2,h3⟩:=tl_more h
     obtain ⟨o2,h4,h5,h6⟩:=tl_one h3
     refine hN ?_
     subst h6
     refine sca3 (Int.emod_nonneg _ (by decide)) (Int.le_of_lt_add_one (Int.emod_lt_of_pos _ (by decide))) (m6 o) (m6 o2) fun e =>?_
     have : b = 237:=by lia
     rw [if_pos this] at h2
     have : 128 ≤ o:=by rw [if_neg (by lia)] at h1; exact h1
     lia
    ·split at h
     ·rename_i c4
      refine bc fun hN =>?_
      obtain ⟨o,s,h1,h2,h3⟩:=tl_more h
      obtain ⟨o2,s2,h4,h5,h6⟩:=tl_more h3
      obtain ⟨o3,h7,h8,h9⟩:=tl_one h6
      refine hN ?_
      subst h9
      refine sca4 (Int.emod_nonneg _ (by decide)) (by lia) (m6 o) (m6 o2) (m6 o3) (fun e =>?_) fun e =>?_
      ·have : b = 240:=by lia
       rw [if_pos this] at h1
       have : o ≤ 191:=by rw [if_neg (by lia)] at h2; exact h2
       lia
      ·have : b = 244:=by lia
       rw [if_pos this] at h2
       have : 128 ≤ o:=by rw [if_neg (by lia)] at h1; exact h1
       lia
     ·simp at h
theorem run_sca (last : Bool) : ∀ (n : Nat) (l : List Int),l.length ≤ n → Oct l → Scas (run last l).1
 | _,[],_,_ =>by rw [run_nil]; intro x hx; cases hx
 | 0,_ :: _,h,_ =>by simp at h
 | n + 1,x :: r,h,ho =>by
  have hne : x :: r ≠ []:=by simp
  generalize x :: r = l at *
  by_cases hk : (pieceM l).2.2 = sShort ∧ last = false
  ·rw [run_short hne hk]; intro x hx; cases hx
  ·have hb:=pieceM_bd hne
   rw [run_step hne hk]
   intro y hy
   rcases List.mem_cons.mp hy with rfl | hy
   ·cases hc : (pieceM l).2.1 with
    | none =>unfold Sca; simp
    | some X =>exact piece_sca ho hc
   ·exact run_sca last n _ (dnD hb.1 h) (ho.drop _) y hy
theorem cut_all : ∀ (n : Nat) (l : List Int),l.length ≤ n → Oct l → ∀ p ∈ cutM l,(1 ≤ p.length ∧ p.length ≤ 4) ∧ Oct p
 | _,[],_,_ =>by rw [cutM_nil]; intro x hx; cases hx
 | 0,_ :: _,h,_ =>by simp at h
 | n + 1,x :: r,h,ho =>by
  have hne : x :: r ≠ []:=by simp
  generalize x :: r = l at *
  have hb:=pieceM_bd hne
  have h4:=piece_le4 (l:=l)
  rw [cutM_cons hne]
  intro y hy
  rcases List.mem_cons.mp hy with rfl | hy
  ·rw [List.length_take,Nat.min_eq_left (Int.toNat_le.mpr hb.2)]
   exact ⟨⟨(Int.le_toNat (Int.le_trans (by decide) hb.1)).mpr hb.1,Int.toNat_le.mpr h4⟩,ho.take _⟩
  ·exact cut_all n _ (dnD hb.1 h) (ho.drop _) y hy
theorem cut_len : ∀ (n : Nat) (l : List Int),l.length ≤ n → (cutM l).length ≤ l.length
 | _,[],_ =>by rw [cutM_nil]; simp
 | 0,_ :: _,h =>by simp at h
 | n + 1,x :: r,h =>by
  have hne : x :: r ≠ []:=by simp
  generalize x :: r = l at *
  have hb:=pieceM_bd hne
  have ih:=cut_len n (l.drop (pieceM l).1.toNat) (dnD hb.1 h)
  simp only [cutM_cons hne,List.length_cons]
  rw [List.length_drop] at ih
  exact rl_ (A:=(cutM (l.drop (pieceM l).1.toNat)).length) (B:=0) hb.1 hb.2 ih
theorem it_last {α : Type} {l : List α} {a : α} : itemAt (l ++ [a]) (-1) = some a:=by
 unfold itemAt
 rw [if_neg (by lia),if_pos (by rw [List.length_append]; simp; lia)]
 have : (-1 + ((l ++ [a]).length : Int)).toNat = l.length:=by rw [List.length_append]; simp; lia
 rw [this]; simp
theorem cut_last {α : Type} {l : List α} {a : α} : cut (l ++ [a]) Option.none (some (-1)) = l:=by
 unfold cut clip
 simp only [Option.elim,List.drop_zero,Nat.sub_zero]
 rw [if_pos (by lia)]
 have : (-1 + ((l ++ [a]).length : Int)).toNat = l.length:=by rw [List.length_append]; simp; lia
 simp only [this,List.take_left]
theorem lastOff_snoc {qs : List (List Int)} {p : List Int} : lastOff (qs ++ [p]) = if waits p = true then qs else qs ++ [p]:=by
 unfold lastOff; rw [List.getLast?_append]; simp
theorem codes_comp {k : Nat} {ps : List (List Int)} (hn : ps.length ≤ 1000) (hall : ∀ p ∈ ps,(1 ≤ p.length ∧ p.length ≤ 4) ∧ Oct p) : ((itemsV (.list (ps.map .bytes))).bind fun xs =>if xs.length ≤ 1048576 then (compV (fun x =>(orO ((geOf tab (k + 2)).fn "_law_code" [x] []) (bltV "_law_code" [x])).bind fun v =>some (some v)) xs).bind fun v =>(itemsV (.list v)).bind fun xs =>if xs.length ≤ 1048576 then (compV (fun x =>cond (!isNoneV x) (some (some x)) (some (some (V.int 65533)))) xs).bind fun v =>some (V.list v) else Option.none else Option.none) = some (.list ((ps.map got).map .int)):=by
 have h1 : (ps.map V.bytes).length ≤ 1048576:=by rw [List.length_map]; lia
 have h2 : (ps.map fun p =>optV (codeM p)).length ≤ 1048576:=by rw [List.length_map]; lia
 rw [isL h1,bS,if_pos h1,comp_map (q:=fun p =>optV (codeM p)) ps fun p hp =>by rw [law_code_eq (hall p hp).1 (hall p hp).2]; rfl,bS,isL h2,bS,if_pos h2,comp_map (q:=fun p =>V.int (got p)) ps fun p hp =>by unfold got; cases codeM p <;> rfl]
 rw [List.map_map]; rfl
theorem law_codes_eq {k : Nat} {ks : List Int} {last : Bool} (hl : ks.length ≤ 1000) (ho : Oct ks) : (geOf tab (k + 3)).fn "_law_codes" [.bytes ks,.bool last] [] = some (.list ((run last ks).1.map .int)):=by
 have hcut:=law_cut_eq (k:=k) hl ho
 have hall:=cut_all _ ks (Nat.le_refl _) ho
 have hlen:=cut_len _ ks (Nat.le_refl _)
 refine sh_law_codes ?_
 cases last with
 | true =>
  rw [run_true _ _ (Nat.le_refl _)]
  simp_arith [hcut]
  exact codes_comp (by lia) hall
 | false =>
  rw [run_false _ _ (Nat.le_refl _)]
  generalize cutM ks = ps at *
  rcases List.eq_nil_or_concat ps with rfl | ⟨qs,p,e⟩
  ·simp_arith [hcut,neE,List.map_nil,List.isEmpty_nil]
   exact codes_comp (k:=k) (ps:=[]) (by lia) hall
  ·rw [List.concat_eq_append] at e
   subst e
   have hp:=hall p (by simp)
   have hq : ∀ x ∈ qs,(1 ≤ x.length ∧ x.length ≤ 4) ∧ Oct x:=fun x hx =>hall x (List.mem_append_left _ hx)
   rw [lenS] at hlen
   have hm : ((qs ++ [p]).map V.bytes) = qs.map V.bytes ++ [V.bytes p]:=by rw [List.map_append]; rfl
   have hn : ((qs ++ [p]).map V.bytes).length ≤ 1048576:=by simp only [List.length_map,lenS]; lia
   have hN : (!((qs ++ [p]).map V.bytes).isEmpty) = true:=by rw [hm]; cases qs <;> rfl
   have i1 : itemAt ((qs ++ [p]).map V.bytes) (-1) = some (.bytes p):=by rw [hm]; exact it_last
   have c1 : cut ((qs ++ [p]).map V.bytes) Option.none (some (-1)) = qs.map V.bytes:=by rw [hm]; exact cut_last
   have p1 : partV (some (.int (-1))) = some (some (-1)):=rfl
   rw [lastOff_snoc]
   unfold waits
   simp_arith [hcut,neE,hN,itL hn,i1,law_code_eq hp.1 hp.2]
   cases hc : codeM p with
   | some c =>
    simp_arith only [optV,inI]
    exact codes_comp (k:=k) (ps:=qs ++ [p]) (by rw [lenS]; lia) hall
   | none =>
    simp_arith [optV,inN,itL hn,i1,is_begun_eq hp.1 hp.2]
    cases hb : begB p with
    | true =>
     refine cE rfl ?_
     simp_arith [p1,slL hn,c1]
     exact codes_comp (k:=k) (ps:=qs) (by lia) hq
    | false =>
     refine cE' rfl ?_
     simp_arith [cT]
     exact codes_comp (k:=k) (ps:=qs ++ [p]) (by rw [lenS]; lia) hall
theorem step_app {o : String} {l b : List Int} (h : l ≠ []) (hl : ¬ lackM o l = true) : stepM o (l ++ b) = stepM o l ∧ ¬ lackM o (l ++ b) = true:=by
 rcases l with _ | ⟨x,_ | ⟨y,_ | ⟨z,_ | ⟨w,r⟩⟩⟩⟩
 ·exact absurd rfl h
 ·simp [lackM] at hl
 ·have hh : isHigh (unitM o x y) = false:=by simpa [lackM] using hl
  constructor
  ·rw [st2]
   simp only [List.cons_append,List.nil_append]
   rcases b with _ | ⟨c,_ | ⟨d,b⟩⟩
   ·rw [st2]
   ·rw [st3]
   ·rw [st4,hh]; simp
  ·simp [lackM,hh]
 ·have hh : isHigh (unitM o x y) = false:=by simpa [lackM] using hl
  constructor
  ·rw [st3]
   simp only [List.cons_append,List.nil_append]
   rcases b with _ | ⟨d,b⟩
   ·rw [st3]
   ·rw [st4,hh]; simp
  ·simp [lackM,hh]
 ·constructor
  ·simp only [List.cons_append]
   rw [st4,st4]
  ·simp [lackM]; intro q; lia
theorem run16_app (o : String) (last : Bool) (b : List Int) : ∀ (n : Nat) (a : List Int),a.length ≤ n → run16 o last (a ++ b) = ((run16 o false a).1 ++ (run16 o last ((run16 o false a).2 ++ b)).1,(run16 o last ((run16 o false a).2 ++ b)).2)
 | _,[],_ =>by rw [run16_nil]; simp
 | 0,_ :: _,h =>by simp at h
 | n + 1,x :: r,h =>by
  have hne : x :: r ≠ []:=by simp
  generalize x :: r = a at *
  by_cases hk : lackM o a = true
  ·rw [run16_lack (last:=false) hne ⟨rfl,hk⟩]; simp
  ·have ha:=step_app (b:=b) hne hk
   have hb:=stepM_bd (o:=o) hne
   have hne2 : a ++ b ≠ []:=by simp [hne]
   rw [run16_step hne2 (fun q =>ha.2 q.2),run16_step (last:=false) hne (fun q =>hk q.2),ha.1,List.drop_append_of_le_length (by lia)]
   rw [run16_app o last b n (a.drop (stepM o a).1.toNat) (dnD hb.1 h)]
   simp
noncomputable def pairsM : List Int → List Int
 | a :: b :: r =>(a * 256 + b) :: pairsM r
 | _ =>[]
noncomputable def hv : List Int → List Int
 | [] =>[]
 | [u] =>[if isSur u = true then 65533 else u]
 | u :: v :: r =>if isHigh u = true ∧ isLow v = true then joinM u v :: hv r else (if isSur u = true then 65533 else u) :: hv (v :: r)
theorem sur_low {u : Int} (h : isLow u = true) : isSur u = true ∧ isHigh u = false:=by
 simp only [isLow,Bool.and_eq_true,decide_eq_true_eq] at h
 exact ⟨by unfold isSur; rw [decide_eq_true h.2,Bool.and_true]; exact decide_eq_true (Int.le_trans (by decide) h.1),by unfold isHigh; rw [decide_eq_false (p:=u ≤ 56319) (Int.not_le.mpr h.1),Bool.and_false]⟩
theorem sur_high {u : Int} (h : isHigh u = true) : isSur u = true ∧ isLow u = false:=by
 simp only [isHigh,Bool.and_eq_true,decide_eq_true_eq] at h
 exact ⟨by unfold isSur; rw [decide_eq_true h.1,Bool.true_and]; exact decide_eq_true (Int.le_trans h.2 (by decide)),by unfold isLow; rw [decide_eq_false (p:=56320 ≤ u) (Int.not_le.mpr (Int.lt_add_one_of_le h.2)),Bool.false_and]⟩
theorem sur_no {u : Int} (h : ¬ isLow u = true) (h2 : ¬ isHigh u = true) : isSur u = false:=by
 unfold isLow isSur isHigh at *; simp only [Bool.and_eq_true,decide_eq_true_eq,Bool.and_eq_false_iff,decide_eq_false_iff_not] at *; lia
theorem unit_be {a b : Int} : unitM "be" a b = a * 256 + b:=by unfold unitM; rw [if_pos rfl]
theorem halves_true : ∀ (n : Nat) (l : List Int),l.length ≤ n → (run16 "be" true l).1.map got16 = hv (pairsM l) ++ List.replicate (l.length % 2) 65533
 | _,[],_ =>by rw [run16_nil]; simp [pairsM,hv]
 | 0,_ :: _,h =>by simp at h
 | n + 1,[a],h =>by
  rw [run16_step (by simp) (by simp),st1]
  simp [run16_nil,pairsM,hv,got16]
 | n + 1,[a,b],h =>by
  rw [run16_step (by simp) (by simp),st2,unit_be]
  by_cases c1 : isLow (a * 256 + b) = true
  ·simp [c1,run16_nil,pairsM,hv,got16,sur_low c1]
  ·by_cases c2 : isHigh (a * 256 + b) = true
   ·simp [c1,c2,run16_nil,pairsM,hv,got16,sur_high c2]
   ·simp [c1,c2,run16_nil,pairsM,hv,got16,sur_no c1 c2]
 | n + 1,[a,b,c],h =>by
  have ih:=halves_true n [c] (by simp only [List.length_cons,List.length_nil] at h ⊢; lia)
  simp only [List.length_cons,List.length_nil,pairsM,hv,List.nil_append] at ih
  rw [run16_step (by simp) (by simp),st3,unit_be]
  by_cases c1 : isLow (a * 256 + b) = true
  ·simp [c1,pairsM,hv,got16,sur_low c1]; simpa [got16] using ih
  ·by_cases c2 : isHigh (a * 256 + b) = true
   ·simp [c1,c2,pairsM,hv,got16,sur_high c2]; simpa [got16] using ih
   ·simp [c1,c2,pairsM,hv,got16,sur_no c1 c2]; simpa [got16] using ih
 | n + 1,a :: b :: c :: d :: r,h =>by
  have ih1:=halves_true n (c :: d :: r) (by simp only [List.length_cons] at h ⊢; lia)
  have ih2:=halves_true n r (by simp only [List.length_cons] at h ⊢; lia)
  have hm : (a :: b :: c :: d :: r).length % 2 = (c :: d :: r).length % 2:=Nat.add_mod_right _ 2
  have hm2 : (c :: d :: r).length % 2 = r.length % 2:=Nat.add_mod_right _ 2
  rw [hm,run16_step (by simp) (by simp),st4,unit_be,unit_be]
  simp only [pairsM] at ih1 ⊢
  by_cases c1 : isLow (a * 256 + b) = true
  ·rw [if_pos c1,hv,if_neg (by rw [(sur_low c1).2]; simp),if_pos (sur_low c1).1]
   simp only [List.map_cons,Int.reduceToNat,List.drop_succ_cons,List.drop_zero,List.cons_append]
   rw [ih1]; rfl
  ·rw [if_neg c1]
   by_cases c2 : isHigh (a * 256 + b) = true
   ·rw [if_pos c2]
    by_cases c3 : isLow (c * 256 + d) = true
    ·rw [if_pos c3,hv,if_pos ⟨c2,c3⟩]
     simp only [List.map_cons,Int.reduceToNat,List.drop_succ_cons,List.drop_zero,List.cons_append]
     simp only [ih2,hm2]; rfl
    ·rw [if_neg c3,hv,if_neg (fun q =>c3 q.2),if_pos (sur_high c2).1]
     simp only [List.map_cons,Int.reduceToNat,List.drop_succ_cons,List.drop_zero,List.cons_append]
     rw [ih1]; rfl
   ·rw [if_neg c2,hv,if_neg (fun q =>c2 q.1),if_neg (by rw [sur_no c1 c2]; simp)]
    simp only [List.map_cons,Int.reduceToNat,List.drop_succ_cons,List.drop_zero,List.cons_append]
    rw [ih1]; rfl
noncomputable def dropHigh (us : List Int) : List Int:=if us.getLast?.any isHigh = true then us.dropLast else us
theorem dh_cons {u v : Int} {r : List Int} : dropHigh (u :: v :: r) = u :: dropHigh (v :: r):=by
 unfold dropHigh
 rw [List.getLast?_cons_cons]
 split
 ·rw [List.dropLast_cons_cons]
 ·rfl
theorem hv_dh {u v : Int} {r : List Int} (h : ¬ (isHigh u = true ∧ isLow v = true)) : hv (dropHigh (u :: v :: r)) = (if isSur u = true then 65533 else u) :: hv (dropHigh (v :: r)):=by
 rw [dh_cons]
 rcases r with _ | ⟨w,r⟩
 ·unfold dropHigh
  rw [List.getLast?_singleton,Option.any_some]
  split
  ·rfl
  ·conv =>lhs; rw [hv,if_neg h]
 ·rw [dh_cons,hv,if_neg h]
theorem hv_dh2 {u v : Int} {r : List Int} (h : isHigh u = true ∧ isLow v = true) : hv (dropHigh (u :: v :: r)) = joinM u v :: hv (dropHigh r):=by
 rcases r with _ | ⟨w,r⟩
 ·have : dropHigh [u,v] = [u,v]:=by
   unfold dropHigh
   rw [List.getLast?_cons_cons,List.getLast?_singleton,Option.any_some,if_neg (by rw [(sur_low h.2).2]; simp)]
  rw [this,hv,if_pos h]; rfl
 ·rw [dh_cons,dh_cons,hv,if_pos h]
theorem halves_false : ∀ (n : Nat) (l : List Int),l.length ≤ n → (run16 "be" false l).1.map got16 = hv (dropHigh (pairsM l))
 | _,[],_ =>by rw [run16_nil]; rfl
 | 0,_ :: _,h =>by simp at h
 | n + 1,[a],h =>by
  rw [run16_lack (by simp) (by simp [lackM])]; rfl
 | n + 1,[a,b],h =>by
  by_cases c2 : isHigh (a * 256 + b) = true
  ·rw [run16_lack (by simp) (by simp [lackM,unit_be,c2])]
   simp [pairsM,dropHigh,c2,hv]
  ·rw [run16_step (by simp) (by simp [lackM,unit_be,c2]),st2,unit_be]
   by_cases c1 : isLow (a * 256 + b) = true
   ·simp [c1,c2,run16_nil,pairsM,hv,got16,sur_low c1,dropHigh]
   ·simp [c1,c2,run16_nil,pairsM,hv,got16,sur_no c1 c2,dropHigh]
 | n + 1,[a,b,c],h =>by
  by_cases c2 : isHigh (a * 256 + b) = true
  ·rw [run16_lack (by simp) (by simp [lackM,unit_be,c2])]
   simp [pairsM,dropHigh,c2,hv]
  ·have e : run16 "be" false [c] = ([],[c]):=run16_lack (by simp) (by simp [lackM])
   rw [run16_step (by simp) (by simp [lackM,unit_be,c2]),st3,unit_be]
   by_cases c1 : isLow (a * 256 + b) = true
   ·simp [c1,c2,e,pairsM,hv,got16,sur_low c1,dropHigh]
   ·simp [c1,c2,e,pairsM,hv,got16,sur_no c1 c2,dropHigh]
 | n + 1,a :: b :: c :: d :: r,h =>by
  have ih1:=halves_false n (c :: d :: r) (by simp only [List.length_cons] at h ⊢; lia)
  have ih2:=halves_false n r (by simp only [List.length_cons] at h ⊢; lia)
  rw [run16_step (by simp) (by simp [lackM]; intro q; lia),st4,unit_be,unit_be]
  simp only [pairsM] at ih1 ⊢
  by_cases c1 : isLow (a * 256 + b) = true
  ·rw [if_pos c1,hv_dh (by rw [(sur_low c1).2]; simp),if_pos (sur_low c1).1]
   simp only [List.map_cons,Int.reduceToNat,List.drop_succ_cons,List.drop_zero]
   rw [ih1]; rfl
  ·rw [if_neg c1]
   by_cases c2 : isHigh (a * 256 + b) = true
   ·rw [if_pos c2]
    by_cases c3 : isLow (c * 256 + d) = true
    ·rw [if_pos c3,hv_dh2 ⟨c2,c3⟩]
     simp only [List.map_cons,Int.reduceToNat,List.drop_succ_cons,List.drop_zero]
     rw [ih2]; rfl
    ·rw [if_neg c3,hv_dh (fun q =>c3 q.2),if_pos (sur_high c2).1]
     simp only [List.map_cons,Int.reduceToNat,List.drop_succ_cons,List.drop_zero]
     rw [ih1]; rfl
   ·rw [if_neg c2,hv_dh (fun q =>c2 q.1),if_neg (by rw [sur_no c1 c2]; simp)]
    simp only [List.map_cons,Int.reduceToNat,List.drop_succ_cons,List.drop_zero]
    rw [ih1]; rfl
noncomputable def two (o : String) (u : Int) : List Int:=if o = "be" then [u / 256,u % 256] else [u % 256,u / 256]
noncomputable def units16 (x : Int) : List Int:=if x < 65536 then [x] else [55296 + (x - 65536) / 1024,56320 + (x - 65536) % 1024]
noncomputable def enc16 (o : String) (text : List Int) : List Int:=(text.flatMap units16).flatMap (two o)
theorem two_unit {o : String} {u : Int} : ∃ a b,two o u = [a,b] ∧ unitM o a b = u:=by
 unfold two unitM
 split
 ·exact ⟨_,_,rfl,by lia⟩
 ·exact ⟨_,_,rfl,by lia⟩
theorem enc16_cons {o : String} {x : Int} {r : List Int} : enc16 o (x :: r) = (units16 x).flatMap (two o) ++ enc16 o r:=by
 unfold enc16; simp
theorem enc16_step {o : String} {x : Int} {t : List Int} (h : Sca x) : stepM o ((units16 x).flatMap (two o) ++ t) = (2 * ((units16 x).length : Int),some x,("" : Str)) ∧ ((units16 x).flatMap (two o)).length = 2 * (units16 x).length ∧ 1 ≤ (units16 x).length ∧ (units16 x).length ≤ 2:=by
 unfold units16
 by_cases c : x < 65536
 ·refine bc fun hN =>?_
  obtain ⟨a,b,e,hu⟩:=two_unit (o:=o) (u:=x)
  refine hN ?_; clear hN
  have c1 : isLow x = false:=by
   unfold isLow
   rcases h with h | h
   ·rw [decide_eq_false (p:=56320 ≤ x) (Int.not_le.mpr (Int.lt_trans h.2 (by decide))),Bool.false_and]
   ·rw [decide_eq_false (p:=x ≤ 57343) (Int.not_le.mpr h.1),Bool.and_false]
  have c2 : isHigh x = false:=by
   unfold isHigh
   rcases h with h | h
   ·rw [decide_eq_false (p:=55296 ≤ x) (Int.not_le.mpr h.2),Bool.false_and]
   ·rw [decide_eq_false (p:=x ≤ 56319) (Int.not_le.mpr (Int.lt_of_lt_of_le (by decide) h.1)),Bool.and_false]
  simp only [c,if_true,List.flatMap_cons,List.flatMap_nil,List.append_nil,e,List.cons_append,List.nil_append]
  refine ⟨?_,rfl,by simp,by simp⟩
  rcases t with _ | ⟨z,_ | ⟨w,t⟩⟩
  ·simp only [st2,hu,c1,c2]; simp
  ·simp only [st3,hu,c1,c2]; simp
  ·simp only [st4,hu,c1,c2]; simp
 ·refine bc fun hN =>?_
  obtain ⟨a,b,e,hu⟩:=two_unit (o:=o) (u:=55296 + (x - 65536) / 1024)
  obtain ⟨a2,b2,e2,hu2⟩:=two_unit (o:=o) (u:=56320 + (x - 65536) % 1024)
  refine hN ?_; clear hN
  have r:=h.rg
  have q0 : 0 ≤ (x - 65536) / 1024:=Int.ediv_nonneg (Int.sub_nonneg.mpr (Int.not_lt.mp c)) (by decide)
  have q1 : (x - 65536) / 1024 < 1024:=Int.ediv_lt_of_lt_mul (by decide) (by lia)
  have c1 : isLow (55296 + (x - 65536) / 1024) = false:=by unfold isLow; rw [decide_eq_false (p:=56320 ≤ 55296 + (x - 65536) / 1024) (Int.not_le.mpr (hi_ q1 (by decide))),Bool.false_and]
  have c2 : isHigh (55296 + (x - 65536) / 1024) = true:=by unfold isHigh; rw [decide_eq_true (p:=55296 ≤ 55296 + (x - 65536) / 1024) (lo_ q0 (by decide)),Bool.true_and]; exact decide_eq_true (Int.le_of_lt_add_one (b:=56319) (hi_ q1 (by decide)))
  have c3 : isLow (56320 + (x - 65536) % 1024) = true:=by unfold isLow; rw [decide_eq_true (p:=56320 ≤ 56320 + (x - 65536) % 1024) (lo_ (Int.emod_nonneg _ (by decide)) (by decide)),Bool.true_and]; exact decide_eq_true (Int.le_of_lt_add_one (b:=57343) (hi_ (Int.emod_lt_of_pos _ (by decide)) (by decide)))
  have c4 : joinM (55296 + (x - 65536) / 1024) (56320 + (x - 65536) % 1024) = x:=by unfold joinM; lia
  simp only [c,if_false,List.flatMap_cons,List.flatMap_nil,List.append_nil,e,e2,List.cons_append,List.nil_append]
  refine ⟨?_,rfl,by simp,by simp⟩
  simp only [st4,hu,hu2,c1,c2,c3,c4]; simp
theorem run16_enc {o : String} : ∀ {text : List Int},Scas text → run16 o true (enc16 o text) = (text.map some,[])
 | [],_ =>by rw [show enc16 o [] = [] from rfl,run16_nil]; rfl
 | x :: r,h =>by
  have hs:=enc16_step (o:=o) (t:=enc16 o r) h.cons.1
  have ih:=run16_enc (o:=o) h.cons.2
  rw [enc16_cons]
  have hne : (units16 x).flatMap (two o) ++ enc16 o r ≠ []:=by
   intro q; have:=congrArg List.length q; simp only [List.length_append,hs.2.1] at this; simp at this; lia
  have hd : ((units16 x).flatMap (two o) ++ enc16 o r).drop (2 * ((units16 x).length : Int)).toNat = enc16 o r:=by
   rw [show (2 * ((units16 x).length : Int)).toNat = ((units16 x).flatMap (two o)).length from by rw [hs.2.1]; lia]; exact List.drop_left
  rw [run16_step hne (by simp),hs.1]
  simp only [hd,ih,List.map_cons]
theorem pairs_len : ∀ (l : List Int),(pairsM l).length = l.length / 2
 | [] =>rfl
 | [_] =>by simp [pairsM]
 | a :: b :: r =>by rw [pairsM,List.length_cons,pairs_len r]; exact (Nat.add_div_right _ (by decide)).symm
theorem pairs_get : ∀ (l : List Int) (k : Nat) (u : Int),(pairsM l)[k]? = some u → ∃ a b,l[2 * k]? = some a ∧ l[2 * k + 1]? = some b ∧ u = a * 256 + b
 | [],k,u,h =>by simp [pairsM] at h
 | [_],k,u,h =>by simp [pairsM] at h
 | a :: b :: r,0,u,h =>by
  simp only [pairsM,List.getElem?_cons_zero,Option.some.injEq] at h
  exact ⟨a,b,rfl,rfl,h.symm⟩
 | a :: b :: r,k + 1,u,h =>by
  simp only [pairsM,List.getElem?_cons_succ] at h
  refine bc fun hN =>?_
  obtain ⟨x,y,h1,h2,h3⟩:=pairs_get r k u h
  refine hN ?_; clear hN
  refine ⟨x,y,?_,?_,h3⟩
  ·rw [show 2 * (k + 1) = 2 * k + 1 + 1 by lia]; simpa using h1
  ·rw [show 2 * (k + 1) + 1 = 2 * k + 1 + 1 + 1 by lia]; simpa using h2
theorem at_nat {α : Type} {l : List α} {k : Nat} {a : α} (h : l[k]? = some a) : itemAt l (k : Int) = some a:=by
 unfold itemAt
 have hk : k < l.length:=by
  rcases Nat.lt_or_ge k l.length with h1 | h1
  ·exact h1
  ·rw [List.getElem?_eq_none h1] at h; cases h
 rw [if_pos (by lia),if_pos (by lia)]
 simpa using h
theorem drop_get {α : Type} {l : List α} {a : Nat} {u : α} {r : List α} (h : l.drop a = u :: r) : l[a]? = some u:=by
 have:=congrArg (fun z =>z[0]?) h
 simpa using this
theorem pairs_range (l : List Int) : ∀ k,k < l.length / 2 → ∃ a b,l[2 * k]? = some a ∧ l[2 * k + 1]? = some b ∧ (pairsM l)[k]? = some (a * 256 + b):=by
 intro k hk
 have h1 : (pairsM l)[k]? = some ((pairsM l)[k]'(by rw [pairs_len]; exact hk)):=List.getElem?_eq_getElem _
 refine bc fun hN =>?_
 obtain ⟨a,b,h2,h3,h4⟩:=pairs_get l k _ h1
 refine hN ?_; clear hN
 exact ⟨a,b,h2,h3,by simp only [h1,h4]⟩
theorem map_range_get {α β : Type} {f : Nat → β} {g : α → β} {l : List α} {n : Nat} (hn : l.length = n) (h : ∀ k (hk : k < l.length),f k = g (l[k])) : (List.range n).map f = l.map g:=by
 subst hn
 apply List.ext_getElem
 ·simp
 ·intro i h1 h2
  simp only [List.getElem_map,List.getElem_range]
  exact h i (by simpa using h2)
theorem rep0 {c : Int} : binV .Mult (.list [.int c]) (.int 0) = some (.list []):=rfl
theorem rep1 {c : Int} : binV .Mult (.list [.int c]) (.int 1) = some (.list [.int c]):=rfl
theorem it_rg3 {b : Int} (h1 : small b = true) (h2 : b ≤ 1048576) : iterV "range" [.int 0,.int b,.int 2] = some (rangeL3 0 b 2):=by
 rw [it_range3,if_pos]
 rw [h1]
 simp only [Bool.and_eq_true,decide_eq_true_eq]
 exact ⟨⟨⟨⟨rfl,h2⟩,trivial⟩,by decide⟩,by decide⟩
inductive HB (ks us fs : List Int) (a : Nat) (ex : Gam) (fl : Fl) : Prop
 | mk (j : Nat) (X : Int) (h1 : 1 ≤ j) (h2 : a + j ≤ us.length) (h3 : hv (us.drop a) = X :: hv (us.drop (a + j))) (e : fl = .next (("octets",.val (.bytes ks)) :: ("units",.val (.list (us.map .int))) :: ("found",.own ((fs ++ [X]).map .int)) :: ("k",.val (.int (a + j : Nat))) :: ex)) : HB ks us fs a ex fl
theorem halves_body {k a : Nat} {ks us fs : List Int} {ex : Gam} (hu : us.length ≤ 1000) (hfs : fs.length < 1048576) (ha : a < us.length) : Out (exs 36 (wt (geOf tab k)) R59.sc R59.mu (blk R59.body [2]) (("octets",.val (.bytes ks)) :: ("units",.val (.list (us.map .int))) :: ("found",.own (fs.map .int)) :: ("k",.val (.int a)) :: ex)) (HB ks us fs a ex):=by
 have hup' : (us.map V.int).length ≤ 1048576:=by rw [List.length_map]; exact Nat.le_trans hu (by decide)
 have hf : (fs.map V.int).length < 1048576:=by rw [List.length_map]; exact hfs
 rcases hr : us.drop a with _ | ⟨u,r⟩
 ·exact absurd hr (drop_ne ha)
 have hn:=len_drop hr (Nat.le_of_lt ha)
 rw [List.length_cons] at hn
 have i0 : itemV (.list (us.map V.int)) (.int a) = some (.int u):=(itL hup').trans (at_nat (by simp only [List.getElem?_map,drop_get hr]; rfl))
 have hd1 : us.drop (a + 1) = r:=by simp only [← List.drop_drop,hr]; rfl
 have i1 : ∀ {v s},r = v :: s → itemV (.list (us.map V.int)) (.int ((a : Int) + 1)) = some (.int v):=fun {v s} e =>(itL hup').trans (at_nat (l:=us.map V.int) (k:=a + 1) (a:=.int v) (by simp only [List.getElem?_map,drop_get (hd1.trans e)]; rfl))
 by_cases hp : isHigh u = true ∧ ∃ v s,r = v :: s ∧ isLow v = true
 ·refine bc fun hN =>?_
  obtain ⟨hh,v,s,rfl,hl⟩:=hp
  refine hN ?_; clear hN
  have hd2 : us.drop (a + 2) = s:=by simp only [← List.drop_drop,hr]; rfl
  have hj : hv (us.drop a) = joinM u v :: hv (us.drop (a + 2)):=by rw [hr,hd2,hv,if_pos ⟨hh,hl⟩]
  simp only [isHigh,isLow,Bool.and_eq_true,decide_eq_true_eq] at hh hl
  have y1 : u < 56320:=Int.lt_of_le_of_lt hh.2 (by decide)
  have y2 : v < 57344:=Int.lt_of_le_of_lt hl.2 (by decide)
  have L1 : (a : Int) + 1 < ((us.map V.int).length : Int):=by rw [List.length_map]; simp only [List.length_cons] at hn; lia
  have hsu : small (u - 55296) = true:=small_of (Int.sub_nonneg.mpr hh.1) (by lia)
  refine shb_law_halves ?_
  simp_arith [i0,i1 rfl,lenL hup',hh.1,y1,L1,hl.1,y2,muI (a:=1024) rfl hsu,hf]
  exact eO ⟨2,_,by decide,by simp only [List.length_cons] at hn; lia,hj,by rw [mapS,show joinM u v = 65536 + 1024 * (u - 55296) + v - 56320 by unfold joinM; lia]; rfl⟩
 ·refine shb_law_halves (bO i0 (bO le_ (cR (fun h1 =>bE lt_ (cQ fun h2 =>bE (lenL hup') (bE lt_ (cQ fun h3 =>?_)))) ?_)))
  ·rcases r with _ | ⟨v,s⟩
   ·have h3:=of_decide_eq_true h3
    rw [List.length_map] at h3
    rw [List.length_nil] at hn
    lia
   ·exact bE (i1 rfl) (bE le_ (cQ fun h4 =>bE lt_ (cE' (decide_eq_false fun h5 =>hp ⟨by unfold isHigh; rw [h1]; exact decide_eq_true (Int.le_of_lt_add_one (b:=56319) (of_decide_eq_true h2)),v,s,rfl,by unfold isLow; rw [h4]; exact decide_eq_true (Int.le_of_lt_add_one (b:=57343) h5)⟩) rfl)))
  ·have one : hv (us.drop a) = (if isSur u = true then 65533 else u) :: hv (us.drop (a + 1)):=by
    rw [hr,hd1]
    rcases r with _ | ⟨v,s⟩
    ·rfl
    ·conv =>lhs; rw [hv,if_neg (fun q =>hp ⟨q.1,v,s,rfl,q.2⟩)]
   have fin : ∀ X,(if isSur u = true then 65533 else u) = X → HB ks us fs a ex (.next (("octets",.val (.bytes ks)) :: ("units",.val (.list (us.map .int))) :: ("found",.own (fs.map .int ++ [V.int X])) :: ("k",.val (.int ((a : Int) + 1))) :: ex)):=fun X h =>⟨1,X,Nat.le_refl _,ha,by rw [one,h],by rw [mapS]; rfl⟩
   refine bO i0 (bO le_ ?_)
   by_cases x1 : 55296 ≤ u
   ·refine cO (decide_eq_true x1) (bO lt_ ?_)
    by_cases x3 : u < 57344
    ·exact cO (decide_eq_true x3) (iO hf (eO (fin _ (if_pos (by unfold isSur; rw [decide_eq_true x1]; exact decide_eq_true (Int.le_of_lt_add_one (b:=57343) x3))))))
    ·exact cO' (decide_eq_false x3) (bO i0 (iO hf (eO (fin _ (if_neg (by unfold isSur; rw [decide_eq_false (p:=u ≤ 57343) (fun h =>x3 (Int.lt_of_le_of_lt h (by decide))),Bool.and_false]; exact Bool.false_ne_true))))))
   ·exact cO' (decide_eq_false x1) (bO i0 (iO hf (eO (fin _ (if_neg (by unfold isSur; rw [decide_eq_false x1,Bool.false_and]; exact Bool.false_ne_true))))))
theorem rg_half : ∀ n : Nat,(if (0 : Int) < (n : Int) - 1 then ((n : Int) - 1 - 0 - 1) / 2 + 1 else 0).toNat = n / 2
 | 0 =>rfl
 | 1 =>rfl
 | n + 2 =>by
  have e : ((n + 2 : Nat) : Int) - 1 - 0 - 1 = (n : Int):=by lia
  rw [if_pos (by lia),e,Nat.add_div_right _ (by decide)]; rfl
theorem halves_comp {k : Nat} {ks : List Int} (hl : ks.length ≤ 1000) (ho : Oct ks) {v : V} (h : ((whileX 36 (wt (geOf tab k)) R59.sc R59.mu (testOf (sAt (blk R59.body []) 2)) (blk R59.body [2]) 65536 [("octets",.val (.bytes ks)),("units",.val (.list ((pairsM ks).map .int))),("found",.own []),("k",.val (.int 0))]).bind fun fl =>flC fl (fun g =>exsK 37 (wt (geOf tab k)) R59.sc R59.mu g ((blk R59.body []).drop 3) retF) (fun g =>retF (.brk g)) (fun w g =>retF (.ret w g))) = some v) : (geOf tab (k + 1)).fn "_law_halves" [.bytes ks] [] = some v:=by
 have hl' : ks.length ≤ 1048576:=by lia
 have hs1 : small ((ks.length : Int) - 1) = true:=small_of2 (by lia) (by lia)
 have hb1 : (ks.length : Int) - 1 ≤ 1048576:=by lia
 have hrg : rangeL3 0 ((ks.length : Int) - 1) 2 = (List.range (ks.length / 2)).map (fun j : Nat =>V.int (2 * (j : Int))):=by
  unfold rangeL3
  have e : (if (0 : Int) < (ks.length : Int) - 1 then ((ks.length : Int) - 1 - 0 - 1) / 2 + 1 else 0).toNat = ks.length / 2:=rg_half _
  rw [e]
  apply List.map_congr_left
  intro j _
  simp only [Int.zero_add]
  rw [Int.mul_comm]
 have hmp : (List.range (ks.length / 2)).map (fun j : Nat =>V.int ((pairsM ks).getD j 0)) = (pairsM ks).map V.int:=by
  refine map_range_get (pairs_len ks) ?_
  intro j hj
  simp [hj]
 have hlen : ((List.range (ks.length / 2)).map (fun j : Nat =>V.int (2 * (j : Int)))).length ≤ 1048576:=by simp only [List.length_map,List.length_range]; lia
 refine sh_law_halves ?_
 simp only [lenB hl',bS,sbI,it_rg3 hs1 hb1,hrg,if_pos hlen]
 rw [comp_map (q:=fun j : Nat =>V.int ((pairsM ks).getD j 0)) _ ?_,hmp]
 ·exact h
 ·intro j hj
  refine bc fun hN =>?_
  obtain ⟨a,b,g1,g2,g3⟩:=pairs_range ks j (List.mem_range.mp hj)
  refine hN ?_; clear hN
  have i1 : itemAt ks (2 * (j : Int)) = some a:=by have:=at_nat g1; simpa using this
  have i2 : itemAt ks (2 * (j : Int) + 1) = some b:=by have:=at_nat g2; simpa using this
  have hsa : small a = true:=by have:=ho a (List.mem_of_getElem? g1); exact small_of (by lia) (by lia)
  have hs2 : small 256 = true:=rfl
  simp_arith! [hl',i1,i2,hsa,hs2]
  rw [List.getD_eq_getElem?_getD,g3,Option.getD_some,Int.mul_comm]
theorem law_halves_eq {k : Nat} {ks : List Int} (hl : ks.length ≤ 1000) (ho : Oct ks) : (geOf tab (k + 1)).fn "_law_halves" [.bytes ks] [] = some (.list ((hv (pairsM ks) ++ List.replicate (ks.length % 2) 65533).map .int)):=by
 have hl' : ks.length ≤ 1048576:=by lia
 refine halves_comp hl ho ?_
 have hup : (pairsM ks).length ≤ 1000:=by rw [pairs_len]; lia
 generalize pairsM ks = us at *
 have hup' : (us.map V.int).length ≤ 1048576:=by rw [List.length_map]; lia
 have hup2 : (us.map V.int).length ≤ 1000:=by rw [List.length_map]; exact hup
 refine loopE (cursor (L:=(us.map V.int).length) (d:=0) (E:=fun a (fs : List Int) ex =>("octets",.val (.bytes ks)) :: ("units",.val (.list (us.map .int))) :: ("found",.own (fs.map .int)) :: ("k",.val (.int a)) :: ex) (J:=fun a fs =>fs ++ hv (us.drop a) = hv us) hup2 ?_ ?_ ?_ (Nat.zero_le _) rfl)
 ·intro a fs ex
  refine sht_law_halves ?_
  simp_arith! [hup']
 ·intro a fs ex hlt hfs h6
  rw [List.length_map] at hlt
  refine bc fun hN =>?_
  obtain ⟨_,hx,j,X,h1,h2,h3,rfl⟩:=halves_body (k:=k) (ks:=ks) (ex:=ex) hup hfs hlt
  refine hN ?_; clear hN
  refine outE hx ⟨(j : Int),X,ex,rfl,Int.ofNat_le.mpr h1,Int.ofNat_le.mpr (by rw [List.length_map]; exact Nat.le_sub_of_add_le (by rw [Nat.add_comm]; exact h2)),?_⟩
  rw [List.append_assoc,← h6,h3]; rfl
 ·intro fs ex hfl h6
  rw [List.length_map] at h6 hfl
  rw [List.drop_length,hv,List.append_nil] at h6
  rw [fN,h6]
  have h3 : ((hv us).map V.int).length ≤ 1000:=by rw [List.length_map,← h6]; exact Nat.le_trans hfl hup
  refine sha_law_halves ?_
  rcases Nat.mod_two_eq_zero_or_one ks.length with hm | hm
  ·have hf : (ks.length : Int) % 2 = 0:=by lia
   have hx : ((hv us).map V.int).length + ([] : List V).length ≤ 1048576:=by rw [List.length_nil]; lia
   simp_arith! [hl',hf,rep0,hx,hm]
   simp only [List.replicate_zero,List.append_nil,List.append_nil]
  ·have hf : (ks.length : Int) % 2 = 1:=by lia
   have hx : ((hv us).map V.int).length + [V.int 65533].length ≤ 1048576:=by simp only [List.length_cons,List.length_nil]; lia
   simp_arith! [hl',hf,rep1,hx,hm]
   simp only [List.replicate_one,mapS]
theorem pairs_take : ∀ (l : List Int),pairsM (l.take (l.length / 2 * 2)) = pairsM l
 | [] =>rfl
 | [_] =>by simp [pairsM]
 | a :: b :: r =>by
  have : (a :: b :: r).length / 2 * 2 = r.length / 2 * 2 + 1 + 1:=by simp only [List.length_cons]; lia
  simp only [this,List.take_succ_cons,List.take_succ_cons,pairsM,pairs_take r,pairsM]
theorem pairs_app : ∀ (v t : List Int),v.length % 2 = 0 → pairsM (v ++ t) = pairsM v ++ pairsM t
 | [],t,_ =>by simp [pairsM]
 | [_],t,h =>by simp at h
 | a :: b :: r,t,h =>by
  simp only [List.cons_append,pairsM]
  rw [pairs_app r t (by simp only [List.length_cons] at h; lia)]
theorem even_snoc {w : List Int} (h : w.length % 2 = 0) (hne : w ≠ []) : ∃ v x y,w = v ++ [x,y] ∧ v.length % 2 = 0:=by
 rcases List.eq_nil_or_concat w with rfl | ⟨w1,y,e⟩
 ·exact absurd rfl hne
 ·rw [List.concat_eq_append] at e
  rcases List.eq_nil_or_concat w1 with rfl | ⟨v,x,e2⟩
  ·subst e; simp at h
  ·rw [List.concat_eq_append] at e2
   subst e2
   subst e
   refine ⟨v,x,y,by simp,?_⟩
   simp only [List.length_append,List.length_cons,List.length_nil] at h; lia
theorem it_m2 {α : Type} {v : List α} {x y : α} : itemAt (v ++ [x,y]) (-2) = some x:=by
 unfold itemAt
 rw [if_neg (by lia),if_pos (by rw [List.length_append]; simp; lia)]
 have : (-2 + ((v ++ [x,y]).length : Int)).toNat = v.length:=by rw [List.length_append]; simp; lia
 rw [this]; simp
theorem cut_m2 {α : Type} {v : List α} {x y : α} : cut (v ++ [x,y]) Option.none (some (-2)) = v:=by
 unfold cut clip
 simp only [Option.elim,List.drop_zero,Nat.sub_zero]
 rw [if_pos (by lia)]
 have : (-2 + ((v ++ [x,y]).length : Int)).toNat = v.length:=by rw [List.length_append]; simp; lia
 simp only [this,List.take_left]
theorem dh_snoc {us : List Int} {u : Int} : dropHigh (us ++ [u]) = if isHigh u = true then us else us ++ [u]:=by
 unfold dropHigh; rw [List.getLast?_append]; simp
theorem law_units_eq {k : Nat} {ks : List Int} {last : Bool} (hl : ks.length ≤ 1000) (ho : Oct ks) : (geOf tab (k + 2)).fn "_law_units" [.bytes ks,.bool last] [] = some (.list (((run16 "be" last ks).1.map got16).map .int)):=by
 have hl' : ks.length ≤ 1048576:=by lia
 refine sh_law_units ?_
 cases last with
 | true =>
  have hh:=law_halves_eq (k:=k) hl ho
  rw [halves_true _ _ (Nat.le_refl _)]
  simp_arith only [hh]
 | false =>
  rw [halves_false _ _ (Nat.le_refl _),← pairs_take]
  have hs1 : small ((ks.length : Int) / 2) = true:=small_of (by lia) (by lia)
  have hs2 : small 2 = true:=rfl
  have hna : ((ks.length : Int) / 2 * 2).natAbs < 4611686018427387904:=by lia
  have hct : cut ks Option.none (some ((ks.length : Int) / 2 * 2)) = ks.take (ks.length / 2 * 2):=by
   rw [← cut_take]; congr 2
  have hwl : (ks.take (ks.length / 2 * 2)).length ≤ 1000:=by rw [List.length_take]; lia
  have hwe : (ks.take (ks.length / 2 * 2)).length % 2 = 0:=by rw [List.length_take]; lia
  have hwo:=ho.take (ks.length / 2 * 2)
  generalize ks.take (ks.length / 2 * 2) = w at *
  have hwl' : w.length ≤ 1048576:=by lia
  have hh:=law_halves_eq (k:=k) hwl hwo
  simp only [hwe,List.replicate_zero,List.append_nil] at hh
  simp_arith [hl',hs1,hs2,hna,hct]
  by_cases hw : w = []
  ·subst hw
   refine cE' rfl ?_
   simp_arith [hh]
   rfl
  ·refine bc fun hN =>?_
   obtain ⟨v,x,y,e,hv2⟩:=even_snoc hwe hw
   refine hN ?_; clear hN
   have hwb : (w == []) = false:=beq_eq_false_iff_ne.mpr hw
   have hx:=hwo x (by rw [e]; simp)
   have hy:=hwo y (by rw [e]; simp)
   have hvl : v.length ≤ 1000:=by rw [e] at hwl; simp only [List.length_append,List.length_cons,List.length_nil] at hwl; lia
   have i2 : itemAt w (-2) = some x:=by rw [e]; exact it_m2
   have cm : cut w Option.none (some (-2)) = v:=by rw [e]; exact cut_m2
   have hp2 : partV (some (.int (-2))) = some (some (-2)):=rfl
   have hvh:=law_halves_eq (k:=k) hvl (fun z hz =>hwo z (by rw [e]; simp [hz]))
   simp only [hv2,List.replicate_zero,List.append_nil] at hvh
   have hp : pairsM w = pairsM v ++ [x * 256 + y]:=by simp only [e,pairs_app _ _ hv2]; rfl
   rw [hp] at hh ⊢
   rw [dh_snoc]
   simp_arith [hwb,hwl',i2]
   by_cases c2 : 216 ≤ x
   ·by_cases c3 : x < 220
    ·rw [if_pos (by unfold isHigh; simp only [Bool.and_eq_true,decide_eq_true_eq,decide_eq_true_eq]; lia)]
     simp_arith only [c2,c3,hp2,cm,hvh,hwl']
    ·rw [if_neg (by unfold isHigh; simp only [Bool.and_eq_true,decide_eq_true_eq,decide_eq_true_eq]; lia)]
     simp_arith only [c2,c3,hh]
   ·rw [if_neg (by unfold isHigh; simp only [Bool.and_eq_true,decide_eq_true_eq,decide_eq_true_eq]; lia)]
    simp_arith only [c2,hh]
theorem units16_u {x : Int} (h : Sca x) : ∀ u ∈ units16 x,0 ≤ u ∧ u < 65536:=by
 have r:=h.rg
 unfold units16
 intro u hu
 by_cases c : x < 65536
 ·rw [if_pos c] at hu
  obtain rfl:=List.mem_singleton.mp hu
  exact ⟨r.1,c⟩
 ·rw [if_neg c] at hu
  have c:=Int.sub_nonneg.mpr (Int.not_lt.mp c)
  rcases List.mem_cons.mp hu with rfl | hu
  ·exact ⟨lo_ (Int.ediv_nonneg c (by decide)) (by decide),hi_ (Int.ediv_lt_of_lt_mul (b:=1024) (by decide) (by lia)) (by decide)⟩
  ·obtain rfl:=List.mem_singleton.mp hu
   exact ⟨lo_ (Int.emod_nonneg _ (by decide)) (by decide),hi_ (Int.emod_lt_of_pos _ (by decide)) (by decide)⟩
theorem units_u {l : List Int} (h : Scas l) : ∀ u ∈ l.flatMap units16,0 ≤ u ∧ u < 65536:=by
 intro u hu
 obtain ⟨x,hx,hu⟩:=List.mem_flatMap.mp hu
 exact units16_u (h x hx) u hu
theorem units16_len {x : Int} : (units16 x).length ≤ 2:=by unfold units16; split <;> simp
theorem units_len : ∀ {l : List Int},(l.flatMap units16).length ≤ 2 * l.length
 | [] =>by simp
 | a :: r =>by
  have h1:=units_len (l:=r)
  have h2:=units16_len (x:=a)
  simp only [List.flatMap_cons,List.length_append,List.length_cons]; lia
theorem two_oct {o : String} {l : List Int} (h : ∀ u ∈ l,0 ≤ u ∧ u < 65536) : Oct (l.flatMap (two o)):=by
 intro y hy
 obtain ⟨x,hx,hu⟩:=List.mem_flatMap.mp hy
 have h:=h x hx
 have q:=odv 256 (by decide) h.1 h.2
 refine (?_ : Oct (two o x)) y hu
 unfold two
 split
 ·exact oc1 q (oc1 omd oc0)
 ·exact oc1 omd (oc1 q oc0)
theorem two_len {o : String} : ∀ {l : List Int},(l.flatMap (two o)).length = 2 * l.length
 | [] =>by simp
 | a :: r =>by
  have h1:=two_len (o:=o) (l:=r)
  have h2 : (two o a).length = 2:=by unfold two; split <;> rfl
  simp only [List.flatMap_cons,List.length_append,List.length_cons]; lia
theorem enc16_len {o : String} {l : List Int} : (enc16 o l).length ≤ 4 * l.length:=by
 have:=units_len (l:=l); unfold enc16; rw [two_len]; lia
theorem enc16_oct {o : String} {l : List Int} (h : Scas l) : Oct (enc16 o l):=two_oct (units_u h)
theorem check_scalars_eq {k : Nat} {text : List Int} (hl : text.length ≤ 100) (hs : Scas text) : (geOf tab (k + 3)).fn "check_scalars" [.list (text.map .int)] [] = some .none:=by
 have hl' : (text.map V.int).length ≤ 1048576:=by rw [List.length_map]; lia
 refine sh_check_scalars (Eq.trans (congrArg (Option.bind · _) (isL hl')) (loopE (for_rule (fun ns g =>∃ ex,g = (("text" : Str),AV.val (.list (text.map .int))) :: ex ∧ Scas ns) ?_ ?_ text _ ⟨[],rfl,hs⟩)))
 ·rintro x r g ⟨ex,hg,h⟩
  subst hg
  refine ⟨(("text" : Str),AV.val (.list (text.map .int))) :: setL ("code" : Str) (.val (.int x)) ex,by kernel_rfl,shb_check_scalars ?_⟩
  simp_arith! [is_scalar_eq,h.cons.1.b]
  exact ⟨_,rfl,h.cons.2⟩
 ·rintro g ⟨ex,hg,h⟩
  subst hg
  rw [fN]
  exact sha_check_scalars rfl
theorem utf16_units_eq {k : Nat} {text : List Int} (hl : text.length ≤ 100) (hs : Scas text) : (geOf tab (k + 4)).fn "utf16_units" [.list (text.map .int)] [] = some (.list ((text.flatMap units16).map .int)):=by
 have hl' : (text.map V.int).length ≤ 1048576:=by rw [List.length_map]; lia
 have hel : (text.flatMap units16).length ≤ 200:=by have:=units_len (l:=text); lia
 refine sh_utf16_units ?_
 simp only [check_scalars_eq hl hs,orS,bS,inN,isL hl',if_true]
 refine loopE (for_rule (fun ns g =>∃ fs ex,g = (("text" : Str),AV.val (.list (text.map .int))) :: (("found" : Str),AV.own (fs.map .int)) :: ex ∧ Scas ns ∧ fs ++ ns.flatMap units16 = text.flatMap units16) ?_ ?_ text _ ⟨[],[],rfl,hs,rfl⟩)
 ·intro x r g ⟨fs,ex,hg,h2,h3⟩
  subst hg
  have h0 : 0 ≤ x ∧ x ≤ 1114111:=by have:=h2.cons.1; unfold Sca at this; lia
  have hle : fs.length + (units16 x).length ≤ 200:=by
   have:=congrArg List.length h3
   rw [List.flatMap_cons] at this
   simp only [List.length_append] at this; lia
  have hf1 : (fs.map V.int).length < 1048576:=by rw [List.length_map]; lia
  refine ⟨(("text" : Str),AV.val (.list (text.map .int))) :: (("found" : Str),AV.own (fs.map .int)) :: setL ("code" : Str) (.val (.int x)) ex,by kernel_rfl,shb_utf16_units ?_⟩
  rw [List.flatMap_cons,← List.append_assoc] at h3
  by_cases c : x < 65536
  ·have e : units16 x = [x]:=by unfold units16; rw [if_pos c]
   rw [e] at h3
   simp_arith! [c,hf1]
   exact ⟨_,_,by rw [mapS],h2.cons.2,h3⟩
  ·have hb : Builtin.bitAnd (x - 65536) 1023 = (x - 65536) % 1024:=band1023 (by lia)
   have e : units16 x = [55296 + (x - 65536) / 1024,56320 + (x - 65536) % 1024]:=by unfold units16; rw [if_neg c]
   rw [e] at h3
   have hf2 : (fs.map V.int ++ [V.int (55296 + (x - 65536) / 1024)]).length < 1048576:=by rw [lenS,List.length_map]; lia
   simp_arith! [c,hf1,hf2,hb]
   exact ⟨_,_,by rw [List.map_append,List.append_assoc]; rfl,h2.cons.2,h3⟩
 ·intro g ⟨fs,ex,hg,h2,h3⟩
  subst hg
  rw [List.flatMap_nil,List.append_nil] at h3
  subst h3
  rw [fN]
  exact sha_utf16_units rfl
theorem enc16_loop {k : Nat} {o : String} {us : List Int} {xs : List V} {wm : Bool} (hl : us.length ≤ 500) (hu : ∀ u ∈ us,0 ≤ u ∧ u < 65536) : ((forX 37 (wt (geOf tab (k + 1))) R40.sc R40.mu (testOf (sAt (blk R40.body []) 1)) (blk R40.body [1]) (us.map .int) ((("text" : Str),AV.val (.list xs)) :: (("order" : Str),AV.val (.str o)) :: (("with_mark" : Str),AV.val (.bool wm)) :: (("found" : Str),AV.own ([])) :: [])).bind fun fl =>flC fl (fun g =>exsK 38 (wt (geOf tab (k + 1))) R40.sc R40.mu g ((blk R40.body []).drop 2) retF) (fun g =>retF (.brk g)) (fun w g =>retF (.ret w g))) = some (.bytes (us.flatMap (two o))):=by
 have htl : (us.flatMap (two o)).length ≤ 1000:=by rw [two_len]; lia
 refine loopE (for_rule (fun ns g =>∃ fs ex,g = (("text" : Str),AV.val (.list xs)) :: (("order" : Str),AV.val (.str o)) :: (("with_mark" : Str),AV.val (.bool wm)) :: (("found" : Str),AV.own (fs.map .int)) :: ex ∧ (∀ u ∈ ns,0 ≤ u ∧ u < 65536) ∧ fs ++ ns.flatMap (two o) = us.flatMap (two o)) ?_ ?_ us _ ⟨[],[],rfl,hu,rfl⟩)
 ·rintro x r g ⟨fs,ex,hg,h3,h4⟩
  subst hg
  rw [List.flatMap_cons,← List.append_assoc] at h4
  have hle : (fs.map V.int).length + ((two o x).map V.int).length ≤ 1048576:=by
   have:=congrArg List.length h4
   simp only [List.length_append,List.length_map] at this ⊢; lia
  have hu : (geOf tab (k + 1)).fn "utf16_octets" [.int x,.str o] [] = some (.list ((two o x).map .int)):=utf16_octets_eq (h3 x (.head _)).1
  refine ⟨("text",.val (.list xs)) :: ("order",.val (.str o)) :: ("with_mark",.val (.bool wm)) :: ("found",.own (fs.map .int)) :: setL "unit" (.val (.int x)) ex,by kernel_rfl,shb_encode_utf16 ?_⟩
  simp_arith! [hu,hle]
  exact ⟨_,_,by rw [List.map_append],fun u q =>h3 u (.tail _ q),h4⟩
 ·rintro g ⟨fs,ex,hg,h3,h4⟩
  subst hg
  simp only [List.flatMap_nil,List.append_nil] at h4
  subst h4
  rw [fN]
  refine sha_encode_utf16 ?_
  rw [byL (by lia) (two_oct hu)]; rfl
theorem encode_utf16_eq {k : Nat} {o : String} {text : List Int} (hl : text.length ≤ 100) (hs : Scas text) : (geOf tab (k + 5)).fn "encode_utf16" [.list (text.map .int),.str o] [] = some (.bytes (enc16 o text)):=by
 have hul:=units_len (l:=text)
 have h1 : ([] : List V).length + ((text.flatMap units16).map V.int).length ≤ 1048576:=by simp only [List.length_nil,List.length_map]; lia
 have h2 : ([] ++ (text.flatMap units16).map V.int).length ≤ 1048576:=by rw [List.length_append]; exact h1
 refine sh_encode_utf16_false ?_
 simp only [utf16_units_eq (k:=k) hl hs,orS,bS,adL h1,isL h2]
 exact enc16_loop (by lia) (units_u hs)
theorem encode_utf16_mark {k : Nat} {o : String} {text : List Int} (hl : text.length ≤ 100) (hs : Scas text) : (geOf tab (k + 5)).fn "encode_utf16" [.list (text.map .int),.str o] [("with_mark",.bool true)] = some (.bytes (two o 65279 ++ enc16 o text)):=by
 have hul:=units_len (l:=text)
 have h1 : [V.int 65279].length + ((text.flatMap units16).map V.int).length ≤ 1048576:=by simp only [List.length_cons,List.length_nil,List.length_map]; lia
 have h2 : ([V.int 65279] ++ (text.flatMap units16).map V.int).length ≤ 1048576:=by rw [List.length_append]; exact h1
 refine sh_encode_utf16_true ?_
 simp only [utf16_units_eq (k:=k) hl hs,orS,bS,adL h1,isL h2]
 refine enc16_loop (us:=65279 :: text.flatMap units16) (by rw [List.length_cons]; lia) fun u hu =>?_
 cases hu with
 | head =>decide
 | tail _ hu =>exact units_u hs u hu
noncomputable def four (o : String) (x : Int) : List Int:=if o = "be" then [0,x / 65536,x / 256 % 256,x % 256] else [x % 256,x / 256 % 256,x / 65536,0]
theorem four_len {o : String} {x : Int} : (four o x).length = 4:=by unfold four; split <;> rfl
theorem fours_len {o : String} : ∀ {l : List Int},(l.flatMap (four o)).length = 4 * l.length
 | [] =>by simp
 | a :: r =>by
  have h1:=fours_len (o:=o) (l:=r)
  simp only [List.flatMap_cons,List.length_append,List.length_cons,four_len]; lia
theorem four_oct {o : String} {x : Int} (h : 0 ≤ x ∧ x ≤ 1114111) : Oct (four o x):=by
 have q:=odv 65536 (by decide) h.1 (Int.lt_of_le_of_lt h.2 (by decide))
 unfold four
 split
 ·exact oc1 (by decide) (oc1 q (oc1 omd (oc1 omd oc0)))
 ·exact oc1 omd (oc1 omd (oc1 q (oc1 (by decide) oc0)))
theorem Sca.rng {x : Int} (h : Sca x) : 0 ≤ x ∧ x ≤ 1114111:=by unfold Sca at h; lia
theorem fours_oct {o : String} {l : List Int} (h : ∀ x ∈ l,0 ≤ x ∧ x ≤ 1114111) : Oct (l.flatMap (four o)):=by
 intro y hy
 refine bc fun hN =>?_
 obtain ⟨x,hx,hu⟩:=List.mem_flatMap.mp hy
 refine hN ?_; clear hN
 exact four_oct (h x hx) y hu
theorem or0 {y : Int} (h : 0 ≤ y) : Builtin.bitOr 0 y = y:=by
 obtain ⟨n,rfl⟩:=Int.eq_ofNat_of_zero_le h
 have:=bor_nat 0 n
 simpa using this
theorem rv4 {a b c d : V} : revV (.list [a,b,c,d]) = some (.list [d,c,b,a]):=by kernel_rfl
theorem enc32_loop {k : Nat} {o : String} {us : List Int} {xs : List V} {wm : Bool} (hl : us.length ≤ 200) (hu : ∀ u ∈ us,0 ≤ u ∧ u ≤ 1114111) : ((forX 36 (wt (geOf tab k)) R45.sc R45.mu (testOf (sAt (blk R45.body []) 2)) (blk R45.body [2]) (us.map .int) ((("text" : Str),AV.val (.list xs)) :: (("order" : Str),AV.val (.str o)) :: (("with_mark" : Str),AV.val (.bool wm)) :: (("found" : Str),AV.own ([])) :: [])).bind fun fl =>flC fl (fun g =>exsK 37 (wt (geOf tab k)) R45.sc R45.mu g ((blk R45.body []).drop 3) retF) (fun g =>retF (.brk g)) (fun w g =>retF (.ret w g))) = some (.bytes (us.flatMap (four o))):=by
 have htl : (us.flatMap (four o)).length ≤ 1000:=by rw [fours_len]; lia
 refine loopE (for_rule (fun ns g =>∃ fs ex,g = (("text" : Str),AV.val (.list xs)) :: (("order" : Str),AV.val (.str o)) :: (("with_mark" : Str),AV.val (.bool wm)) :: (("found" : Str),AV.own (fs.map .int)) :: ex ∧ (∀ u ∈ ns,0 ≤ u ∧ u ≤ 1114111) ∧ fs ++ ns.flatMap (four o) = us.flatMap (four o)) ?_ ?_ us _ ⟨[],[],rfl,hu,rfl⟩)
 ·rintro x r g ⟨fs,ex,hg,h3,h4⟩
  subst hg
  rw [List.flatMap_cons,← List.append_assoc] at h4
  have h0:=h3 x (.head _)
  have hle : (fs.map V.int).length + ((four o x).map V.int).length ≤ 1048576:=by
   have:=congrArg List.length h4
   simp only [List.length_append,List.length_map] at this ⊢; lia
  have b1 : Builtin.bitAnd (x / 256) 255 = x / 256 % 256:=band255 (by lia)
  have b2 : Builtin.bitAnd x 255 = x % 256:=band255 h0.1
  refine ⟨("text",.val (.list xs)) :: ("order",.val (.str o)) :: ("with_mark",.val (.bool wm)) :: ("found",.own (fs.map .int)) :: setL "code" (.val (.int x)) ex,by kernel_rfl,shb_encode_utf32 ?_⟩
  by_cases hbe : o = "be"
  ·have e : (four o x).map V.int = [.int 0,.int (x / 65536),.int (x / 256 % 256),.int (x % 256)]:=by unfold four; rw [if_pos hbe]; rfl
   rw [e] at hle
   have hb : (o == "be") = true:=beq_iff_eq.mpr hbe
   simp_arith! [b1,b2,hb,hle]
   exact ⟨_,_,by rw [List.map_append,e],fun u q =>h3 u (.tail _ q),h4⟩
  ·have e : (four o x).map V.int = [.int (x % 256),.int (x / 256 % 256),.int (x / 65536),.int 0]:=by unfold four; rw [if_neg hbe]; rfl
   rw [e] at hle
   simp_arith! [b1,b2,sneF hbe,hle,rv4]
   exact ⟨_,_,by rw [List.map_append,e],fun u q =>h3 u (.tail _ q),h4⟩
 ·rintro g ⟨fs,ex,hg,h3,h4⟩
  subst hg
  simp only [List.flatMap_nil,List.append_nil] at h4
  subst h4
  rw [fN]
  refine sha_encode_utf32 ?_
  rw [byL (by lia) (fours_oct hu)]; rfl
theorem encode_utf32_eq {k : Nat} {o : String} {text : List Int} (hl : text.length ≤ 100) (hs : Scas text) : (geOf tab (k + 4)).fn "encode_utf32" [.list (text.map .int),.str o] [] = some (.bytes (text.flatMap (four o))):=by
 have h0 : (text.map V.int).length ≤ 1048576:=by rw [List.length_map]; lia
 have h1 : ([] : List V).length + (text.map V.int).length ≤ 1048576:=by simp only [List.length_nil,List.length_map]; lia
 have h2 : ([] ++ text.map V.int).length ≤ 1048576:=by rw [List.length_append]; exact h1
 refine sh_encode_utf32_false ?_
 simp only [check_scalars_eq (k:=k) hl hs,orS,bS,inN,if_true,lisL h0,adL h1,isL h2]
 exact enc32_loop (by lia) fun u hu =>(hs u hu).rng
theorem encode_utf32_mark {k : Nat} {o : String} {text : List Int} (hl : text.length ≤ 100) (hs : Scas text) : (geOf tab (k + 4)).fn "encode_utf32" [.list (text.map .int),.str o] [("with_mark",.bool true)] = some (.bytes (four o 65279 ++ text.flatMap (four o))):=by
 have h0 : (text.map V.int).length ≤ 1048576:=by rw [List.length_map]; lia
 have h1 : [V.int 65279].length + (text.map V.int).length ≤ 1048576:=by simp only [List.length_cons,List.length_nil,List.length_map]; lia
 have h2 : ([V.int 65279] ++ text.map V.int).length ≤ 1048576:=by rw [List.length_append]; exact h1
 refine sh_encode_utf32_true ?_
 simp only [check_scalars_eq (k:=k) hl hs,orS,bS,inN,if_true,lisL h0,adL h1,isL h2]
 refine enc32_loop (us:=65279 :: text) (by rw [List.length_cons]; lia) fun u hu =>?_
 cases hu with
 | head =>decide
 | tail _ hu =>exact (hs u hu).rng
theorem utf32_start_eq {k : Nat} {ks : List Int} {o : String} : (geOf tab (k + 1)).fn "utf32_start" [.bytes ks,.str o] [] = some (.tup [.str o,.int 0]):=by
 refine sh_utf32_start ?_
 simp_arith only [cT]
theorem ownCB {ρ : Type} {ks : List Int} {K : List Int → Option ρ} (h : ks.length ≤ 1048576) : ownC (.bytes ks) K = K ks:=by
 show (if ks.length ≤ 1048576 then K ks else .none) = _
 rw [if_pos h]
section
variable {a b c d : V}
theorem it40 : itemV (.list [a,b,c,d]) (.int 0) = some a:=by kernel_rfl
theorem it41 : itemV (.list [a,b,c,d]) (.int 1) = some b:=by kernel_rfl
theorem it42 : itemV (.list [a,b,c,d]) (.int 2) = some c:=by kernel_rfl
theorem it43 : itemV (.list [a,b,c,d]) (.int 3) = some d:=by kernel_rfl
theorem len4 : ((lenV (.list [a,b,c,d])).map fun (n : Nat) =>V.int n) = some (.int 4):=by kernel_rfl
theorem rvs4 : [a,b,c,d].reverse = [d,c,b,a]:=rfl
end
theorem utf32_step_eq {k : Nat} {ks : List Int} {a : Nat} {o : String} {x : Int} (hl : ks.length ≤ 1000) (ha : a ≤ ks.length) (hx : (ks.drop a).take 4 = four o x) (h : Sca x) :
  (geOf tab (k + 3)).fn "utf32_step" [.bytes ks,.int a,.str o] [] = some (.tup [.int x,.int ((a : Int) + 4),.str ""]):=by
 have hl' : ks.length ≤ 1048576:=by lia
 have N0:=ptN (a:=a) (by lia)
 have N4:=ptN (a:=a + 4) (by lia)
 rw [Int.natCast_add] at N4
 have N4 : partV (some (.int ((a : Int) + 4))) = some (some ((a : Int) + 4)):=N4
 have hct : cut ks (some (a : Int)) (some ((a : Int) + 4)) = four o x:=by
  have e : (a : Int) + 4 = ((a + 4 : Nat) : Int):=by lia
  simp only [e,cut_both,Nat.add_sub_cancel_left,hx]
 have hf : (four o x).length ≤ 1048576:=by rw [four_len]; decide
 have hr:=h.rng
 have c1 : Builtin.bitOr 0 (x / 65536 * 65536) = x / 65536 * 65536:=or0 (by lia)
 have c2 : Builtin.bitOr (x / 65536 * 65536) (x / 256 % 256 * 256) = x / 65536 * 65536 + x / 256 % 256 * 256:=bor_add (a:=x / 65536) 16 (by rw [show (2 : Int) ^ 16 = 65536 from rfl]) (by lia) (by lia) (by lia)
 have c3 : Builtin.bitOr (x / 65536 * 65536 + x / 256 % 256 * 256) (x % 256) = x:=by
  rw [bor_add (a:=x / 65536 * 256 + x / 256 % 256) 8 (by rw [show (2 : Int) ^ 8 = 256 from rfl]; lia) (by lia) (by lia) (by lia)]; lia
 have s0 : small 0 = true:=rfl
 have s1 : small (x / 65536) = true:=small_of (by lia) (by lia)
 have s2 : small (x / 256 % 256) = true:=small_of (by lia) (by lia)
 have hsc:=is_scalar_eq (k:=k) (x:=x)
 rw [h.b] at hsc
 refine sh_utf32_step ?_
 by_cases hbe : o = "be"
 ·have h4 : four o x = [0,x / 65536,x / 256 % 256,x % 256]:=by unfold four; rw [if_pos hbe]
  have hb : (o == "be") = true:=beq_iff_eq.mpr hbe
  rw [h4] at hct hf
  simp_arith! [hl',N0,N4,hct,ownCB hf,List.map_cons,List.map_nil,len4,it40,it41,it42,it43,hb,s0,s1,s2,c1,c2,c3,hsc]
 ·have h4 : four o x = [x % 256,x / 256 % 256,x / 65536,0]:=by unfold four; rw [if_neg hbe]
  rw [h4] at hct hf
  have hf4 : [V.int (x % 256),V.int (x / 256 % 256),V.int (x / 65536),V.int 0].length ≤ 1048576:=hf
  simp_arith! [hl',N0,N4,hct,ownCB hf,List.map_cons,List.map_nil,len4,rvs4,hf4,it40,it41,it42,it43,sneF hbe,s0,s1,s2,c1,c2,c3,hsc]
theorem decode_utf32_eq {k : Nat} {text : List Int} {o : String} (hl : text.length ≤ 100) (hs : Scas text) : (geOf tab (k + 4)).fn "decode_utf32" [.bytes (text.flatMap (four o)),.str o] [] = some (.list (text.map .int)):=by
 have hel : (text.flatMap (four o)).length ≤ 1000:=by rw [fours_len]; lia
 generalize hks : text.flatMap (four o) = ks at *
 have hl' : ks.length ≤ 1048576:=by lia
 refine sh_decode_utf32 ?_
 simp only [utf32_start_eq,orS,bS,u2]
 refine loopE (cursor (L:=ks.length) (d:=0) (E:=fun a (fs : List Int) ex =>("octets",.val (.bytes ks)) :: ("order",.val (.str o)) :: ("at",.val (.int a)) :: ("found",.own (fs.map .int)) :: ex) (J:=fun a fs =>∃ rem,ks.drop a = rem.flatMap (four o) ∧ fs ++ rem = text ∧ Scas rem) hel ?_ ?_ ?_ (Nat.zero_le _) ?_)
 ·intro a fs ex
  refine sht_decode_utf32 ?_
  simp_arith only [hl']
 ·rintro a fs ex hlt hfs ⟨rem,h6,h7,h8⟩
  rw [← List.length_map (f:=V.int)] at hfs
  cases rem with
  | nil =>rw [List.flatMap_nil] at h6; exact absurd h6 (drop_ne hlt)
  | cons x r =>
   have h9:=h8.cons
   have h4l:=four_len (o:=o) (x:=x)
   have hp:=utf32_step_eq (k:=k) (o:=o) (x:=x) hel (Nat.le_of_lt hlt) (by simp only [h6,List.flatMap_cons,← h4l,List.take_left]) h9.1
   have e1 : (("code" : Str) == ("what" : Str)) = false:=by kernel_rfl
   have e2 : (("code" : Str) == ("behind" : Str)) = false:=by kernel_rfl
   have e3 : (("behind" : Str) == ("what" : Str)) = false:=by kernel_rfl
   refine shb_decode_utf32 ?_
   simp_arith only [hp,e1,e2,e3,hfs]
   have hdl:=congrArg List.length h6
   rw [List.flatMap_cons,List.length_append,List.length_drop,four_len] at hdl
   refine ⟨4,x,_,by rw [mapS]; rfl,by decide,Int.ofNat_le.mpr (by rw [hdl]; exact Nat.le_add_right _ _),r,?_,by rw [List.append_assoc]; exact h7,h9.2⟩
   show ks.drop (a + 4) = _
   simp only [← List.drop_drop,h6,List.flatMap_cons,← h4l,List.drop_left]
 ·rintro fs ex _ ⟨rem,h6,h7,_⟩
  rw [List.drop_length] at h6
  rw [fN]
  cases rem with
  | nil =>rw [List.append_nil] at h7; rw [h7]; exact sha_decode_utf32 rfl
  | cons x r =>
   have:=congrArg List.length h6
   rw [List.flatMap_cons,List.length_append,List.length_nil,four_len] at this
   exact absurd (Nat.eq_zero_of_add_eq_zero_right this.symm) (by decide)
 ·exact ⟨text,hks.symm,rfl,hs⟩
theorem bytes4 {a b c d : Int} (ha : 0 ≤ a ∧ a < 256) (hb : 0 ≤ b ∧ b < 256) (hc : 0 ≤ c ∧ c < 256) (hd : 0 ≤ d ∧ d < 256) : bltV "bytes" [.list [.int a,.int b,.int c,.int d]] = some (.bytes [a,b,c,d]):=by
 rw [bl_bytes]
 show (if [a,b,c,d].length ≤ lid ∧ ∀ n ∈ [a,b,c,d],0 ≤ n ∧ n < 256 then some (V.bytes [a,b,c,d]) else Option.none) = _
 exact if_pos ⟨(by decide : 4 ≤ lid),oc1 ha (oc1 hb (oc1 hc (oc1 hd oc0)))⟩
noncomputable def quad (u : Int) : List Int:=[u / 16777216,u / 65536 % 256,u / 256 % 256,u % 256]
noncomputable def wd (d : Nat) (o : String) (u : Int) : List Int:=if o = "be" then (quad u).drop d else ((quad u).drop d).reverse
theorem wd_len {d : Nat} {o : String} {u : Int} : (wd d o u).length ≤ 4:=by
 have : (quad u).length = 4:=rfl
 unfold wd
 split
 ·rw [List.length_drop]; lia
 ·rw [List.length_reverse,List.length_drop]; lia
theorem wds_len {d : Nat} {o : String} : ∀ {l : List Int},(l.flatMap (wd d o)).length ≤ 4 * l.length
 | [] =>Nat.le_refl _
 | a :: r =>by
  have h1:=wds_len (d:=d) (o:=o) (l:=r)
  have h2:=wd_len (d:=d) (o:=o) (u:=a)
  simp only [List.flatMap_cons,List.length_append,List.length_cons]; lia
theorem revB {ks : List Int} (h : ks.length ≤ 1048576) : revV (.bytes ks) = some (.bytes ks.reverse):=by
 show (if ks.length ≤ lid then some (V.bytes ks.reverse) else .none) = _
 exact if_pos h
section
variable {k d : Nat} {xs : List V} {s : Int} {o : String} {fs : List Int} {ex : Gam} {P : Fl → Prop}
theorem wide_step {u : Int} (hd : s = 4 - (d : Int)) (hd4 : d ≤ 4) (hu : 0 ≤ u ∧ u ≤ 1114111) (hl : fs.length ≤ 1000) (hx : List.lookup ("unit" : Str) ex = some (.val (.int u))) (h : ∀ ex',P (.next (("text",.val (.list xs)) :: ("size",.val (.int s)) :: ("order",.val (.str o)) :: ("found",.val (.bytes (fs ++ wd d o u))) :: ex'))) : Out (exs 33 (wt (geOf tab k)) R61.sc R61.mu (blk R61.body [1,2]) (("text",.val (.list xs)) :: ("size",.val (.int s)) :: ("order",.val (.str o)) :: ("found",.val (.bytes (fs))) :: ex)) P:=by
 have hb : bltV "bytes" [.list [.int (u / 16777216),.int (u / 65536 % 256),.int (u / 256 % 256),.int (u % 256)]] = some (.bytes (quad u)):=bytes4 (by lia) (by lia) (by lia) (by lia)
 have e : 4 - s = (d : Int):=by lia
 have hq : (quad u).length ≤ 1048576:=Nat.le_of_ble_eq_true rfl
 have hq2 : ((quad u).drop d).length ≤ 4:=by rw [List.length_drop]; exact Nat.sub_le _ _
 have hq3 : ((quad u).drop d).length ≤ 1048576:=by lia
 have hf : fs.length + ((quad u).drop d).length ≤ 1048576:=by lia
 have hf2 : fs.length + ((quad u).drop d).reverse.length ≤ 1048576:=by rw [List.length_reverse]; lia
 refine shb_law_wide_in ?_
 by_cases hbe : o = "be"
 ·have hbb : (o == "be") = true:=beq_iff_eq.mpr hbe
  unfold wd at h
  rw [if_pos hbe] at h
  simp_arith! [hx,hb,e,ptN (a:=d) (by lia),hq,cut_drop,hbb,hf]
  exact h _
 ·unfold wd at h
  rw [if_neg hbe] at h
  simp_arith! [hx,hb,e,ptN (a:=d) (by lia),hq,cut_drop,sneF hbe,revB hq3,hf2]
  exact h _
theorem wide_in {us : List Int} (hd : s = 4 - (d : Int)) (hd4 : d ≤ 4) (hu : ∀ u ∈ us,0 ≤ u ∧ u ≤ 1114111) (hl : fs.length + 4 * us.length ≤ 1000) (h : ∀ ex',P (.next ((("text" : Str),AV.val (.list xs)) :: (("size" : Str),AV.val (.int s)) :: (("order" : Str),AV.val (.str o)) :: (("found" : Str),AV.val (.bytes (fs ++ us.flatMap (wd d o)))) :: ex'))) : Out ((forX 33 (wt (geOf tab k)) R61.sc R61.mu (testOf (sAt (blk R61.body [1]) 2)) (blk R61.body [1,2]) (us.map .int) ((("text" : Str),AV.val (.list xs)) :: (("size" : Str),AV.val (.int s)) :: (("order" : Str),AV.val (.str o)) :: (("found" : Str),AV.val (.bytes (fs))) :: ex)).bind fun fl =>flC fl (fun g =>exsK 34 (wt (geOf tab k)) R61.sc R61.mu g ((blk R61.body [1]).drop 3) some) (fun g =>some (.brk g)) (fun w g =>some (.ret w g))) P:=by
 refine loopP (for_rule (fun ns g =>∃ gs ex,g = (("text" : Str),AV.val (.list xs)) :: (("size" : Str),AV.val (.int s)) :: (("order" : Str),AV.val (.str o)) :: (("found" : Str),AV.val (.bytes (gs))) :: ex ∧ (∀ u ∈ ns,0 ≤ u ∧ u ≤ 1114111) ∧ gs.length + 4 * ns.length ≤ 1000 ∧ gs ++ ns.flatMap (wd d o) = fs ++ us.flatMap (wd d o)) ?_ ?_ us _ ⟨fs,ex,rfl,hu,hl,rfl⟩)
 ·rintro x r g ⟨gs,ex,hg,h1,h2,h3⟩
  subst hg
  rw [List.length_cons] at h2
  refine ⟨("text",.val (.list xs)) :: ("size",.val (.int s)) :: ("order",.val (.str o)) :: ("found",.val (.bytes (gs))) :: setL "unit" (.val (.int x)) ex,by kernel_rfl,wide_step hd hd4 (h1 x (.head _)) (by lia) lkS fun ex' =>?_⟩
  rw [List.flatMap_cons,← List.append_assoc] at h3
  exact ⟨_,ex',rfl,fun u hu =>h1 u (.tail _ hu),by have:=wd_len (d:=d) (o:=o) (u:=x); rw [List.length_append]; lia,h3⟩
 ·rintro g ⟨gs,ex,hg,h1,h2,h3⟩
  subst hg
  rw [List.flatMap_nil,List.append_nil] at h3
  subst h3
  rw [fN]
  exact outE (sha_law_wide_in rfl) (h ex)
end
noncomputable def unitsW (s x : Int) : List Int:=if s = 2 then units16 x else [x]
theorem uw_rng {s x : Int} (h : Sca x) : ∀ u ∈ unitsW s x,0 ≤ u ∧ u ≤ 1114111:=by
 intro u hu
 unfold unitsW at hu
 split at hu
 ·have:=units16_u h u hu; lia
 ·simp only [List.mem_cons,List.not_mem_nil,or_false] at hu; subst hu; exact h.rng
theorem uw_len {s x : Int} : (unitsW s x).length ≤ 2:=by
 unfold unitsW
 split
 ·exact units16_len
 ·exact Nat.le_succ 1
noncomputable def wideM (s : Int) (d : Nat) (o : String) (l : List Int) : List Int:=l.flatMap fun x =>(unitsW s x).flatMap (wd d o)
theorem wideM_len {s : Int} {d : Nat} {o : String} : ∀ {l : List Int},(wideM s d o l).length ≤ 8 * l.length
 | [] =>Nat.le_refl _
 | a :: r =>by
  have h1:=wideM_len (s:=s) (d:=d) (o:=o) (l:=r)
  have h2:=wds_len (d:=d) (o:=o) (l:=unitsW s a)
  have h3:=uw_len (s:=s) (x:=a)
  unfold wideM at h1 ⊢
  simp only [List.flatMap_cons,List.length_append,List.length_cons]; lia
theorem wideM_cons {s : Int} {d : Nat} {o : String} {x : Int} {l : List Int} : wideM s d o (x :: l) = (unitsW s x).flatMap (wd d o) ++ wideM s d o l:=by
 unfold wideM; rw [List.flatMap_cons]
theorem law_wide_walk {k d : Nat} {s : Int} {o : String} {text : List Int} (hd : s = 4 - (d : Int)) (hd4 : d ≤ 4) (hs2 : s = 2 ∨ s = 4) (hl : text.length ≤ 100) (hs : Scas text) : (geOf tab (k + 1)).fn "_law_wide" [.list (text.map .int),.int s,.str o] [] = some (.bytes (wideM s d o text)):=by
 have hl' : (text.map V.int).length ≤ 1048576:=by rw [List.length_map]; lia
 have htl:=wideM_len (s:=s) (d:=d) (o:=o) (l:=text)
 refine sh_law_wide (Eq.trans (congrArg (Option.bind · _) (isL hl')) (loopE (for_rule (fun ns g =>∃ fs ex,g = (("text" : Str),AV.val (.list (text.map .int))) :: (("size" : Str),AV.val (.int s)) :: (("order" : Str),AV.val (.str o)) :: (("found" : Str),AV.val (.bytes (fs))) :: ex ∧ Scas ns ∧ fs ++ wideM s d o ns = wideM s d o text) ?_ ?_ text _ ⟨[],[],rfl,hs,rfl⟩)))
 ·rintro x r g ⟨fs,ex,hg,h1,h2⟩
  subst hg
  have hx:=h1.cons.1
  have h3:=uw_len (s:=s) (x:=x)
  simp only [wideM_cons,← List.append_assoc] at h2
  have h4 : fs.length + 4 * (unitsW s x).length ≤ 1000:=by
   have:=congrArg List.length h2
   simp only [List.length_append,List.length_append] at this; lia
  refine ⟨(("text" : Str),AV.val (.list (text.map .int))) :: (("size" : Str),AV.val (.int s)) :: (("order" : Str),AV.val (.str o)) :: (("found" : Str),AV.val (.bytes (fs))) :: setL ("code" : Str) (.val (.int x)) ex,by kernel_rfl,shb_law_wide ?_⟩
  have e1 : (("code" : Str) == ("units" : Str)) = false:=by kernel_rfl
  have fin : ∀ ex',StepO (fun g =>∃ fs ex,g = (("text" : Str),AV.val (.list (text.map .int))) :: (("size" : Str),AV.val (.int s)) :: (("order" : Str),AV.val (.str o)) :: (("found" : Str),AV.val (.bytes (fs))) :: ex ∧ Scas r ∧ fs ++ wideM s d o r = wideM s d o text) (fun fl =>flC fl (fun g =>exsK 38 (wt (geOf tab k)) R61.sc R61.mu g ((blk R61.body []).drop 2) retF) (fun g =>retF (.brk g)) (fun w g =>retF (.ret w g)) = some (.bytes (wideM s d o text))) (.next ((("text" : Str),AV.val (.list (text.map .int))) :: (("size" : Str),AV.val (.int s)) :: (("order" : Str),AV.val (.str o)) :: (("found" : Str),AV.val (.bytes (fs ++ (unitsW s x).flatMap (wd d o)))) :: ex')):=fun ex' =>⟨_,ex',rfl,h1.cons.2,h2⟩
  have i1 : ∀ v : V,itemsV (.list [v]) = some [v]:=fun _ =>rfl
  have i2 : ∀ v w : V,itemsV (.list [v,w]) = some [v,w]:=fun _ _ =>rfl
  rcases hs2 with rfl | rfl
  ·by_cases c : x < 65536
   ·have c' : ¬ 65535 < x:=by lia
    have e : unitsW 2 x = [x]:=by unfold unitsW units16; rw [if_pos rfl,if_pos c]
    rw [e] at h4 fin
    simp_arith [e1,c',i1]
    exact wide_in (us:=[x]) hd hd4 (by rw [← e]; exact uw_rng hx) h4 fin
   ·have c' : 65535 < x:=by lia
    have e0 : (x - 65536) % 1024 = x % 1024:=by lia
    have e : unitsW 2 x = [55296 + (x - 65536) / 1024,56320 + x % 1024]:=by unfold unitsW units16; rw [if_pos rfl,if_neg c,e0]
    rw [e] at h4 fin
    simp_arith [e1,c',i2]
    exact wide_in (us:=[55296 + (x - 65536) / 1024,56320 + x % 1024]) hd hd4 (by rw [← e]; exact uw_rng hx) h4 fin
  ·have e : unitsW 4 x = [x]:=by unfold unitsW; rw [if_neg (by decide)]
   rw [e] at h4 fin
   simp_arith [e1,i1]
   exact wide_in (us:=[x]) hd hd4 (by rw [← e]; exact uw_rng hx) h4 fin
 ·rintro g ⟨fs,ex,hg,h1,h2⟩
  subst hg
  have : wideM s d o [] = []:=rfl
  simp only [this,List.append_nil] at h2
  subst h2
  rw [fN]
  exact sha_law_wide rfl
theorem flatMap_congr' {α β : Type} {f g : α → List β} : ∀ {l : List α},(∀ x ∈ l,f x = g x) → l.flatMap f = l.flatMap g
 | [],_ =>rfl
 | a :: r,h =>by simp only [List.flatMap_cons,List.flatMap_cons,h a (.head _),flatMap_congr' fun x hx =>h x (.tail _ hx)]
theorem wd_two {o : String} {u : Int} (h : 0 ≤ u ∧ u < 65536) : wd 2 o u = two o u:=by
 have e : u / 256 % 256 = u / 256:=by lia
 unfold wd two quad
 rw [e]; split <;> rfl
theorem wd_four {o : String} {u : Int} (h : 0 ≤ u ∧ u ≤ 1114111) : wd 0 o u = four o u:=by
 have e : u / 16777216 = 0:=by lia
 have e2 : u / 65536 % 256 = u / 65536:=by lia
 unfold wd four quad
 rw [e,e2]; split <;> rfl
theorem law_wide2 {k : Nat} {text : List Int} {o : String} (hl : text.length ≤ 100) (hs : Scas text) : (geOf tab (k + 1)).fn "_law_wide" [.list (text.map .int),.int 2,.str o] [] = some (.bytes (enc16 o text)):=by
 rw [law_wide_walk (d:=2) (by decide) (by decide) (.inl rfl) hl hs]
 have : wideM 2 2 o text = enc16 o text:=by
  unfold wideM enc16
  rw [List.flatMap_assoc]
  refine flatMap_congr' fun x hx =>?_
  unfold unitsW
  rw [if_pos rfl]
  exact flatMap_congr' fun u hu =>wd_two (units16_u (hs x hx) u hu)
 rw [this]
theorem law_wide4 {k : Nat} {text : List Int} {o : String} (hl : text.length ≤ 100) (hs : Scas text) : (geOf tab (k + 1)).fn "_law_wide" [.list (text.map .int),.int 4,.str o] [] = some (.bytes (text.flatMap (four o))):=by
 rw [law_wide_walk (d:=0) (by decide) (by decide) (.inr rfl) hl hs]
 have : wideM 4 0 o text = text.flatMap (four o):=by
  unfold wideM
  refine flatMap_congr' fun x hx =>?_
  unfold unitsW
  rw [if_neg (by decide),List.flatMap_cons,List.flatMap_nil,List.append_nil]
  exact wd_four (hs x hx).rng
 rw [this]
noncomputable def marksM : List (List Int × String):=[([0,0,254,255],"utf-32be"),([255,254,0,0],"utf-32le"),([239,187,191],"utf-8"),([254,255],"utf-16be"),([255,254],"utf-16le"),([14,254,255],"scsu"),([251,238,40],"bocu-1"),([132,49,149,51],"gb18030"),([221,115,102,115],"utf-ebcdic"),([43,47,118,56],"utf-7"),([43,47,118,57],"utf-7"),([43,47,118,43],"utf-7"),([43,47,118,47],"utf-7")]
noncomputable def markV (m : List Int × String) : V:=.tup [.bytes m.1,.str m.2]
noncomputable def fstM (ks : List Int) : List (List Int × String) → Option (List Int × String)
 | [] =>.none
 | m :: r =>cond (ks.take m.1.length == m.1) (some m) (fstM ks r)
noncomputable def sniffV : Option (List Int × String) → V
 | some m =>.str m.2
 | .none =>.none
noncomputable def unmV (ks : List Int) : Option (List Int × String) → V
 | some m =>cond (m.2 == "utf-7") (.tup [.str m.2,.bytes ks]) (.tup [.str m.2,.bytes (ks.drop m.1.length)])
 | .none =>.tup [.none,.bytes ks]
section
variable {k : Nat} {ks : List Int}
theorem encoding_marks_eq : (geOf tab (k + 1)).fn "encoding_marks" [] [] = some (.list (marksM.map markV)):=sh_encoding_marks (by kernel_rfl)
theorem marks_short : ∀ m ∈ marksM,m.1.length ≤ 1000:=by decide
theorem sniffed_eq (hl : ks.length ≤ 2000) : (geOf tab (k + 2)).fn "sniffed" [.bytes ks] [] = some (sniffV (fstM ks marksM)):=by
 have hl' : ks.length ≤ 1048576:=by lia
 have hi : itemsV (.list (marksM.map markV)) = some (marksM.map markV):=by kernel_rfl
 refine sh_sniffed ?_
 simp only [encoding_marks_eq,orS,bS,hi]
 refine loopE (for_rule (fun ns g =>∃ ex,g = (("octets" : Str),AV.val (.bytes ks)) :: ex ∧ (∀ m ∈ ns,m.1.length ≤ 1000) ∧ fstM ks ns = fstM ks marksM) ?_ ?_ marksM _ ⟨[],rfl,marks_short,rfl⟩)
 ·intro m r g ⟨ex,hg,hm,h1⟩
  subst hg
  have hml:=hm m (.head _)
  have hml' : m.1.length ≤ 1048576:=by lia
  have e1 : (("mark" : Str) == ("word" : Str)) = false:=by kernel_rfl
  refine ⟨(("octets" : Str),AV.val (.bytes ks)) :: setL ("word" : Str) (.val (.str m.2)) (setL ("mark" : Str) (.val (.bytes m.1)) ex),by kernel_rfl,shb_sniffed ?_⟩
  simp only [← h1,fstM]
  cases hc : ks.take m.1.length == m.1 with
  | true =>simp_arith! [thaw_set,e1,hml',ptN (a:=m.1.length) (Nat.le_trans hml (by decide)),hl',cut_take,hc]; rfl
  | false =>
   simp_arith! [thaw_set,e1,hml',ptN (a:=m.1.length) (Nat.le_trans hml (by decide)),hl',cut_take,hc]
   exact ⟨_,rfl,fun x hx =>hm x (.tail _ hx),trivial⟩
 ·intro g ⟨ex,hg,hm,h1⟩
  subst hg
  simp only [fN,← h1]
  exact sha_sniffed rfl
theorem unmarked_eq (hl : ks.length ≤ 2000) : (geOf tab (k + 2)).fn "unmarked" [.bytes ks] [] = some (unmV ks (fstM ks marksM)):=by
 have hl' : ks.length ≤ 1048576:=by lia
 have hi : itemsV (.list (marksM.map markV)) = some (marksM.map markV):=by kernel_rfl
 refine sh_unmarked ?_
 simp only [encoding_marks_eq,orS,bS,hi]
 refine loopE (for_rule (fun ns g =>∃ ex,g = (("octets" : Str),AV.val (.bytes ks)) :: ex ∧ (∀ m ∈ ns,m.1.length ≤ 1000) ∧ fstM ks ns = fstM ks marksM) ?_ ?_ marksM _ ⟨[],rfl,marks_short,rfl⟩)
 ·intro m r g ⟨ex,hg,hm,h1⟩
  subst hg
  have hml:=hm m (.head _)
  have hml' : m.1.length ≤ 1048576:=by lia
  have e1 : (("mark" : Str) == ("word" : Str)) = false:=by kernel_rfl
  refine ⟨(("octets" : Str),AV.val (.bytes ks)) :: setL ("word" : Str) (.val (.str m.2)) (setL ("mark" : Str) (.val (.bytes m.1)) ex),by kernel_rfl,shb_unmarked ?_⟩
  simp only [← h1,fstM]
  simp_arith [thaw_set,e1,hml',ptN (a:=m.1.length) (Nat.le_trans hml (by decide)),hl',cut_take]
  cases hc : ks.take m.1.length == m.1 with
  | true =>
   refine cO rfl ?_
   simp_arith [thaw_set,e1,hml',ptN (a:=m.1.length) (Nat.le_trans hml (by decide)),hl',cut_take]
   cases h7 : m.2 == "utf-7" with
   | true =>simp_arith! [thaw_set,e1,hml',ptN (a:=m.1.length) (Nat.le_trans hml (by decide)),hl',cut_take,h7]; unfold unmV; simp_arith! [h7]; rfl
   | false =>simp_arith! [thaw_set,e1,hml',ptN (a:=m.1.length) (Nat.le_trans hml (by decide)),hl',cut_take,cut_drop,h7]; unfold unmV; simp_arith! [h7]; rfl
  | false =>
   refine cO' rfl (eO ?_)
   exact ⟨_,rfl,fun x hx =>hm x (.tail _ hx),rfl⟩
 ·intro g ⟨ex,hg,hm,h1⟩
  subst hg
  simp only [fN,← h1]
  exact sha_unmarked rfl
end
section
variable {k : Nat} {r : List Int}
theorem sniffed_16be (hl : r.length ≤ 1000) : (geOf tab (k + 2)).fn "sniffed" [.bytes (254 :: 255 :: r)] [] = some (.str "utf-16be"):=by
 rw [sniffed_eq (by simp only [List.length_cons]; lia)]; rfl
theorem sniffed_16le (hl : r.length ≤ 1000) (hr : ¬ r.take 2 = [0,0]) : (geOf tab (k + 2)).fn "sniffed" [.bytes (255 :: 254 :: r)] [] = some (.str "utf-16le"):=by
 rw [sniffed_eq (by simp only [List.length_cons]; lia)]
 have e : fstM (255 :: 254 :: r) marksM = cond ((255 :: 254 :: r).take 4 == [255,254,0,0]) (some ([255,254,0,0],"utf-32le")) (some ([255,254],"utf-16le")):=rfl
 have e2 : ((255 :: 254 :: r).take 4 == [255,254,0,0]) = false:=beq_eq_false_iff_ne.mpr fun h =>hr (by
  have h : (255 :: 254 :: r.take 2) = [255,254,0,0]:=h
  injection h with _ h; injection h)
 rw [e,e2]; rfl
theorem sniffed_32le (hl : r.length ≤ 1000) : (geOf tab (k + 2)).fn "sniffed" [.bytes (255 :: 254 :: 0 :: 0 :: r)] [] = some (.str "utf-32le"):=by
 rw [sniffed_eq (by simp only [List.length_cons]; lia)]; rfl
theorem sniffed_32be (hl : r.length ≤ 1000) : (geOf tab (k + 2)).fn "sniffed" [.bytes (0 :: 0 :: 254 :: 255 :: r)] [] = some (.str "utf-32be"):=by
 rw [sniffed_eq (by simp only [List.length_cons]; lia)]; rfl
theorem sniffed_8 (hl : r.length ≤ 1000) : (geOf tab (k + 2)).fn "sniffed" [.bytes (239 :: 187 :: 191 :: r)] [] = some (.str "utf-8"):=by
 rw [sniffed_eq (by simp only [List.length_cons]; lia)]; rfl
theorem unmarked_8 (hl : r.length ≤ 1000) : (geOf tab (k + 2)).fn "unmarked" [.bytes (239 :: 187 :: 191 :: r)] [] = some (.tup [.str "utf-8",.bytes r]):=by
 rw [unmarked_eq (by simp only [List.length_cons]; lia)]; rfl
end
theorem insI_len {a : Int} : ∀ {l : List Int},(insI a l).length = l.length + 1
 | [] =>rfl
 | b :: r =>by
  rw [insI]
  split
  ·rfl
  ·simp only [List.length_cons,insI_len,List.length_cons]
theorem sortI_len : ∀ {l : List Int},(sortI l).length = l.length
 | [] =>rfl
 | a :: r =>by simp only [sortI,insI_len,sortI_len,List.length_cons]
theorem insI_mem {a x : Int} : ∀ {l : List Int},x ∈ insI a l → x = a ∨ x ∈ l
 | [],h =>by rw [insI] at h; simpa using h
 | b :: r,h =>by
  rw [insI] at h
  split at h
  ·simpa using h
  ·rcases List.mem_cons.mp h with rfl | h
   ·exact .inr (.head _)
   ·rcases insI_mem h with rfl | h
    ·exact .inl rfl
    ·exact .inr (.tail _ h)
theorem sortI_mem {x : Int} : ∀ {l : List Int},x ∈ sortI l → x ∈ l
 | [],h =>by cases h
 | a :: r,h =>by
  rw [sortI] at h
  rcases insI_mem h with rfl | h
  ·exact .head _
  ·exact .tail _ (sortI_mem h)
noncomputable def lotsI (ks : List Int) : Int → List Int → List (List Int)
 | a,[] =>[cut ks (some a) (some (ks.length : Int))]
 | a,b :: r =>cut ks (some a) (some b) :: lotsI ks b r
theorem lots_len {ks : List Int} : ∀ {ss : List Int} {a : Int},(lotsI ks a ss).length = ss.length + 1
 | [],_ =>rfl
 | b :: r,_ =>by simp only [lotsI,List.length_cons,lots_len,List.length_cons]
theorem lots_flat {ks : List Int} : ∀ {ss : List Int} {a : Int},0 ≤ a → (∀ x ∈ ss,a ≤ x ∧ x ≤ ks.length) → ss.Pairwise (· ≤ ·) → (lotsI ks a ss).flatten = ks.drop a.toNat
 | [],a,h,_,_ =>by
  obtain ⟨n,rfl⟩:=Int.eq_ofNat_of_zero_le h
  simp only [lotsI,cut_both]
  simp only [List.flatten_cons,List.flatten_nil,List.append_nil,Int.ofNat_eq_natCast,Int.toNat_natCast]
  exact List.take_of_length_le (by rw [List.length_drop]; lia)
 | b :: r,a,h,hb,hp =>by
  have h1:=hb b (.head _)
  have h':=List.pairwise_cons.mp hp
  simp only [lotsI,List.flatten_cons,lots_flat (by lia) (fun x hx =>⟨h'.1 x hx,(hb x (.tail _ hx)).2⟩) h'.2]
  obtain ⟨n,rfl⟩:=Int.eq_ofNat_of_zero_le h
  obtain ⟨m,rfl⟩:=Int.eq_ofNat_of_zero_le (Int.le_trans h h1.1)
  rw [cut_both]
  simp only [Int.ofNat_eq_natCast,Int.toNat_natCast]
  have e : ks.drop m = (ks.drop n).drop (m - n):=by rw [List.drop_drop]; congr 1; lia
  simp only [e,List.take_append_drop]
theorem lots_range {ks : List Int} : ∀ {ss : List Int} {a : Int},(List.range (ss.length + 1)).map (fun j =>V.bytes (cut ks (some ((a :: (ss ++ [(ks.length : Int)])).getD j 0)) (some ((a :: (ss ++ [(ks.length : Int)])).getD (j + 1) 0)))) = (lotsI ks a ss).map .bytes
 | [],a =>rfl
 | b :: r,a =>by
  rw [List.length_cons,List.range_succ_eq_map,List.map_cons,List.map_map,lotsI,List.map_cons]
  congr 1
  exact lots_range (ks:=ks) (ss:=r) (a:=b)
theorem law_pieces_eq {k : Nat} {ks es : List Int} (hl : ks.length ≤ 1000) (he : es.length ≤ 50) : ∃ lots : List (List Int),(geOf tab (k + 1)).fn "_law_pieces" [.bytes ks,.list (es.map .int)] [] = some (.list (lots.map .bytes)) ∧ lots.flatten = ks ∧ lots.length = es.length + 1:=by
 have hl' : ks.length ≤ 1048576:=by lia
 have hz : ¬ (ks.length : Int) + 1 = 0:=by lia
 have hz1 : 0 < (ks.length : Int) + 1:=by lia
 let ms:=es.map fun e =>e % ((ks.length : Int) + 1)
 have hml : ms.length = es.length:=List.length_map ..
 have hsl:=sortI_len (l:=ms)
 have hm60 : ms.length ≤ 60:=by lia
 have hsb : ∀ x ∈ sortI ms,0 ≤ x ∧ x ≤ ks.length:=by
  intro x hx
  obtain ⟨e,_,rfl⟩:=List.mem_map.mp (sortI_mem hx)
  have:=Int.emod_nonneg e hz
  have:=Int.emod_lt_of_pos e hz1
  lia
 refine ⟨lotsI ks 0 (sortI ms),sh_law_pieces ?_,?_,?_⟩
 ·have h1 : (es.map V.int).length ≤ 1048576:=by rw [List.length_map]; lia
  have hc : compV (fun x =>(bltV "len" [.bytes ks]).bind fun v =>(binV .Add v (.int 1)).bind fun v =>(binV .Mod x v).bind fun v =>some (some v)) (es.map .int) = some (ms.map .int):=by
   rw [comp_map (q:=fun e =>V.int (e % ((ks.length : Int) + 1))) es,List.map_map]
   ·rfl
   ·intro e _
    rw [lenB hl',bS,adI,bS,mdI hz1]; rfl
  have hst : bltV "sorted" [.list (ms.map .int)] = some (.list ((sortI ms).map .int)):=by
   show (intsV (ms.map .int)).bind (fun ns =>if ns.length ≤ 60 then some (V.list ((sortI ns).map .int)) else .none) = _
   simp only [intsV_map,bS,if_pos hm60]
  simp only [isL h1,bS,if_pos h1,hc,hst]
  generalize sortI ms = ss at *
  have hsl' : ss.length ≤ 100:=by lia
  have hps : ([V.int 0] ++ ss.map V.int) ++ [V.int (ks.length : Int)] = (0 :: (ss ++ [(ks.length : Int)])).map V.int:=by simp
  have g1 : [V.int 0].length + (ss.map V.int).length ≤ 1048576:=by simp only [List.length_map,List.length_cons,List.length_nil]; lia
  have g2 : ([V.int 0] ++ ss.map V.int).length + [V.int (ks.length : Int)].length ≤ 1048576:=by simp only [List.length_append,List.length_map]; simp only [List.length_cons,List.length_nil]; lia
  have hpl : (0 :: (ss ++ [(ks.length : Int)])).length = ss.length + 2:=by simp
  have hrg : iterV "range" [.int (((0 :: (ss ++ [(ks.length : Int)])).map V.int).length - 1)] = some ((List.range (ss.length + 1)).map (fun j : Nat =>V.int (j : Int))):=by
   simp only [List.length_map,hpl]
   have hk1 : ((ss.length + 2 : Nat) : Int) - 1 ≤ 1048576:=by lia
   have hk2 : small (((ss.length + 2 : Nat) : Int) - 1) = true:=small_of (by lia) (by lia)
   simp only [it_range1,hk2,decide_eq_true hk1]
   have : rangeL 0 (((ss.length + 2 : Nat) : Int) - 1) = (List.range (ss.length + 1)).map (fun j : Nat =>V.int (j : Int)):=by
    unfold rangeL
    rw [show ((((ss.length + 2 : Nat) : Int) - 1 - 0).toNat) = ss.length + 1 by lia]
    apply List.map_congr_left
    intro j _
    rw [Int.zero_add]
   rw [this]; rfl
  have hpb : ∀ x ∈ (0 :: (ss ++ [(ks.length : Int)])),0 ≤ x ∧ x ≤ ks.length:=by
   intro x hx
   rcases List.mem_cons.mp hx with rfl | hx
   ·lia
   ·rcases List.mem_append.mp hx with hx | hx
    ·exact hsb x hx
    ·rw [List.mem_singleton.mp hx]; lia
  rw [← lots_range]
  simp only [adL g1,bS,lenB hl',adL g2,hps]
  generalize (0 :: (ss ++ [(ks.length : Int)])) = ps at *
  have hpl' : (ps.map V.int).length ≤ 1048576:=by rw [List.length_map]; lia
  have hl3 : ((List.range (ss.length + 1)).map (fun j : Nat =>V.int (j : Int))).length ≤ 1048576:=by simp only [List.length_map,List.length_range]; lia
  have hpg : ∀ j : Nat,j < ps.length → itemAt (ps.map V.int) (j : Int) = some (V.int (ps.getD j 0)) ∧ (ps.getD j 0).natAbs < 4611686018427387904:=by
   intro j hj
   have e : ps[j]? = some (ps.getD j 0):=by simp only [List.getD_eq_getElem?_getD,List.getElem?_eq_getElem hj]; rfl
   refine ⟨at_nat (by simp only [List.getElem?_map,e]; rfl),?_⟩
   have:=hpb _ (List.mem_of_getElem? e)
   lia
  simp only [lenL hpl',bS,sbI,hrg,if_pos hl3]
  rw [comp_map (q:=fun j =>V.bytes (cut ks (some (ps.getD j 0)) (some (ps.getD (j + 1) 0)))) (List.range (ss.length + 1)) ?_]
  ·rfl
  ·intro j hj
   have hj':=List.mem_range.mp hj
   have g1:=hpg j (by lia)
   have g2:=hpg (j + 1) (by lia)
   rw [show ((j + 1 : Nat) : Int) = (j : Int) + 1 by lia] at g2
   simp_arith only [g1.1,g1.2,g2.1,g2.2,hl',hpl']
 ·rw [lots_flat (Int.le_refl 0) hsb (sortI_sorted _)]; rfl
 ·simp only [lots_len,hsl,hml]
theorem eqVs_refl : ∀ {l : List Int},eqVs (l.map .int) (l.map .int) = some true
 | [] =>rfl
 | a :: r =>by
  simp only [List.map_cons,eqvs_cons,eqVs_refl]
  have : eqI (.int a) (.int a) = some (a == a):=rfl
  simp only [this,beq_self_eq_true]; rfl
theorem fl8_feed {w : List Int} {n : Int} : (fl8 w n).lookup ("feed" : Str) = Option.none:=rfl
theorem fl16_feed {o : V} {st : Bool} {w : List Int} {n : Int} : (fl16 o st w n).lookup ("feed" : Str) = Option.none:=rfl
theorem eqR {l : List Int} : cmpV .Eq (.list (l.map .int)) (.list (l.map .int)) = some true:=by
 show (if (l.map V.int).length = (l.map V.int).length then eqVs (l.map .int) (l.map .int) else some false) = _
 rw [if_pos rfl,eqVs_refl]
theorem neR {l : List Int} : cmpV .NotEq (.list (l.map .int)) (.list (l.map .int)) = some false:=by
 show (cmpV .Eq (.list (l.map .int)) (.list (l.map .int))).map (!·) = _
 rw [eqR]; rfl
theorem run16_sub (o : String) : ∀ (n : Nat) (l : List Int),l.length ≤ n → Oct l → Oct (run16 o false l).2
 | _,[],_,_ =>by rw [run16_nil]; intro x hx; cases hx
 | 0,_ :: _,h,_ =>by simp at h
 | n + 1,x :: r,h,ho =>by
  have hne : x :: r ≠ []:=by simp
  generalize x :: r = l at *
  by_cases hk : lackM o l = true
  ·rw [run16_lack hne ⟨rfl,hk⟩]; exact ho
  ·have hb:=stepM_bd (o:=o) hne
   rw [run16_step hne (fun q =>hk q.2)]
   exact run16_sub o n _ (dnD hb.1 h) (ho.drop _)
theorem run_sub : ∀ (n : Nat) (l : List Int),l.length ≤ n → Oct l → Oct (run false l).2
 | _,[],_,_ =>by rw [run_nil]; intro x hx; cases hx
 | 0,_ :: _,h,_ =>by simp at h
 | n + 1,x :: r,h,ho =>by
  have hne : x :: r ≠ []:=by simp
  generalize x :: r = l at *
  by_cases hk : (pieceM l).2.2 = sShort
  ·rw [run_short hne ⟨hk,rfl⟩]; exact ho
  ·have hb:=pieceM_bd hne
   rw [run_step hne (fun q =>hk q.1)]
   exact run_sub n _ (dnD hb.1 h) (ho.drop _)
theorem streams_end {k : Nat} {ks c es : List Int} {ls : List V} {f1 f2 : List (Str × V)} {ex : Gam} (hl : ks.length ≤ 100) (ho : Oct ks) : exsK 37 (wt (geOf tab (k + 3))) R63.sc R63.mu (("octets",.val (.bytes ks)) :: ("ends",.val (.list (es.map .int))) :: ("near",.inst "Utf8Stream" f1) :: ("far",.inst "Utf16Stream" f2) :: ("told",.val (.list ((run true ks).1.map .int))) :: ("units",.val (.list (((run16 "be" true ks).1.map got16).map .int))) :: ("came",.val (.bytes c)) :: ("lots",.val (.list ls)) :: ex) ((blk R63.body []).drop 3) retF = some (.bool true):=by
 have z8:=run_len true _ ks (Nat.le_refl _)
 have z16:=run16_len "be" true _ ks (Nat.le_refl _)
 have b8 : ((run true ks).1.map V.int).length ≤ 1048576:=by rw [List.length_map]; lia
 have b16 : (((run16 "be" true ks).1.map got16).map V.int).length ≤ 1048576:=by simp only [List.length_map,List.length_map]; lia
 refine sha_streams ?_
 simp only [decode_utf8_replaced_eq (k:=k) (ks:=ks) (by lia) ho,decode_utf16_replaced_eq (k:=k) (o:="be") (ks:=ks) (by lia) ho,orS,bS,lisL b8,lisL b16,neR,cF,eqR]
inductive SI (ks es : List Int) (lots : List (List Int)) (j : Nat) (rest : List (List Int)) (g : Gam) : Prop
 | more (done : List (List Int)) (n m : Int) (ex : Gam) (hr : rest ≠ []) (hg : g = (("octets" : Str),AV.val (.bytes ks)) :: (("ends" : Str),AV.val (.list (es.map .int))) :: (("near" : Str),AV.inst ("Utf8Stream" : Str) (fl8 (run false done.flatten).2 n)) :: (("far" : Str),AV.inst ("Utf16Stream" : Str) (fl16 (.str "be") false (run16 "be" false done.flatten).2 m)) :: (("told" : Str),AV.val (.list ((run false done.flatten).1.map .int))) :: (("units" : Str),AV.val (.list (((run16 "be" false done.flatten).1.map got16).map .int))) :: (("came" : Str),AV.val (.bytes done.flatten)) :: (("lots" : Str),AV.val (.list (lots.map .bytes))) :: ex) (h1 : done ++ rest = lots) (h2 : j = done.length) : SI ks es lots j rest g
 | fin (f1 f2 : List (Str × V)) (c : List Int) (ex : Gam) (hr : rest = []) (hg : g = (("octets" : Str),AV.val (.bytes ks)) :: (("ends" : Str),AV.val (.list (es.map .int))) :: (("near" : Str),AV.inst ("Utf8Stream" : Str) f1) :: (("far" : Str),AV.inst ("Utf16Stream" : Str) f2) :: (("told" : Str),AV.val (.list ((run true ks).1.map .int))) :: (("units" : Str),AV.val (.list (((run16 "be" true ks).1.map got16).map .int))) :: (("came" : Str),AV.val (.bytes c)) :: (("lots" : Str),AV.val (.list (lots.map .bytes))) :: ex) : SI ks es lots j rest g
theorem streams_eq {k : Nat} {ks es : List Int} (hl : ks.length ≤ 100) (ho : Oct ks) (he : es.length ≤ 50) : (geOf tab (k + 4)).fn "_law_streams_right" [.bytes ks,.list (es.map .int)] [] = some (.bool true):=by
 refine bc fun hN =>?_
 obtain ⟨lots,hlots,hflat,hlen⟩:=law_pieces_eq (k:=k + 2) (ks:=ks) (es:=es) (by lia) he
 refine hN ?_; clear hN
 have hll : (lots.map V.bytes).length ≤ 1048576:=by rw [List.length_map]; lia
 refine sh_law_streams_right ?_
 simp only [init8_eq,init16_be,clsC,hlots,orS,bS,loO,if_pos hll]
 refine loopE (enum_rule (SI ks es lots) ?_ ?_ lots 0 _ (.more [] 0 0 [] ?_ ?_ rfl rfl))
 ·rintro j x r g (⟨done,n,m,ex,_,hg,h1,h2⟩ | ⟨_,_,_,_,hr,_⟩)
  rotate_left
  ·exact nomatch hr
  subst hg h2
  have hfl : done.flatten ++ (x ++ r.flatten) = ks:=by simp only [← hflat,← h1]; simp
  have e : (done ++ [x]).flatten = done.flatten ++ x:=by simp
  generalize hda : done.flatten = a at *
  have hax : Oct (a ++ x):=fun z hz =>ho z (by simp only [← hfl,← List.append_assoc]; exact List.mem_append_left _ hz)
  have haxl : a.length + x.length ≤ ks.length:=by rw [← hfl]; simp only [List.length_append]; lia
  have hao : Oct a:=fun z hz =>hax z (List.mem_append_left _ hz)
  have hxo : Oct x:=fun z hz =>hax z (List.mem_append_right _ hz)
  have hw8l:=run_len false _ a (Nat.le_refl _)
  have hw16l:=run16_len "be" false _ a (Nat.le_refl _)
  have hw8o:=run_sub _ a (Nat.le_refl _) hao
  have hw16o:=run16_sub "be" _ a (Nat.le_refl _) hao
  have hlB : (((done.length : Nat) : Int) == ((lots.map V.bytes).length : Int) - 1) = r.isEmpty:=by
   simp only [← h1,List.length_map]
   cases r with
   | nil =>simp
   | cons y r =>simp; lia
  have hlastT : r.isEmpty = true → a ++ x = ks:=by
   intro q; rw [List.isEmpty_iff.mp q] at hfl; simpa using hfl
  have hr0 : r = [] ↔ r.isEmpty = true:=List.isEmpty_iff.symm
  generalize r.isEmpty = last at *
  refine bc fun hN =>?_
  obtain ⟨q8,f8,n',rfl⟩:=feed8_aux (k:=k) (p:=x) (n:=n) (last:=last) (w:=(run false a).2) (by lia) (hw8o.append hxo)
  obtain ⟨q16,f16,m',rfl⟩:=feed16_on (k:=k) (p:=x) (n:=m) (last:=last) (st:=false) (o:="be") (w:=(run16 "be" false a).2) (by lia) (hw16o.append hxo) (fun h =>by cases h)
  refine hN ?_; clear hN
  have r8:=run_app last x _ a (Nat.le_refl _)
  have r16:=run16_app "be" last x _ a (Nat.le_refl _)
  have t8 : (run false a).1.map V.int ++ ((run last ((run false a).2 ++ x)).1).map V.int = ((run last (a ++ x)).1).map V.int:=by simp only [r8,List.map_append]
  have t16 : ((run16 "be" false a).1.map got16).map V.int ++ (((run16 "be" last ((run16 "be" false a).2 ++ x)).1).map got16).map V.int = (((run16 "be" last (a ++ x)).1).map got16).map V.int:=by simp only [r16,List.map_append,List.map_append]
  have c8:=law_codes_eq (k:=k) (ks:=a ++ x) (last:=last) (by rw [List.length_append]; lia) hax
  have c16:=law_units_eq (k:=k + 1) (ks:=a ++ x) (last:=last) (by rw [List.length_append]; lia) hax
  have b8 : ((run false a).1.map V.int).length + (((run last ((run false a).2 ++ x)).1).map V.int).length ≤ 1048576:=by
   rw [← List.length_append,t8,List.length_map]
   have:=run_len last _ (a ++ x) (Nat.le_refl _)
   rw [List.length_append] at this; lia
  have b16 : (((run16 "be" false a).1.map got16).map V.int).length + ((((run16 "be" last ((run16 "be" false a).2 ++ x)).1).map got16).map V.int).length ≤ 1048576:=by
   rw [← List.length_append,t16,List.length_map,List.length_map]
   have:=run16_len "be" last _ (a ++ x) (Nat.le_refl _)
   rw [List.length_append] at this; lia
  have bc : a.length + x.length ≤ 1048576:=by lia
  have i1 : (("piece" : Str) == ("is_last" : Str)) = false:=by kernel_rfl
  have i2 : (("k" : Str) == ("piece" : Str)) = false:=by kernel_rfl
  have ft : ((Option.none : Option V).isNone = true) = True:=by simp
  refine ⟨_,by kernel_rfl,shb_streams (ks:=ks) (c:=a) (xs:=es.map .int) (ts:=(run false a).1.map .int) (us:=((run16 "be" false a).1.map got16).map .int) (ls:=lots.map .bytes) (f1:=fl8 (run false a).2 n) (f2:=fl16 (.str "be") false (run16 "be" false a).2 m) (ex:=setL ("piece" : Str) (AV.val (.bytes x)) (setL ("k" : Str) (AV.val (.int done.length)) ex)) ?_⟩
  simp_arith only [hll,bc,hlB,i1,i2,fl8_feed,fl16_feed,ft,f8,f16,t8,t16,b8,b16,c8,c16,neR]
  cases last with
  | true =>exact .fin _ _ _ _ (hr0.mpr rfl) (by rw [← hlastT rfl,r8,r16])
  | false =>exact .more (done ++ [x]) n' m' _ (fun h =>nomatch hr0.mp h) (by rw [e,r8,r16]; rfl) (by rw [List.append_assoc]; exact h1) (by rw [lenS])
 ·rintro j g (⟨done,n,m,ex,hr,hg,h1,h2⟩ | ⟨f1,f2,c,ex,_,hg⟩)
  ·exact absurd rfl hr
  subst hg
  rw [fN]
  exact streams_end hl ho
 ·intro h; rw [h] at hlen; simp at hlen
 ·rw [List.flatten_nil,run_nil,run16_nil]; rfl
inductive StS (o : String) (a : List Int) (fl : List (Str × V)) (home : List Int) : Prop
 | early (n : Int) (h : a.length < 2) (e : fl = fl16 .none true a n) (hh : home = []) : StS o a fl home
 | late (n : Int) (w : List Int) (h : 2 ≤ a.length) (e : fl = fl16 (.str o) true w n) (hr : run16 o false (a.drop 2) = (home.map some,w)) : StS o a fl home
inductive StR (k : Nat) (o : String) (a x home text : List Int) (fl : List (Str × V)) (last : Bool) : Prop
 | mk (zs : List Int) (fl' : List (Str × V)) (e : (geOf tab (k + 3)).mth "Utf16Stream" "feed" fl [.bytes x,.bool last] = some (.list (zs.map .int),fl')) (h1 : last = false → StS o (a ++ x) fl' (home ++ zs)) (h2 : last = true → home ++ zs = text) (h3 : home.length + zs.length ≤ 1000) : StR k o a x home text fl last
theorem StS.feed {o : String} {a : List Int} {fl : List (Str × V)} {home : List Int} (h : StS o a fl home) : fl.lookup ("feed" : Str) = Option.none:=by
 rcases h with ⟨n,_,rfl,_⟩ | ⟨n,w,_,rfl,_⟩ <;> rfl
theorem two_mark {o : String} (ho : o = "be" ∨ o = "le") : ∃ p q : Int,two o 65279 = [p,q] ∧ ∀ (k : Nat) (r : List Int),r.length ≤ 1000 → (geOf tab (k + 1)).fn "utf16_start" [.bytes (p :: q :: r),.none] [] = some (.tup [.str o,.int 2]):=by
 rcases ho with rfl | rfl
 ·exact ⟨254,255,rfl,fun k r h =>utf16_start_be h⟩
 ·exact ⟨255,254,rfl,fun k r h =>utf16_start_le h⟩
theorem some_pre {l1 l2 : List (Option Int)} : ∀ {text : List Int},text.map some = l1 ++ l2 → ∃ cs : List Int,l1 = cs.map some:=by
 induction l1 with
 | nil =>intro _ _; exact ⟨[],rfl⟩
 | cons c r ih =>
  intro text h
  cases text with
  | nil =>simp at h
  | cons x t =>
   simp only [List.map_cons,List.cons_append,List.cons.injEq] at h
   obtain ⟨cs,e⟩:=ih h.2
   exact ⟨x :: cs,by simp only [← h.1,e]; rfl⟩
theorem got_some : ∀ {l : List Int},(l.map some).map got16 = l
 | [] =>rfl
 | a :: r =>by simp only [List.map_cons,List.map_cons,got_some]; rfl
theorem st_step {k : Nat} {o : String} {a x s home text : List Int} {fl : List (Str × V)} {last : Bool} (ho : o = "be" ∨ o = "le") (hs : Scas text) (hW : a ++ (x ++ s) = two o 65279 ++ enc16 o text) (hWl : (two o 65279 ++ enc16 o text).length ≤ 1000) (hWo : Oct (two o 65279 ++ enc16 o text)) (hst : StS o a fl home) (hlast : last = true → s = []) :
  StR k o a x home text fl last:=by
 refine bc fun hN =>?_
 obtain ⟨p,q,hpq,hstart⟩:=two_mark ho
 refine hN ?_; clear hN
 have hax : Oct (a ++ x):=fun z hz =>hWo z (by rw [← hW,← List.append_assoc]; exact List.mem_append_left _ hz)
 have hll : a.length + x.length + s.length ≤ 1000:=by rw [← hW] at hWl; simp only [List.length_append] at hWl; lia
 have hao : Oct a:=fun z hz =>hax z (List.mem_append_left _ hz)
 have hxo : Oct x:=fun z hz =>hax z (List.mem_append_right _ hz)
 have hW2 : (a ++ x) ++ s = [p,q] ++ enc16 o text:=by simp only [List.append_assoc,hW,hpq]
 have h2W : 2 ≤ (a ++ x).length + s.length:=by have:=congrArg List.length hW2; simp only [List.length_append,List.length_cons] at this ⊢; lia
 -- what stands behind the mark
 have hd : 2 ≤ (a ++ x).length → (a ++ x) = p :: q :: (a ++ x).drop 2 ∧ enc16 o text = (a ++ x).drop 2 ++ s:=by
  intro h2
  rcases hc : a ++ x with _ | ⟨u,_ | ⟨v,r⟩⟩
  ·rw [hc] at h2; simp at h2
  ·rw [hc] at h2; simp at h2
  ·rw [hc] at hW2
   simp only [List.cons_append,List.nil_append,List.cons.injEq] at hW2
   refine bc fun hN =>?_
   obtain ⟨rfl,rfl,e⟩:=hW2
   refine hN ?_; clear hN
   exact ⟨rfl,e.symm⟩
 have hsome : 2 ≤ (a ++ x).length → ∃ cs : List Int,(run16 o last ((a ++ x).drop 2)).1 = cs.map some ∧ (last = true → cs = text):=by
  intro h2
  have hr:=run16_enc (o:=o) hs
  rw [(hd h2).2] at hr
  cases last with
  | true =>
   rw [hlast rfl,List.append_nil] at hr
   exact ⟨text,by rw [hr],fun _ =>rfl⟩
  | false =>
   rw [run16_app o true s _ _ (Nat.le_refl _)] at hr
   refine bc fun hN =>?_
   obtain ⟨cs,e⟩:=some_pre (congrArg Prod.fst hr).symm
   refine hN ?_; clear hN
   exact ⟨cs,e,fun h =>by cases h⟩
 have hlen2:=run16_len o last _ ((a ++ x).drop 2) (Nat.le_refl _)
 rw [List.length_drop,List.length_append] at hlen2
 have hax2 : a.length + x.length ≤ 1000:=Nat.le_trans (Nat.le_add_right _ _) hll
 have hcl : ∀ cs : List Int,(run16 o last ((a ++ x).drop 2)).1 = cs.map some → cs.length ≤ 1000:=fun cs e =>by
  rw [e,List.length_map] at hlen2
  exact Nat.le_trans (Nat.le_add_right _ _) (Nat.le_trans hlen2 (Nat.le_trans (Nat.sub_le _ _) hax2))
 rcases hst with ⟨n,h1,rfl,rfl⟩ | ⟨n,w,h1,rfl,hw⟩
 ·by_cases h2 : 2 ≤ (a ++ x).length
  ·refine bc fun hN =>?_
   obtain ⟨cs,hcs,hct⟩:=hsome h2
   have hf:=feed16_first (k:=k) (o:=o) (last:=last) (st:=true) (n:=n) (w:=a) (p:=x) hax2 hax h2 (fun j =>by
    rw [(hd h2).1]
    exact hstart j _ (by rw [List.length_drop,List.length_append]; exact Nat.le_trans (Nat.sub_le _ _) hax2)) (fun _ c hc =>by rw [hcs] at hc; obtain ⟨y,_,rfl⟩:=List.mem_map.mp hc; simp)
   obtain ⟨z,hz,n',rfl⟩:=hf
   refine hN ?_; clear hN
   simp only [hcs,got_some] at hz
   refine ⟨cs,_,hz,?_,fun h =>by rw [List.nil_append]; exact hct h,?_⟩
   ·intro hl
    subst hl
    exact .late n' _ h2 rfl (by simp only [List.nil_append,← hcs])
   ·rw [List.length_nil,Nat.zero_add]; exact hcl cs hcs
  ·have hlf : last = false:=by
    cases last with
    | false =>rfl
    | true =>rw [hlast rfl] at h2W; simp only [List.length_nil] at h2W; lia
   subst hlf
   refine bc fun hN =>?_
   obtain ⟨z,hz,n',rfl⟩:=feed16_wait (k:=k + 2) (w:=a) (p:=x) (n:=n) (by rw [List.length_append] at h2; lia)
   refine hN ?_; clear hN
   refine ⟨[],_,hz,fun _ =>.early n' (Nat.not_le.mp h2) rfl rfl,fun h =>(by cases h),by simp⟩
 ·have h2 : 2 ≤ (a ++ x).length:=by rw [List.length_append]; lia
  refine bc fun hN =>?_
  obtain ⟨cs,hcs,hct⟩:=hsome h2
  refine hN ?_; clear hN
  have hc1:=hcl cs hcs
  have hda : (a ++ x).drop 2 = a.drop 2 ++ x:=List.drop_append_of_le_length h1
  have hra:=run16_app o last x _ (a.drop 2) (Nat.le_refl _)
  rw [hw] at hra
  rw [hda,hra] at hcs
  simp only at hcs
  have hwl:=run16_len o false _ (a.drop 2) (Nat.le_refl _)
  simp only [hw,List.length_drop] at hwl
  simp only [List.length_map] at hwl
  have hwo : Oct w:=by have:=run16_sub o _ (a.drop 2) (Nat.le_refl _) (hao.drop 2); rw [hw] at this; exact this
  obtain ⟨zs,hzs⟩ : ∃ zs : List Int,(run16 o last (w ++ x)).1 = zs.map some:=by
   have e : home.map some ++ (run16 o last (w ++ x)).1 = cs.map some:=hcs
   have:=congrArg (List.drop home.length) e
   rw [List.drop_left' (by simp)] at this
   exact ⟨cs.drop home.length,by simp only [this,List.map_drop]⟩
  have hcz : home ++ zs = cs:=by
   rw [hzs,← List.map_append] at hcs
   exact List.map_inj_right (fun _ _ h =>Option.some.inj h) |>.mp hcs
  refine bc fun hN =>?_
  obtain ⟨z,hz,n',rfl⟩:=feed16_on (k:=k) (o:=o) (last:=last) (st:=true) (n:=n) (w:=w) (p:=x) (Nat.le_trans (Nat.add_le_add_right (Nat.le_trans (Nat.le_add_left _ _) (Nat.le_trans hwl (Nat.sub_le _ _))) _) hax2) (hwo.append hxo) (fun _ c hc =>by rw [hzs] at hc; obtain ⟨y,_,rfl⟩:=List.mem_map.mp hc; simp)
  refine hN ?_; clear hN
  rw [hzs,got_some] at hz
  refine ⟨zs,_,hz,?_,fun h =>by rw [hcz]; exact hct h,?_⟩
  ·intro hl
   subst hl
   refine .late n' _ h2 rfl ?_
   rw [hda,hra,hzs,List.map_append]
  ·rw [← List.length_append,hcz]; exact hc1
theorem bytess_map {f : Int → List Int} : ∀ {l : List Int},bytessV (l.map fun c =>V.bytes (f c)) = some (l.map f)
 | [] =>rfl
 | a :: r =>by simp only [List.map_cons,bytessV,bytess_map]; rfl
theorem join_eq {f : Int → List Int} {l : List Int} (h1 : (l.flatMap f).length ≤ 1048576) (h2 : l.length ≤ 1048576) : joinV (l.map fun c =>V.bytes (f c)) = some (.bytes (l.flatMap f)):=by
 unfold joinV
 rw [bytess_map]
 simp only [Option.bind_some,List.length_map]
 rw [← List.flatMap_def]
 exact if_pos ⟨h1,h2⟩
theorem tupR {s : Str} {ks : List Int} : cmpV .Eq (.tup [.str s,.bytes ks]) (.tup [.str s,.bytes ks]) = some true:=by
 show some ((s == s) && ((ks == ks) && true)) = _
 rw [beq_self_eq_true,beq_self_eq_true]; rfl
theorem tupB {xs : List V} : bltV "tuple" [.tup xs] = some (.tup xs):=by kernel_rfl
theorem neBR {ks : List Int} : cmpV .NotEq (.bytes ks) (.bytes ks) = some false:=by
 show some (!(ks == ks)) = _
 rw [beq_self_eq_true]; rfl
theorem pt1 : partV (some (.int 1)) = some (some 1):=rfl
theorem eq10 {x : Int} : cmpV .Eq (.list [.int x]) (.list [.int 0]) = some (x == 0):=by
 show some ((x == 0) && true) = _
 rw [Bool.and_true]
theorem eq00 : cmpV .Eq (.list []) (.list [.int 0]) = some false:=by kernel_rfl
section
variable {k : Nat} {text es : List Int} {lots : List (List Int)} {o : String} {f1 : List (Str × V)} {ex : Gam}
theorem round_tail {w w32 : String} (hl : text.length ≤ 100) (hs : Scas text) (s1 : (geOf tab (k + 5)).fn "sniffed" [.bytes (two o 65279 ++ enc16 o text)] [] = some (.str w)) (s3 : (geOf tab (k + 5)).fn "sniffed" [.bytes (four o 65279 ++ text.flatMap (four o))] [] = some (.str w32)) (a2 : binV .Add (.str "utf-32") (.str o) = some (.str w32)) (n3 : cmpV .NotEq (.list [.str w,.str "utf-8",.str w32]) (.list [.str w,.str "utf-8",.str w32]) = some false)
  (hw : (o == "le") = false ∧ binV .Add (.str "utf-16") (.str o) = some (.str w) ∨ (o == "le") = true ∧ (∃ b,cmpV .Eq (.list ((text.map V.int).take 1)) (.list [.int 0]) = some b ∧ (b = true ∧ w = "utf-32le" ∨ b = false ∧ binV .Add (.str "utf-16") (.str o) = some (.str w)))) :
  exsK 34 (wt (geOf tab (k + 5))) R64.sc R64.mu (("text",.val (.list (text.map .int))) :: ("order",.val (.str o)) :: ("ends",.val (.list (es.map .int))) :: ("octets",.val (.bytes (text.flatMap oct8))) :: ("there",.val (.bytes (two o 65279 ++ enc16 o text))) :: ("home",.val (.list (text.map .int))) :: ("stream",.inst "Utf16Stream" f1) :: ("lots",.val (.list (lots.map .bytes))) :: ex) ((blk R64.body []).drop 6) retF = some (.bool true):=by
 have htl : (text.map V.int).length ≤ 1048576:=by rw [List.length_map]; lia
 have h8l:=enc8_len (l:=text)
 have h8m : ([239,187,191] : List Int).length + (text.flatMap oct8).length ≤ 1048576:=by simp only [List.length_cons,List.length_nil]; lia
 have s2 : (geOf tab (k + 5)).fn "sniffed" [.bytes (239 :: 187 :: 191 :: text.flatMap oct8)] [] = some (.str "utf-8"):=sniffed_8 (k:=k + 3) (by lia)
 have s4 : (geOf tab (k + 5)).fn "unmarked" [.bytes (239 :: 187 :: 191 :: text.flatMap oct8)] [] = some (.tup [.str "utf-8",.bytes (text.flatMap oct8)]):=unmarked_8 (k:=k + 3) (by lia)
 have e32:=encode_utf32_eq (k:=k + 1) (o:=o) hl hs
 have e32m:=encode_utf32_mark (k:=k + 1) (o:=o) hl hs
 have d32:=decode_utf32_eq (k:=k + 1) (o:=o) hl hs
 have e1 : (("word" : Str) == ("marked" : Str)) = false:=by kernel_rfl
 have hk : cut (text.map V.int) Option.none (some 1) = (text.map V.int).take 1:=cut_take (b:=1)
 refine sha_round ?_
 simp_arith [neR,e32,d32,htl]
 refine' Eq.trans ?hA ?hB
 case hA =>
  have hsl : sliceV (.list (text.map V.int)) Option.none (some 1) = some (.list ((text.map V.int).take 1)):=(slL htl).trans (by rw [hk])
  rcases hw with ⟨ho,a1⟩ | ⟨ho,b,hb,⟨hb1,hw2⟩ | ⟨hb1,a1⟩⟩
  ·exact cE' ((ofString_beq _ _).trans ho) (bE a1 rfl)
  ·exact cE ((ofString_beq _ _).trans ho) (bE pt1 (bE hsl (bE hb (cE hb1 (by rw [hw2])))))
  ·exact cE ((ofString_beq _ _).trans ho) (bE pt1 (bE hsl (bE hb (cE' hb1 (bE a1 rfl)))))
 case hB =>
  simp_arith [htl,h8m,List.cons_append,List.nil_append,s1,e1,s2,e32m,s3,a2,n3,thaw_set,s4,tupB,tupR]; try simp_arith! [h8m,List.cons_append,List.nil_append,s1,e1,s2,e32m,s3,a2,n3,thaw_set,s4,tupB,tupR]
theorem round_end (hl : text.length ≤ 100) (hs : Scas text) (ho : o = "be" ∨ o = "le") :
  exsK 34 (wt (geOf tab (k + 5))) R64.sc R64.mu (("text",.val (.list (text.map .int))) :: ("order",.val (.str o)) :: ("ends",.val (.list (es.map .int))) :: ("octets",.val (.bytes (text.flatMap oct8))) :: ("there",.val (.bytes (two o 65279 ++ enc16 o text))) :: ("home",.val (.list (text.map .int))) :: ("stream",.inst "Utf16Stream" f1) :: ("lots",.val (.list (lots.map .bytes))) :: ex) ((blk R64.body []).drop 6) retF = some (.bool true):=by
 have el:=enc16_len (o:=o) (l:=text)
 have fl:=fours_len (o:=o) (l:=text)
 rcases ho with rfl | rfl
 ·have s1 : (geOf tab (k + 5)).fn "sniffed" [.bytes (two "be" 65279 ++ enc16 "be" text)] [] = some (.str "utf-16be"):=sniffed_16be (k:=k + 3) (r:=enc16 "be" text) (by lia)
  have s3 : (geOf tab (k + 5)).fn "sniffed" [.bytes (four "be" 65279 ++ text.flatMap (four "be"))] [] = some (.str "utf-32be"):=sniffed_32be (k:=k + 3) (r:=text.flatMap (four "be")) (by lia)
  exact round_tail hl hs s1 s3 (by kernel_rfl) (by kernel_rfl) (.inl ⟨rfl,by kernel_rfl⟩)
 ·have s3 : (geOf tab (k + 5)).fn "sniffed" [.bytes (four "le" 65279 ++ text.flatMap (four "le"))] [] = some (.str "utf-32le"):=sniffed_32le (k:=k + 3) (r:=text.flatMap (four "le")) (by lia)
  rcases htx : text with _ | ⟨x,r⟩
  ·have s1 : (geOf tab (k + 5)).fn "sniffed" [.bytes (two "le" 65279 ++ enc16 "le" text)] [] = some (.str "utf-16le"):=by rw [htx]; exact sniffed_16le (k:=k + 3) (r:=[]) (by decide) (by decide)
   rw [← htx]
   exact round_tail hl hs s1 s3 (by kernel_rfl) (by kernel_rfl) (.inr ⟨rfl,false,by rw [htx]; exact eq00,.inr ⟨rfl,by kernel_rfl⟩⟩)
  ·have hx:=hs x (by rw [htx]; exact .head _)
   unfold Sca at hx
   have ht1 : (text.map V.int).take 1 = [V.int x]:=by rw [htx]; rfl
   by_cases hx0 : x = 0
   ·subst hx0
    have hen : enc16 "le" text = 0 :: 0 :: enc16 "le" r:=by rw [htx]; rfl
    have s1 : (geOf tab (k + 5)).fn "sniffed" [.bytes (two "le" 65279 ++ enc16 "le" text)] [] = some (.str "utf-32le"):=by
     rw [hen] at el ⊢
     exact sniffed_32le (k:=k + 3) (by simp only [List.length_cons] at el; lia)
    rw [← htx]
    exact round_tail hl hs s1 s3 (by kernel_rfl) (by kernel_rfl) (.inr ⟨rfl,true,by rw [ht1]; exact eq10,.inl ⟨rfl,rfl⟩⟩)
   ·have s1 : (geOf tab (k + 5)).fn "sniffed" [.bytes (two "le" 65279 ++ enc16 "le" text)] [] = some (.str "utf-16le"):=by
     refine sniffed_16le (k:=k + 3) (r:=enc16 "le" text) (by lia) ?_
     simp only [htx,enc16_cons]
     unfold units16
     split
     ·intro q
      have q : [x % 256,x / 256] = [0,0]:=q
      injection q with q1 q; injection q with q2 q
      lia
     ·intro q
      have q : [(55296 + (x - 65536) / 1024) % 256,(55296 + (x - 65536) / 1024) / 256] = [0,0]:=q
      injection q with q1 q; injection q with q2 q
      lia
    rw [← htx]
    exact round_tail hl hs s1 s3 (by kernel_rfl) (by kernel_rfl) (.inr ⟨rfl,false,by rw [ht1,eq10,bneF hx0],.inr ⟨rfl,by kernel_rfl⟩⟩)
inductive RI (o : String) (text es : List Int) (lots : List (List Int)) (j : Nat) (rest : List (List Int)) (g : Gam) : Prop
 | mk (done : List (List Int)) (fl : List (Str × V)) (home : List Int) (ex : Gam) (hg : g = (("text" : Str),AV.val (.list (text.map .int))) :: (("order" : Str),AV.val (.str o)) :: (("ends" : Str),AV.val (.list (es.map .int))) :: (("octets" : Str),AV.val (.bytes (text.flatMap oct8))) :: (("there" : Str),AV.val (.bytes (two o 65279 ++ enc16 o text))) :: (("home" : Str),AV.val (.list (home.map .int))) :: (("stream" : Str),AV.inst ("Utf16Stream" : Str) fl) :: (("lots" : Str),AV.val (.list (lots.map .bytes))) :: ex) (h1 : done ++ rest = lots) (h2 : j = done.length) (h3 : rest ≠ [] → StS o done.flatten fl home) (h4 : rest = [] → home = text) : RI o text es lots j rest g
theorem round_eq (hl : text.length ≤ 100) (hs : Scas text) (ho : o = "be" ∨ o = "le") (he : es.length ≤ 50) : (geOf tab (k + 6)).fn "_law_round_right" [.list (text.map .int),.str o,.list (es.map .int)] [] = some (.bool true):=by
 have hWl : (two o 65279 ++ enc16 o text).length ≤ 1000:=by
  have:=enc16_len (o:=o) (l:=text)
  have h2 : (two o 65279).length = 2:=by unfold two; split <;> rfl
  rw [List.length_append]; lia
 have hWo : Oct (two o 65279 ++ enc16 o text):=by
  refine Oct.append ?_ (enc16_oct hs)
  have:=two_oct (o:=o) (l:=[65279]) (by simp)
  simpa using this
 refine bc fun hN =>?_
 obtain ⟨lots,hlots,hflat,hlen⟩:=law_pieces_eq (k:=k + 4) (ks:=two o 65279 ++ enc16 o text) (es:=es) hWl he
 refine hN ?_; clear hN
 have hll : (lots.map V.bytes).length ≤ 1048576:=by rw [List.length_map]; lia
 have htl : (text.map V.int).length ≤ 1048576:=by rw [List.length_map]; lia
 have h8l:=enc8_len (l:=text)
 have h8l' : (text.flatMap oct8).length ≤ 1048576:=by lia
 have hi16 : (geOf tab (k + 5)).cls "Utf16Stream" [] = some (fl16 .none true [] 0):=init16_eq (k:=k + 4)
 have hcw : compV (fun x =>(orO ((geOf tab (k + 5)).fn ("_law_written" : Str) [x] []) (bltV ("_law_written" : Str) [x])).bind fun v =>some (some v)) (text.map .int) = some (text.map fun c =>V.bytes (oct8 c)) :=
  comp_map text fun c hc =>by rw [law_written_eq (k:=k + 4) (hs c hc).rng.1 (hs c hc).rng.2]; rfl
 refine sh_law_round_right ?_
 simp only [encode_utf8_eq (k:=k + 2) hl hs,orS,bS,isL htl,if_pos htl,hcw,loO,join_eq h8l' (show text.length ≤ 1048576 by lia),neBR,cF,decode_utf8_eq (k:=k + 2) hl hs,lisL htl,neR,encode_utf16_eq (k:=k) (o:=o) hl hs,law_wide2 (k:=k + 4) (o:=o) hl hs,encode_utf32_eq (k:=k + 1) (o:=o) hl hs,law_wide4 (k:=k + 4) (o:=o) hl hs,encode_utf16_mark (k:=k) (o:=o) hl hs,hi16,clsC,hlots,if_pos hll]
 refine loopE (enum_rule (RI o text es lots) ?_ ?_ lots 0 _ ⟨[],_,[],[],rfl,rfl,rfl,fun _ =>.early 0 (by decide) rfl rfl,fun h =>?_⟩)
 ·rintro j x r g ⟨done,fl,home,ex,hg,h1,h2,h10,_⟩
  have hst:=h10 (by simp)
  subst hg h2
  have hW : done.flatten ++ (x ++ r.flatten) = two o 65279 ++ enc16 o text:=by simp only [← hflat,← h1]; simp
  have hlB : (((done.length : Nat) : Int) == ((lots.map V.bytes).length : Int) - 1) = r.isEmpty:=by
   simp only [← h1,List.length_map]
   cases r with
   | nil =>simp
   | cons y r =>simp; lia
  refine bc fun hN =>?_
  obtain ⟨zs,fl',hz,hz1,hz2,hz3⟩:=st_step (k:=k + 2) (last:=r.isEmpty) ho hs hW hWl hWo hst (fun q =>by rw [List.isEmpty_iff.mp q]; rfl)
  refine hN ?_; clear hN
  have hb : (home.map V.int).length + (zs.map V.int).length ≤ 1048576:=by simp only [List.length_map,List.length_map]; lia
  have i2 : (("k" : Str) == ("piece" : Str)) = false:=by kernel_rfl
  have ft : ((Option.none : Option V).isNone = true) = True:=by simp
  refine ⟨_,by kernel_rfl,shb_round (o:=Str.ofString o) (ks:=text.flatMap oct8) (t:=two o 65279 ++ enc16 o text) (xs:=text.map .int) (es:=es.map .int) (hs:=home.map .int) (ls:=lots.map .bytes) (f1:=fl) (ex:=setL ("piece" : Str) (AV.val (.bytes x)) (setL ("k" : Str) (AV.val (.int done.length)) ex)) ?_⟩
  simp_arith only [hll,hlB,i2,hst.feed,ft,hz,hb]
  refine ⟨done ++ [x],_,home ++ zs,_,by rw [List.map_append],by rw [List.append_assoc]; exact h1,by rw [lenS],?_,?_⟩
  ·intro hr
   have e : (done ++ [x]).flatten = done.flatten ++ x:=by simp
   rw [e]
   exact hz1 (by cases r with | nil =>exact absurd rfl hr | cons _ _ =>rfl)
  ·intro hr
   exact hz2 (by rw [hr]; rfl)
 ·rintro j g ⟨done,fl,home,ex,hg,h1,h2,_,h10⟩
  have e:=h10 rfl
  subst hg e
  rw [fN]
  exact round_end hl hs ho
 ·rw [h] at hlen; simp at hlen
end
noncomputable def octs : List Int:=[65,127,128,143,144,159,160,191,192,194,223,224,225,237,239,240,241,244,245,255,216,220,254,0]
theorem octs_at {i : Int} (h0 : 0 ≤ i) (h1 : i < 24) : itemAt octs i = some (octs.getD i.toNat 0) ∧ 0 ≤ octs.getD i.toNat 0 ∧ octs.getD i.toNat 0 < 256:=by
 obtain ⟨n,rfl⟩:=Int.eq_ofNat_of_zero_le h0
 have hn : n < 24:=by lia
 have e : octs[n]? = some (octs.getD n 0):=by rw [List.getD_eq_getElem?_getD,List.getElem?_eq_getElem (show n < octs.length from hn)]; rfl
 refine ⟨at_nat e,?_⟩
 have hall : ∀ x ∈ octs,0 ≤ x ∧ x < 256:=by decide
 exact hall _ (List.mem_of_getElem? e)
noncomputable def pick (v : Int) : Int:=if v / 256 % 2 = 0 then v % 256 else octs.getD (v / 512 % 24).toNat 0
theorem pick_rng {v : Int} : 0 ≤ pick v ∧ pick v < 256:=by
 unfold pick
 split
 ·lia
 ·exact (octs_at (i:=v / 512 % 24) (by lia) (by lia)).2
theorem law_tail {k : Nat} {cs : List Int} {f : Int} (hcl : cs.length ≤ 11) : ((partV (some (.int 1))).bind fun p1649 =>(partV (some (.int 4))).bind fun p1650 =>(sliceV (.list (cs.map .int)) p1649 p1650).bind fun v1651 =>(itemsV v1651).bind fun xs1652 =>if xs1652.length ≤ lid then (compV (fun x1653 =>(binV .FloorDiv x1653 (.int 7)).bind fun v1654 =>some (some v1654)) xs1652).bind fun v1655 =>(binV .Add (.list v1655) (.list [.int 1,.int 2])).bind fun v1656 =>(partV (some (.int 1))).bind fun p1657 =>(sliceV (.list (cs.map .int)) p1657 Option.none).bind fun v1658 =>(itemsV v1658).bind fun xs1659 =>if xs1659.length ≤ lid then (compV (fun x1660 =>(binV .FloorDiv x1660 (.int 256)).bind fun v1661 =>(binV .Mod v1661 (.int 2)).bind fun v1662 =>(cmpV .Eq v1662 (.int 0)).bind fun b1663 =>cond b1663 ((binV .Mod x1660 (.int 256)).bind fun v1664 =>some (some v1664)) ((binV .FloorDiv x1660 (.int 512)).bind fun v1665 =>(binV .Mod v1665 (.int 24)).bind fun v1666 =>(itemV (.bytes [65,127,128,143,144,159,160,191,192,194,223,224,225,237,239,240,241,244,245,255,216,220,254,0]) v1666).bind fun v1667 =>some (some v1667))) xs1659).bind fun v1668 =>(bltV "bytes" [.list v1668]).bind fun v1669 =>(binV .Mod (.int f) (.int 4)).bind fun v1670 =>(binV .Add (.int 1) v1670).bind fun v1671 =>(partV (some v1671)).bind fun p1672 =>(sliceV v1656 Option.none p1672).bind fun v1673 =>(orO ((geOf tab (k + 6)).fn "_law_streams_right" [v1669,v1673] []) (bltV "_law_streams_right" [v1669,v1673])).bind fun v1674 =>(V.tru v1674).bind fun b1675 =>cond (!b1675) (some (.bool false)) ((orO ((geOf tab (k + 6)).fn "_law_codes" [v1669,.bool true] []) (bltV "_law_codes" [v1669,.bool true])).bind fun v1676 =>(binV .FloorDiv (.int f) (.int 4)).bind fun v1677 =>(binV .Mod v1677 (.int 2)).bind fun v1678 =>(cmpV .Eq v1678 (.int 0)).bind fun b1679 =>cond b1679 ((binV .FloorDiv (.int f) (.int 8)).bind fun v1680 =>(binV .Mod v1680 (.int 4)).bind fun v1681 =>(partV (some v1681)).bind fun p1682 =>(sliceV v1656 Option.none p1682).bind fun v1683 =>(orO ((geOf tab (k + 6)).fn "_law_round_right" [v1676,.str "be",v1683] []) (bltV "_law_round_right" [v1676,.str "be",v1683])).bind fun v1684 =>some v1684) ((binV .FloorDiv (.int f) (.int 8)).bind fun v1685 =>(binV .Mod v1685 (.int 4)).bind fun v1686 =>(partV (some v1686)).bind fun p1687 =>(sliceV v1656 Option.none p1687).bind fun v1688 =>(orO ((geOf tab (k + 6)).fn "_law_round_right" [v1676,.str "le",v1688] []) (bltV "_law_round_right" [v1676,.str "le",v1688])).bind fun v1689 =>some v1689)) else Option.none else Option.none) = some (.bool true):=by
 have hcl' : (cs.map V.int).length ≤ 1048576:=by rw [List.length_map]; lia
 have hrl : (cs.drop 1).length ≤ 10:=by rw [List.length_drop]; lia
 have hk1 : cut (cs.map V.int) (some 1) Option.none = (cs.drop 1).map V.int:=by rw [List.map_drop]; exact cut_drop (a:=1)
 have hk2 : cut (cs.map V.int) (some 1) (some 4) = ((cs.drop 1).take 3).map V.int:=by simp only [List.map_take,List.map_drop]; exact cut_both (a:=1) (b:=4)
 generalize cs.drop 1 = rs at *
 have h3l : (rs.take 3).length ≤ 3:=by rw [List.length_take]; lia
 generalize rs.take 3 = e3 at *
 have hrl' : (rs.map V.int).length ≤ 1048576:=by rw [List.length_map]; lia
 have h3l' : (e3.map V.int).length ≤ 1048576:=by rw [List.length_map]; lia
 have hes : e3.map (fun v =>V.int (v / 7)) ++ [V.int 1,V.int 2] = (e3.map (· / 7) ++ [1,2]).map V.int:=by simp only [List.map_append,List.map_map]; rfl
 have h3l2 : (e3.map (fun v =>V.int (v / 7))).length + [V.int 1,V.int 2].length ≤ 1048576:=by rw [List.length_map]; simp only [List.length_cons,List.length_nil]; lia
 have hel : (e3.map (· / 7) ++ [1,2]).length ≤ 5:=by simp only [List.length_append,List.length_map]; simp only [List.length_cons,List.length_nil]; lia
 have hc1 : compV (fun x =>(binV .FloorDiv x (.int 7)).bind fun v =>some (some v)) (e3.map .int) = some (e3.map fun v =>V.int (v / 7)):=comp_map e3 fun v _ =>by rw [d7]; rfl
 have hc2 : compV (fun x1660 =>(binV .FloorDiv x1660 (.int 256)).bind fun v1661 =>(binV .Mod v1661 (.int 2)).bind fun v1662 =>(cmpV .Eq v1662 (.int 0)).bind fun b1663 =>cond b1663 ((binV .Mod x1660 (.int 256)).bind fun v1664 =>some (some v1664)) ((binV .FloorDiv x1660 (.int 512)).bind fun v1665 =>(binV .Mod v1665 (.int 24)).bind fun v1666 =>(itemV (.bytes [65,127,128,143,144,159,160,191,192,194,223,224,225,237,239,240,241,244,245,255,216,220,254,0]) v1666).bind fun v1667 =>some (some v1667))) (rs.map .int) = some (rs.map fun v =>V.int (pick v)):=by
  refine comp_map rs fun v _ =>?_
  have ho : itemV (.bytes [65,127,128,143,144,159,160,191,192,194,223,224,225,237,239,240,241,244,245,255,216,220,254,0]) (.int (v / 512 % 24)) = some (.int (octs.getD (v / 512 % 24).toNat 0)):=by
   rw [itB (by decide)]
   exact congrArg (Option.map V.int) (octs_at (i:=v / 512 % 24) (Int.emod_nonneg _ (by decide)) (Int.emod_lt_of_pos _ (by decide))).1
  unfold pick
  by_cases c : v / 256 % 2 = 0
  ·have cb : (v / 256 % 2 == 0) = true:=beq_iff_eq.mpr c
   simp_arith [cb]; rw [if_pos c]
  ·simp_arith [bneF c,ho]; rw [if_neg c]
 have hos : rs.map (fun v =>V.int (pick v)) = (rs.map pick).map V.int:=by rw [List.map_map]; rfl
 have hol : (rs.map pick).length ≤ 10:=by rw [List.length_map]; exact hrl
 have hoo : Oct (rs.map pick):=by
  intro x hx
  obtain ⟨v,_,rfl⟩:=List.mem_map.mp hx
  exact pick_rng
 simp only [pt1,pt4,bS,slL hcl',hk1,hk2,isL h3l',if_pos h3l',hc1,adL h3l2,hes,isL hrl',if_pos hrl',hc2,hos]
 generalize e3.map (· / 7) ++ [1,2] = es at *
 generalize rs.map pick = os at *
 have hc : ∀ z : Int,0 ≤ z → cut (es.map V.int) Option.none (some z) = (es.take z.toNat).map V.int:=by
  intro z hz
  obtain ⟨n,rfl⟩:=Int.eq_ofNat_of_zero_le hz
  simp only [cut_take,Int.toNat_natCast,List.map_take]
 have hel' : (es.map V.int).length ≤ 1048576:=by rw [List.length_map]; lia
 have hs1 : (geOf tab (k + 6)).fn "_law_streams_right" [.bytes os,.list ((es.take (1 + f % 4).toNat).map .int)] [] = some (.bool true):=streams_eq (k:=k + 2) (by lia) hoo (by rw [List.length_take]; lia)
 have hcd : (geOf tab (k + 6)).fn "_law_codes" [.bytes os,.bool true] [] = some (.list ((run true os).1.map .int)):=law_codes_eq (k:=k + 3) (by lia) hoo
 have htl:=run_len true _ os (Nat.le_refl _)
 have hr : ∀ o : String,o = "be" ∨ o = "le" → (geOf tab (k + 6)).fn "_law_round_right" [.list ((run true os).1.map .int),.str o,.list ((es.take (f / 8 % 4).toNat).map .int)] [] = some (.bool true):=fun o ho =>round_eq (k:=k) (by lia) (run_sca true _ os (Nat.le_refl _) hoo) ho (by rw [List.length_take]; lia)
 have N1 : partV (some (.int (1 + f % 4))) = some (some (1 + f % 4)):=ptS (by lia)
 have N2 : partV (some (.int (f / 8 % 4))) = some (some (f / 8 % 4)):=ptS (by lia)
 have hb:=byL (show os.length ≤ 1048576 by lia) hoo
 have c1:=hc (1 + f % 4) (by lia)
 have c2:=hc (f / 8 % 4) (by lia)
 simp_arith [hb,N1,hel',c1,hs1,hcd,N2,c2,hr "be" (.inl rfl),hr "le" (.inr rfl)]
 cases f / 4 % 2 == 0
 ·simp_arith only [N2,hel',c2,hr "be" (.inl rfl),hr "le" (.inr rfl)]
 ·simp_arith only [N2,hel',c2,hr "be" (.inl rfl),hr "le" (.inr rfl)]
theorem law_eq {k : Nat} {ns : List Int} (hn : ns.length ≤ 63) : (geOf tab (k + 7)).fn "law" [.list (ns.map .int)] [] = some (.bool true):=by
 have hnl : (ns.map V.int).length ≤ 1048576:=by rw [List.length_map]; lia
 have hct : cut (ns.map V.int) Option.none (some 11) = (ns.take 11).map V.int:=by rw [List.map_take]; exact cut_take (b:=11)
 have hcl : (ns.take 11).length ≤ 11:=by rw [List.length_take]; lia
 have p11 : partV (some (.int 11)) = some (some 11):=rfl
 refine sh_law ?_
 generalize ns.take 11 = cs at *
 have hcl' : (cs.map V.int).length ≤ 1048576:=by rw [List.length_map]; lia
 have hci : compV (fun x =>(bltV "int" [x]).bind fun v =>some (some v)) (cs.map .int) = some (cs.map V.int):=comp_map cs fun v _ =>rfl
 simp only [p11,bS,slL hnl,hct,isL hcl',if_pos hcl',hci,neE]
 cases cs with
 | nil =>rw [show (!((([] : List Int)).map V.int).isEmpty) = false from rfl,cF]; exact law_tail (k:=k) (cs:=[]) (f:=0) hcl
 | cons c r =>
  have i0 : itemV (.list ((c :: r).map .int)) (.int 0) = some (.int c):=by rw [itL hcl']; exact at_nat (k:=0) rfl
  simp only [show (!((c :: r).map V.int).isEmpty) = true from rfl,cT,i0,bS]
  exact law_tail (k:=k) (cs:=c :: r) (f:=c) hcl
end Mine
section
open PySem PySem.W PyProof.Rows PySem.Calls PySem.SeqAt
local macro_rules | `(tactic| k_qdec) =>`(tactic| decide +kernel)
set_option maxRecDepth 100000 in
set_option maxHeartbeats 8000000 in
theorem Mine.holds_of (PL : Mine.Plain) : PySem.Challenge.rw_nt0019_01.Holds:=by
 w_on
 refine holds_law (by kernel_rfl) fun said =>?_
 refine holds_open (q:=Mine.vw) (loose:=Mine.loose) (Xt:=fun s =>xlAt Mine.vw [] s && recOk [] s) (XP:=XL Mine.vw []) (Yf:=(kHook Mine.Kd Mine.Ka (fun _ =>by kernel_rfl)).obs) (Ya:=(kHook Mine.Kd Mine.Ka (fun _ =>by kernel_rfl)).val) (YP:=(kHook Mine.Kd Mine.Ka (fun _ =>by kernel_rfl)).says) (N:=20000) Mine.left (kHook Mine.Kd Mine.Ka (fun _ =>by kernel_rfl)).of (kHook Mine.Kd Mine.Ka (fun _ =>by kernel_rfl)).keeps (fun s e =>xl_of s (Bool.and_eq_true_iff.mp e).1) XL.keeps (by rfl) (by rfl) (by rfl) (fun s e =>recFacts_of (Bool.and_eq_true_iff.mp e).2) (by rfl) (by first | assumption | decide +kernel) (by decide +kernel) ⟨rfl,rfl,rfl,rfl,rfl,by decide +kernel⟩ ?hw ?hc
 case hw =>w_witness2
 case hc =>
  intro w s₀ s₁ mg mb G Y fa o pm cd doc dV kV ho hd hcd hD hmg hg args vals as hpre hlay hrd hwl hlo
  have KX:=kIn_of Y
  k_behind G ho hd hcd hD hmg hpre hlay hrd hwl hlo cd
  all_goals try k_fold
  rename_i hL ra w1 r0 hI hr hcond hcond2 K0 h₁ F N0
  rename_i T B TE TW a1 o1 M a2 a3 ns hs hlay0 hL1 hr1 hl2 as1 as2 ad us as3
  have hn : ns.length ≤ 63:=by have:=hcond; omega
  rename_i X V GL
  refine Mine.law_walk PL KX (topRead_of T) hL hI hn F (fun h t k =>?_)
  refine ⟨.inl ⟨.bool true,.bool true,[],rfl,fun _ =>?h1,.bool true,?h2,fun _ =>?h3⟩,k,rfl,?h4⟩
  case h1 =>rfl
  case h2 =>first | rfl | wrow_post
  case h3 =>exact ⟨.nil,nofun⟩
  case h4 =>assumption
end
section
namespace Mine
theorem holds_all : PySem.Challenge.rw_nt0019_01.Holds:=holds_of fun _ h =>law_eq (k:=0) h
end Mine
end
theorem PySem.Challenge.cw_nt0019_01_holds : PySem.Challenge.rw_nt0019_01.Holds := by
 exact Mine.holds_all
