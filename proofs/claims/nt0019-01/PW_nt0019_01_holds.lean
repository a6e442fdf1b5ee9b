import PyProof.Rows.All
import Wide.All
import OpenK.AllK
import Wide.FinOn
import PySem.Challenge.RW_nt0019_01
set_option Elab.async false
set_option maxRecDepth 100000
set_option linter.unusedVariables false
set_option linter.unusedSimpArgs false
set_option genInjectivity false
section
set_option maxHeartbeats 8000000
namespace Mine
open PySem PySem.W PyProof.Rows
theorem bc {P : Prop} (h : ¬¬P) : P := Classical.byContradiction h
theorem oj {α : Type u} {a b : α} (h : some a = some b) : a = b := Option.some.inj h
noncomputable abbrev aA : List Stmt:=PySem.Challenge.pw_nt0019_01.main.body
noncomputable def fj (st : Option Stmt) (j : Nat) : Option Stmt:=match st with
 | some (.ClassDef _ _ _ b _ _ _ _ _ _ _) =>b[j]?
 | _ =>none
noncomputable def bdO (st : Option Stmt) : List Stmt:=match st with
 | some (.FunctionDef _ _ b _ _ _ _ _ _ _) =>b
 | _ =>[]
noncomputable def scO (st : Option Stmt) : Scope:=match st with
 | some (.FunctionDef _ _ _ _ _ _ sc _ _ _) =>sc
 | _ =>default
noncomputable def dE (P : Params) (s : Str) (t : Tok) (v : Value) : DictEntry:={ hash:=PyData.keyHash P s,key:=.str s t,val:=v }
noncomputable def nmO (st : Option Stmt) : Str:=match st with
 | some (.FunctionDef n _ _ _ _ _ _ _ _ _) =>n
 | _ =>""
noncomputable def arO (st : Option Stmt) : Arguments:=match st with
 | some (.FunctionDef _ a _ _ _ _ _ _ _ _) =>a
 | _ =>default
noncomputable def fdO (a : Addr) (st : Option Stmt) (q : Str) (m d : Value) : FuncData:={ name:=nmO st,qualname:=q,params:=arO st,body:=.stmts (bdO st),scope:=scO st,globals:=3,closure:=[],defaults:=d,kwdefaults:=.none,pyModule:=m,code:=.ref (a - 1) }
noncomputable def fnO (a : Addr) (st : Option Stmt) (q : Str) (m d : Value) : Addr × Obj:=(a,{ cls:=.type "function",data:=.func (fdO a st q m d) })
noncomputable def cdO (a : Addr) (n q : Str) (t l c f t2 : Nat) : Addr × Obj:=(a,{ cls:=.type "code",data:=.fields #[.str n t,.str q (t + 1),.str "/claim/cut.py" (t + 2),.int l 0,.int c 0,.int 0 0,.int 0 0,.int f 0,.ref (a - 5),.bool true,.int 181 0,.ref (a - 4),.none,.ref (a - 3),.ref (a - 2),.ref (a - 1),.int t2 0,.int l 0,.str "/claim/cut.py" (t2 + 1)] })
noncomputable def Kd (P : Params) : Frag:=[
(3,{ cls:=.type "dict",data:=.dict #[dE P "__name__" 165 (.str "law_nt0019_01" 645),dE P "__doc__" 166 (.none),dE P "__package__" 167 (.none),dE P "__loader__" 168 (.builtin "__main__.__loader__#opaque"),dE P "__spec__" 169 (.none),dE P "__annotations__" 170 (.ref 6),dE P "__builtins__" 171 (.ref 4),dE P "__file__" 173 (.str "/claim/cut.py" 172),dE P "__cached__" 174 (.none),dE P "MAX_CODE" 190 (.int 1114111 189),dE P "HIGH_FIRST" 192 (.int 55296 191),dE P "HIGH_LAST" 194 (.int 56319 193),dE P "LOW_FIRST" 196 (.int 56320 195),dE P "LOW_LAST" 198 (.int 57343 197),dE P "REPLACEMENT" 200 (.int 65533 199),dE P "ORDER_MARK" 202 (.int 65279 201),dE P "SUPPLEMENTARY" 204 (.int 65536 203),dE P "UniError" 233 (.ref 32),dE P "BadEncoding" 249 (.ref 45),dE P "BadCode" 265 (.ref 57),dE P "is_code" 272 (.ref 66),dE P "is_high" 279 (.ref 73),dE P "is_low" 286 (.ref 80),dE P "is_surrogate" 293 (.ref 87),dE P "is_scalar" 300 (.ref 94),dE P "check_scalars" 308 (.ref 101),dE P "UTF8_ALONE" 312 (.str "a trail octet without a lead" 311),dE P "UTF8_NEVER" 314 (.str "an octet that never stands" 313),dE P "UTF8_BROKEN" 316 (.str "a sequence that breaks off" 315),dE P "UTF8_SHORT" 318 (.str "a sequence that is cut short" 317),dE P "UTF8_TRAIL" 320 (.int 128 319),dE P "UTF8_PLANE" 322 (.int 65536 321),dE P "utf8_octets" 330 (.ref 108),dE P "encode_utf8" 339 (.ref 115),dE P "utf8_lead" 346 (.ref 122),dE P "utf8_piece" 361 (.ref 129),dE P "decode_utf8" 373 (.ref 136),dE P "decode_utf8_replaced" 385 (.ref 143),dE P "Utf8Stream" 431 (.ref 169),dE P "BIG" 435 (.str "be" 434),dE P "HALF_BITS" 437 (.int 10 436),dE P "HALF_MASK" 439 (.int 1023 438),dE P "utf16_units" 449 (.ref 180),dE P "utf16_joined" 457 (.ref 187),dE P "utf16_octets" 465 (.ref 194),dE P "utf16_unit" 474 (.ref 201),dE P "encode_utf16" 485 (.ref 209),dE P "utf16_step" 496 (.ref 216),dE P "utf16_start" 504 (.ref 223),dE P "decode_utf16_replaced" 516 (.ref 231),dE P "Utf16Stream" 576 (.ref 264),dE P "encode_utf32" 588 (.ref 276),dE P "utf32_step" 599 (.ref 283),dE P "utf32_start" 607 (.ref 290),dE P "decode_utf32" 620 (.ref 298),dE P "encoding_marks" 626 (.ref 303),dE P "sniffed" 635 (.ref 310),dE P "unmarked" 644 (.ref 317),dE P "_law_octets" 648 (.bytes #[65,127,128,143,144,159,160,191,192,194,223,224,225,237,239,240,241,244,245,255,216,220,254,0] 647),dE P "_law_is_begun" 654 (.ref 322),dE P "_law_code" 664 (.ref 329),dE P "_law_cut" 675 (.ref 336),dE P "_law_written" 685 (.ref 343),dE P "_law_codes" 691 (.ref 348),dE P "_law_halves" 697 (.ref 353),dE P "_law_units" 706 (.ref 360),dE P "_law_wide" 720 (.ref 367),dE P "_law_pieces" 726 (.ref 372),dE P "_law_streams_right" 743 (.ref 379),dE P "_law_round_right" 749 (.ref 384),dE P "law" 755 (.ref 389)] 71 }),
 cdO 65 "is_code" "is_code" 266 18 1 3 270,
 fnO 66 aA[12]? "is_code" (.str "unicore.base" 187) .none,
 cdO 72 "is_high" "is_high" 273 20 1 3 277,
 fnO 73 aA[13]? "is_high" (.str "unicore.base" 187) .none,
 cdO 79 "is_low" "is_low" 280 22 1 3 284,
 fnO 80 aA[14]? "is_low" (.str "unicore.base" 187) .none,
 cdO 86 "is_surrogate" "is_surrogate" 287 24 1 3 291,
 fnO 87 aA[15]? "is_surrogate" (.str "unicore.base" 187) .none,
 cdO 93 "is_scalar" "is_scalar" 294 26 1 3 298,
 fnO 94 aA[16]? "is_scalar" (.str "unicore.base" 187) .none,
 cdO 100 "check_scalars" "check_scalars" 301 28 1 3 306,
 fnO 101 aA[17]? "check_scalars" (.str "unicore.base" 187) .none,
 cdO 107 "utf8_octets" "utf8_octets" 323 39 1 3 328,
 fnO 108 aA[25]? "utf8_octets" (.str "unicore.utf8" 309) .none,
 cdO 114 "encode_utf8" "encode_utf8" 331 48 1 3 337,
 fnO 115 aA[26]? "encode_utf8" (.str "unicore.utf8" 309) .none,
 cdO 121 "utf8_lead" "utf8_lead" 340 55 1 3 344,
 fnO 122 aA[27]? "utf8_lead" (.str "unicore.utf8" 309) .none,
 cdO 128 "utf8_piece" "utf8_piece" 347 65 2 3 359,
 fnO 129 aA[28]? "utf8_piece" (.str "unicore.utf8" 309) .none,
 cdO 135 "decode_utf8" "decode_utf8" 362 82 1 3 371,
 fnO 136 aA[29]? "decode_utf8" (.str "unicore.utf8" 309) .none,
 cdO 142 "decode_utf8_replaced" "decode_utf8_replaced" 374 91 1 3 383,
 fnO 143 aA[30]? "decode_utf8_replaced" (.str "unicore.utf8" 309) .none,
 (151,{ cls:=.type "tuple",data:=.seq #[.bool false] }),
 cdO 157 "__init__" "Utf8Stream.__init__" 398 100 2 3 403,
 fnO 158 (fj aA[31]? 0) "Utf8Stream.__init__" (.str "unicore.utf8" 309) (.ref 151),
 (159,{ cls:=.type "tuple",data:=.seq #[.bool false] }),
 cdO 165 "feed" "Utf8Stream.feed" 406 105 3 3 418,
 fnO 166 (fj aA[31]? 1) "Utf8Stream.feed" (.str "unicore.utf8" 309) (.ref 159),
 (168,{ cls:=.type "dict",data:=.dict #[dE P "__module__" 393 (.str "unicore.utf8" 309),dE P "__firstlineno__" 397 (.int 98 396),dE P "__init__" 405 (.ref 158),dE P "feed" 420 (.ref 166),dE P "__static_attributes__" 424 (.ref 167),dE P "__dict__" 426 (.ref 170),dE P "__weakref__" 428 (.ref 171),dE P "__doc__" 429 (.none)] 4 }),
 (169,{ cls:=.type "type",data:=.cls { name:="Utf8Stream",bases:=[.type "object"],mro:=[.ref 169,.type "object"],ns:=168,qualname:="Utf8Stream" },slots:=#[none,none,some (.str "Utf8Stream" 386),some (.str "Utf8Stream" 394),some (.builtin "object.__new__"),some (.bool true)] }),
 cdO 179 "utf16_units" "utf16_units" 440 122 1 3 447,
 fnO 180 aA[36]? "utf16_units" (.str "unicore.utf16" 432) .none,
 cdO 186 "utf16_joined" "utf16_joined" 450 133 2 3 455,
 fnO 187 aA[37]? "utf16_joined" (.str "unicore.utf16" 432) .none,
 cdO 193 "utf16_octets" "utf16_octets" 458 135 2 3 463,
 fnO 194 aA[38]? "utf16_octets" (.str "unicore.utf16" 432) .none,
 cdO 200 "utf16_unit" "utf16_unit" 466 137 3 3 472,
 fnO 201 aA[39]? "utf16_unit" (.str "unicore.utf16" 432) .none,
 (202,{ cls:=.type "tuple",data:=.seq #[.str "be" 434,.bool false] }),
 cdO 208 "encode_utf16" "encode_utf16" 475 139 3 3 483,
 fnO 209 aA[40]? "encode_utf16" (.str "unicore.utf16" 432) (.ref 202),
 cdO 215 "utf16_step" "utf16_step" 486 144 3 3 494,
 fnO 216 aA[41]? "utf16_step" (.str "unicore.utf16" 432) .none,
 cdO 222 "utf16_start" "utf16_start" 497 157 2 3 502,
 fnO 223 aA[42]? "utf16_start" (.str "unicore.utf16" 432) .none,
 (224,{ cls:=.type "tuple",data:=.seq #[.none] }),
 cdO 230 "decode_utf16_replaced" "decode_utf16_replaced" 505 163 2 3 514,
 fnO 231 aA[43]? "decode_utf16_replaced" (.str "unicore.utf16" 432) (.ref 224),
 (239,{ cls:=.type "tuple",data:=.seq #[.none,.bool true] }),
 cdO 245 "__init__" "Utf16Stream.__init__" 529 172 3 3 535,
 fnO 246 (fj aA[44]? 0) "Utf16Stream.__init__" (.str "unicore.utf16" 432) (.ref 239),
 cdO 252 "is_lacking" "Utf16Stream.is_lacking" 538 178 4 3 546,
 fnO 253 (fj aA[44]? 1) "Utf16Stream.is_lacking" (.str "unicore.utf16" 432) .none,
 (254,{ cls:=.type "tuple",data:=.seq #[.bool false] }),
 cdO 260 "feed" "Utf16Stream.feed" 549 182 3 3 562,
 fnO 261 (fj aA[44]? 2) "Utf16Stream.feed" (.str "unicore.utf16" 432) (.ref 254),
 (263,{ cls:=.type "dict",data:=.dict #[dE P "__module__" 524 (.str "unicore.utf16" 432),dE P "__firstlineno__" 528 (.int 170 527),dE P "__init__" 537 (.ref 246),dE P "is_lacking" 548 (.ref 253),dE P "feed" 564 (.ref 261),dE P "__static_attributes__" 569 (.ref 262),dE P "__dict__" 571 (.ref 265),dE P "__weakref__" 573 (.ref 266),dE P "__doc__" 574 (.none)] 4 }),
 (264,{ cls:=.type "type",data:=.cls { name:="Utf16Stream",bases:=[.type "object"],mro:=[.ref 264,.type "object"],ns:=263,qualname:="Utf16Stream" },slots:=#[none,none,some (.str "Utf16Stream" 517),some (.str "Utf16Stream" 525),some (.builtin "object.__new__"),some (.bool true)] }),
 (269,{ cls:=.type "tuple",data:=.seq #[.str "be" 434,.bool false] }),
 cdO 275 "encode_utf32" "encode_utf32" 577 196 3 3 586,
 fnO 276 aA[45]? "encode_utf32" (.str "unicore.utf16" 432) (.ref 269),
 cdO 282 "utf32_step" "utf32_step" 589 203 3 3 597,
 fnO 283 aA[46]? "utf32_step" (.str "unicore.utf16" 432) .none,
 cdO 289 "utf32_start" "utf32_start" 600 213 2 3 605,
 fnO 290 aA[47]? "utf32_start" (.str "unicore.utf16" 432) .none,
 (291,{ cls:=.type "tuple",data:=.seq #[.none] }),
 cdO 297 "decode_utf32" "decode_utf32" 608 219 2 3 618,
 fnO 298 aA[48]? "decode_utf32" (.str "unicore.utf16" 432) (.ref 291),
 (302,{ cls:=.type "code",data:=.fields #[.str "encoding_marks" 621,.str "encoding_marks" 622,.str "/claim/cut.py" 623,.int 229 0,.int 0 0,.int 0 0,.int 0 0,.int 3 0,.ref 299,.bool true,.int 181 0,.ref 300,.none,.none,.none,.ref 301,.int 624 0,.int 229 0,.str "/claim/cut.py" 625] }),
 fnO 303 aA[49]? "encoding_marks" (.str "unicore.utf16" 432) .none,
 cdO 309 "sniffed" "sniffed" 627 234 1 3 633,
 fnO 310 aA[50]? "sniffed" (.str "unicore.utf16" 432) .none,
 cdO 316 "unmarked" "unmarked" 636 239 1 3 642,
 fnO 317 aA[51]? "unmarked" (.str "unicore.utf16" 432) .none,
 (321,{ cls:=.type "code",data:=.fields #[.str "_law_is_begun" 649,.str "_law_is_begun" 650,.str "/claim/cut.py" 651,.int 246 0,.int 1 0,.int 0 0,.int 0 0,.int 3 0,.ref 318,.bool true,.int 181 0,.ref 319,.none,.none,.none,.ref 320,.int 652 0,.int 246 0,.str "/claim/cut.py" 653] }),
 fnO 322 aA[54]? "_law_is_begun" (.str "law_nt0019_01" 645) .none,
 cdO 328 "_law_code" "_law_code" 655 261 1 3 662,
 fnO 329 aA[55]? "_law_code" (.str "law_nt0019_01" 645) .none,
 cdO 335 "_law_cut" "_law_cut" 665 269 1 3 673,
 fnO 336 aA[56]? "_law_cut" (.str "law_nt0019_01" 645) .none,
 cdO 342 "_law_written" "_law_written" 676 279 1 3 683,
 fnO 343 aA[57]? "_law_written" (.str "law_nt0019_01" 645) .none,
 (347,{ cls:=.type "code",data:=.fields #[.str "_law_codes" 686,.str "_law_codes" 687,.str "/claim/cut.py" 688,.int 288 0,.int 2 0,.int 0 0,.int 0 0,.int 3 0,.ref 344,.bool true,.int 181 0,.ref 345,.none,.none,.none,.ref 346,.int 689 0,.int 288 0,.str "/claim/cut.py" 690] }),
 fnO 348 aA[58]? "_law_codes" (.str "law_nt0019_01" 645) .none,
 (352,{ cls:=.type "code",data:=.fields #[.str "_law_halves" 692,.str "_law_halves" 693,.str "/claim/cut.py" 694,.int 294 0,.int 1 0,.int 0 0,.int 0 0,.int 3 0,.ref 349,.bool true,.int 181 0,.ref 350,.none,.none,.none,.ref 351,.int 695 0,.int 294 0,.str "/claim/cut.py" 696] }),
 fnO 353 aA[59]? "_law_halves" (.str "law_nt0019_01" 645) .none,
 cdO 359 "_law_units" "_law_units" 698 305 2 3 704,
 fnO 360 aA[60]? "_law_units" (.str "law_nt0019_01" 645) .none,
 cdO 366 "_law_wide" "_law_wide" 707 312 3 3 718,
 fnO 367 aA[61]? "_law_wide" (.str "law_nt0019_01" 645) .none,
 (371,{ cls:=.type "code",data:=.fields #[.str "_law_pieces" 721,.str "_law_pieces" 722,.str "/claim/cut.py" 723,.int 322 0,.int 2 0,.int 0 0,.int 0 0,.int 3 0,.ref 368,.bool true,.int 181 0,.ref 369,.none,.none,.none,.ref 370,.int 724 0,.int 322 0,.str "/claim/cut.py" 725] }),
 fnO 372 aA[62]? "_law_pieces" (.str "law_nt0019_01" 645) .none,
 cdO 378 "_law_streams_right" "_law_streams_right" 727 325 2 3 741,
 fnO 379 aA[63]? "_law_streams_right" (.str "law_nt0019_01" 645) .none,
 (383,{ cls:=.type "code",data:=.fields #[.str "_law_round_right" 744,.str "_law_round_right" 745,.str "/claim/cut.py" 746,.int 337 0,.int 3 0,.int 0 0,.int 0 0,.int 3 0,.ref 380,.bool true,.int 181 0,.ref 381,.none,.none,.none,.ref 382,.int 747 0,.int 337 0,.str "/claim/cut.py" 748] }),
 fnO 384 aA[64]? "_law_round_right" (.str "law_nt0019_01" 645) .none,
 (388,{ cls:=.type "code",data:=.fields #[.str "law" 750,.str "law" 751,.str "/claim/cut.py" 752,.int 354 0,.int 1 0,.int 0 0,.int 0 0,.int 3 0,.ref 385,.bool true,.int 181 0,.ref 386,.none,.none,.none,.ref 387,.int 753 0,.int 354 0,.str "/claim/cut.py" 754] }),
 fnO 389 aA[65]? "law" (.str "law_nt0019_01" 645) .none]
noncomputable def Ka : List Addr:=[3,65,66,72,73,79,80,86,87,93,94,100,101,107,108,114,115,121,122,128,129,135,136,142,143,151,157,158,159,165,166,168,169,179,180,186,187,193,194,200,201,202,208,209,215,216,222,223,224,230,231,239,245,246,252,253,254,260,261,263,264,269,275,276,282,283,289,290,291,297,298,302,303,309,310,316,317,321,322,328,329,335,336,342,343,347,348,352,353,359,360,366,367,371,372,378,379,383,384,388,389]
noncomputable def loose : List Str:=(["MAX_CODE","HIGH_FIRST","HIGH_LAST","LOW_FIRST","LOW_LAST","REPLACEMENT","ORDER_MARK","SUPPLEMENTARY","UniError","BadEncoding","BadCode","is_code","is_high","is_low","is_surrogate","is_scalar","check_scalars","UTF8_ALONE","UTF8_NEVER","UTF8_BROKEN","UTF8_SHORT","UTF8_TRAIL","UTF8_PLANE","utf8_octets"] : List Str) ++ ((["encode_utf8","utf8_lead","utf8_piece","decode_utf8","decode_utf8_replaced","Utf8Stream","BIG","HALF_BITS","HALF_MASK","utf16_units","utf16_joined","utf16_octets","utf16_unit","encode_utf16","utf16_step","utf16_start","decode_utf16_replaced","Utf16Stream","encode_utf32","utf32_step","utf32_start","decode_utf32","encoding_marks","sniffed"] : List Str) ++ ((["unmarked","_law_octets","_law_is_begun","_law_code","_law_cut","_law_written","_law_codes","_law_halves","_law_units","_law_wide","_law_pieces","_law_streams_right","_law_round_right"] : List Str)))
noncomputable def vw : Program:={ PySem.Challenge.pw_nt0019_01 with main:={ PySem.Challenge.pw_nt0019_01.main with body:=[aA[65]] } }
end Mine
end
section
set_option maxHeartbeats 8000000
namespace MineR
open PySem PySem.W PyProof.Rows Mine
noncomputable def tp (l : List Value) : Obj:={ cls:=.type "tuple",data:=.seq ⟨l⟩ }
noncomputable def fl (l : List Value) : Obj:={ cls:=.none,data:=.fields ⟨l⟩ }
noncomputable def bf (n : String) (v : Value) : Obj:={ cls:=.type "builtin_function_or_method",data:=.fields #[.builtin n,v] }
noncomputable def gt (n : Str) (t : Tok) (a : Addr) (x : String) (y : Value) : Obj:={ cls:=.type "getset_descriptor",data:=.fields #[.str n t,.ref a,.builtin x,y] }
noncomputable def dc (P : Params) (l : List (Str × Tok × Value)) (k : Nat) : Obj:={ cls:=.type "dict",data:=.dict ⟨l.map fun x =>dE P x.1 x.2.1 x.2.2⟩ k }
noncomputable def co (n q : Str) (t l c f : Nat) (r : Addr) (b : Bool) (s : Addr) (x : List Value) (u : Nat) : Obj:={ cls:=.type "code",data:=.fields ⟨[.str n t,.str q (t + 1),.str "/claim/cut.py" (t + 2),.int l 0,.int c 0,.int 0 0,.int 0 0,.int f 0,.ref r,.bool b,.int 181 0,.ref s] ++ (x ++ [.int u 0,.int l 0,.str "/claim/cut.py" (u + 1)])⟩ }
noncomputable def fm (c f : Addr) (v : Value) : Obj:={ cls:=.type "frame",slots:=#[some (.ref c),some (.ref 3),some (.ref f),none,some v,none,some (.ref 0)] }
noncomputable def lnO (st : Option Stmt) : Nat:=match st with
 | some (.FunctionDef _ _ _ _ _ _ _ _ _ p) =>p.line
 | some (.ClassDef _ _ _ _ _ _ _ _ _ _ p) =>p.line
 | _ =>0
noncomputable def vsO : List (Str × NameKind) → Tok → List Value
 | (n,.local) :: l,t =>.str n t :: vsO l (t + 1)
 | _ :: l,t =>vsO l t
 | [],_ =>[]
noncomputable def fn (v : Bool) (a : Addr) (t : Tok) (st : Option Stmt) (q : Str) (m d : Value) : List Obj :=
 let s:=scO st
 let vs:=vsO s.names (t + 3)
 let c:=(arO st).args.length
 let i : Obj:={ cls:=.none,data:=.func { name:=nmO st,qualname:=q,params:=arO st,body:=.stmts (bdO st),scope:=s,globals:=0,closure:=[],defaults:=.none,kwdefaults:=.none } }
 tp [] :: fl [] :: match v with
  | true =>[tp vs,tp [],i,co (nmO st) q t (lnO st) c 3 a true (a + 1) [.none,.ref (a + 2),.ref (a + 3),.ref (a + 4)] (t + 3 + vs.length),(fnO (a + 6) st q m d).2]
  | false =>[i,co (nmO st) q t (lnO st) c 3 a true (a + 1) [.none,.none,.none,.ref (a + 2)] (t + 3),(fnO (a + 4) st q m d).2]
noncomputable def fg (v : Bool) (a : Addr) (t : Tok) (i : Nat) (m d : Value) : List Obj:=fn v a t aA[i]? (nmO aA[i]?) m d
noncomputable def en (s : Str) (t : Tok) (v : Value) : Str × Tok × Value:=(s,t,v)
noncomputable def cl (P : Params) (a : Addr) (t : Tok) (i : Nat) (nm : Str) (m : Value) (ba mr : List Value) (nw : String) (ps : List Value) (me : List Obj) (ms : List (Str × Tok × Value)) (sa : List Value) (u : Tok) (de : Nat) (su : List Value) : List Obj :=
 let s:=a + 7 + me.length
 let l:=lnO aA[i]?
 let r : Value:=.ref (s + 2)
 [tp ba,bf "type.__prepare__" (.type "type"),
  dc P ([en "__module__" (t + 7) m,en "__qualname__" (t + 9) (.str nm (t + 8)),en "__firstlineno__" (t + 11) (.int l (t + 10))] ++ (ms ++ [en "__static_attributes__" u (.ref s)])) (ms.length + 4),
  tp [],fl ps,co nm nm (t + 2) l 0 0 (a + 3) false (a + 4) [.none,.none,.none,.none] (t + 5),fm (a + 5) (a + 2) m] ++ (me ++
 ([tp sa,dc P ([en "__module__" (t + 7) m,en "__firstlineno__" (t + 11) (.int l (t + 10))] ++ (ms ++ ([en "__static_attributes__" u (.ref s)] ++ ((match de with | 0 =>[] | 1 =>[en "__weakref__" (u + 2) (.ref (s + 3))] | _ =>[en "__dict__" (u + 2) (.ref (s + 3)),en "__weakref__" (u + 4) (.ref (s + 4))]) ++ [en "__doc__" (u + 1 + 2 * de) .none])))) (de + 2),
  { cls:=.type "type",data:=.cls { name:=nm,bases:=mr.take 1,mro:=r :: mr,ns:=s + 1,qualname:=nm,subclasses:=su },slots:=⟨[match ba with | [] =>none | _ =>some (.ref a),none,some (.str nm t),some (.str nm (t + 8)),some (.builtin nw),some (.bool true)]⟩ }] ++
 ((match de with | 0 =>[] | 1 =>[gt "__weakref__" (u + 1) (s + 2) "ExceptionGroup.__weakref__" .none] | _ =>[gt "__dict__" (u + 1) (s + 2) "function.__dict__" (.builtin "function.__dict__#set"),gt "__weakref__" (u + 3) (s + 2) "ExceptionGroup.__weakref__" .none]) ++
 [{ cls:=.type "super",data:=.fields #[r,r,r] },bf "object.__init_subclass__" r])))
noncomputable def mA : Value:=.str "unicore.base" 187
noncomputable def mB : Value:=.str "unicore.utf8" 309
noncomputable def mC : Value:=.str "unicore.utf16" 432
noncomputable def mD : Value:=.str "law_nt0019_01" 645
noncomputable def eX : List Value:=[.type "Exception",.type "BaseException",.type "object"]
noncomputable def A1 (P : Params) (su : List Value) : List Obj:=cl P 15 205 9 "UniError" mA [.type "Exception"] eX "Exception.__new__" [.int 12 0,.int 4 0,.ref 28] (tp [.none] :: fn true 23 217 (fj aA[9]? 0) "UniError.__init__" mA (.ref 22)) [en "__init__" 224 (.ref 29)] [.str "told" 225] 226 1 su
noncomputable def A2 (P : Params) : List Obj:=cl P 36 234 10 "BadEncoding" mA [.ref 32] (.ref 32 :: eX) "Exception.__new__" [] [] [] [] 246 0 [] ++ cl P 48 250 11 "BadCode" mA [.ref 32] (.ref 32 :: eX) "Exception.__new__" [] [] [] [] 262 0 []
noncomputable def A3 : List Obj:=fg true 60 266 12 mA .none ++ (fg true 67 273 13 mA .none ++ (fg true 74 280 14 mA .none ++ (fg true 81 287 15 mA .none ++ (fg true 88 294 16 mA .none ++ (fg true 95 301 17 mA .none ++ (fg true 102 323 25 mB .none ++ (fg true 109 331 26 mB .none ++ (fg true 116 340 27 mB .none ++ (fg true 123 347 28 mB .none ++ (fg true 130 362 29 mB .none ++ fg true 137 374 30 mB .none))))))))))
noncomputable def A4 (P : Params) : List Obj:=cl P 144 386 31 "Utf8Stream" mB [] [.type "object"] "object.__new__" [.int 100 0,.int 4 0,.ref 157,.int 105 0,.int 4 0,.ref 165] (tp [.bool false] :: fn true 152 398 (fj aA[31]? 0) "Utf8Stream.__init__" mB (.ref 151) ++ (tp [.bool false] :: fn true 160 406 (fj aA[31]? 1) "Utf8Stream.feed" mB (.ref 159))) [en "__init__" 405 (.ref 158),en "feed" 420 (.ref 166)] [.str "is_strict" 421,.str "place" 422,.str "waiting" 423] 424 2 [] ++
 (fg true 174 440 36 mC .none ++ (fg true 181 450 37 mC .none ++ (fg true 188 458 38 mC .none ++ (fg true 195 466 39 mC .none ++ (tp [.str "be" 434,.bool false] :: fg true 203 475 40 mC (.ref 202) ++ (fg true 210 486 41 mC .none ++ (fg true 217 497 42 mC .none ++ (tp [.none] :: fg true 225 505 43 mC (.ref 224)))))))))
noncomputable def A5 (P : Params) : List Obj:=cl P 232 517 44 "Utf16Stream" mC [] [.type "object"] "object.__new__" [.int 172 0,.int 4 0,.ref 245,.int 178 0,.int 4 0,.ref 252,.int 182 0,.int 4 0,.ref 260] (tp [.none,.bool true] :: fn true 240 529 (fj aA[44]? 0) "Utf16Stream.__init__" mC (.ref 239) ++ (fn true 247 538 (fj aA[44]? 1) "Utf16Stream.is_lacking" mC .none ++ (tp [.bool false] :: fn true 255 549 (fj aA[44]? 2) "Utf16Stream.feed" mC (.ref 254)))) [en "__init__" 537 (.ref 246),en "is_lacking" 548 (.ref 253),en "feed" 564 (.ref 261)] [.str "is_strict" 565,.str "left" 566,.str "order" 567,.str "used" 568] 569 2 [] ++
 (tp [.str "be" 434,.bool false] :: fg true 270 577 45 mC (.ref 269) ++ (fg true 277 589 46 mC .none ++ (fg true 284 600 47 mC .none ++ (tp [.none] :: fg true 292 608 48 mC (.ref 291) ++ (fg false 299 621 49 mC .none ++ (fg true 304 627 50 mC .none ++ (fg true 311 636 51 mC .none)))))))
noncomputable def A6 : List Obj:=(fg false 318 649 54 mD .none ++ (fg true 323 655 55 mD .none ++ (fg true 330 665 56 mD .none ++ (fg true 337 676 57 mD .none ++ (fg false 344 686 58 mD .none ++ (fg false 349 692 59 mD .none ++ (fg true 354 698 60 mD .none ++ (fg true 361 707 61 mD .none ++ (fg false 368 721 62 mD .none ++ (fg true 373 727 63 mD .none ++ (fg false 380 744 64 mD .none ++ fg false 385 750 65 mD .none)))))))))))
noncomputable def d3 (P : Params) (k : Nat) (m : Value) : Obj:=match Kd P with
 | (_,{ data:=.dict ⟨_ :: l⟩ _,.. }) :: _ =>{ cls:=.type "dict",data:=.dict ⟨dE P "__name__" 165 m :: l.take (k - 1)⟩ k }
 | _ =>default
noncomputable def pF : List Nat → List Value
 | a :: b :: l =>.int a 0 :: .int 0 0 :: .ref b :: pF l
 | _ =>[]
noncomputable def pL : List Nat:=[10,20,14,41,16,53,18,65,20,72,22,79,24,86,26,93,28,100,39,107,48,114,55,121,65,128,82,135,91,142,98,149,122,179,133,186,135,193,137,200,139,208,144,215,157,222,163,230,170,237,196,275,203,282,213,289,219,297,229,302,234,309,239,316,246,321,261,328,269,335,279,342,288,347,294,352,305,359,312,366,322,371,325,378,337,383,354,388]
noncomputable def o4 (j : Nat) : List Obj:=[tp [],fl (pF (pL.take j)),co "<module>" "<module>" 182 1 0 0 11 false 12 [.none,.none,.none,.none] 185,fm 13 3 (.str "__main__" 164)]
noncomputable def b0 (P : Params) (k : Nat) (m : Value) (j : Nat) : List Obj :=
 [boot_o_0 P,boot_o_1 P,{ cls:=.none,data:=.dict #[dE P "type.__subclasses__.Exception.0" 230 (.int 32 0),dE P "type.__subclasses__.Exception.n" 231 (.int 1 0)] 2 },d3 P k m,boot_o_4 P,boot_o_5 P,boot_o_6 P,boot_o_7 P,boot_o_8 P,boot_o_9 P,boot_o_10 P] ++ o4 j
noncomputable def eM : List Obj → Nat → BT → BT
 | [],_,t =>t
 | o :: l,n,t =>eM l (n + 1) (t.ins n o)
noncomputable abbrev sT (T : BT) (n k : Nat) (os : OsState) : SharedT:=⟨T,n,{},#[],boot_drawn,k,os⟩
noncomputable def T0 (P : Params) : BT:=eM (o4 0) 11 (eM (boot_heap P).objs.toList 0 .nil)
noncomputable def T1 (P : Params) : BT:=eM (b0 P 18 mA 2 ++ A1 P []) 0 .nil
noncomputable def T2 (P : Params) : BT:=eM (b0 P 20 mA 6 ++ (A1 P [.ref 45,.ref 57] ++ A2 P)) 0 .nil
noncomputable def T3 (P : Params) : BT:=eM (b0 P 38 mB 30 ++ (A1 P [.ref 45,.ref 57] ++ (A2 P ++ A3))) 0 .nil
noncomputable def T4 (P : Params) : BT:=eM (b0 P 50 mC 48 ++ (A1 P [.ref 45,.ref 57] ++ (A2 P ++ (A3 ++ A4 P)))) 0 .nil
noncomputable def T5 (P : Params) : BT:=eM (b0 P 58 mC 64 ++ (A1 P [.ref 45,.ref 57] ++ (A2 P ++ (A3 ++ (A4 P ++ A5 P))))) 0 .nil
noncomputable def L6 (P : Params) : List Obj:=b0 P 71 mD 100 ++ (A1 P [.ref 45,.ref 57] ++ (A2 P ++ (A3 ++ (A4 P ++ (A5 P ++ A6)))))
noncomputable def T6 (P : Params) : BT:=eM (L6 P) 0 .nil
noncomputable def H1 (P : Params) : Heap:=⟨⟨L6 P⟩,{}⟩
noncomputable abbrev pw : Program:=PySem.Challenge.pw_nt0019_01
noncomputable def eE : Env:={ scope:=pw.main.scope,locals:=mainNs,globals:=mainNs,cells:=[],code:=.ref 13,frame:=some 14 }
noncomputable abbrev cE : Code:=.body aA eE
noncomputable abbrev nA : Option Value:=some (.ref 6)
noncomputable abbrev q0 : Pos:=⟨0,0,0,0⟩
theorem st0  (w : World) (os : OsState) : topGo treeTable pw w 11 nA 12 ⟨boot_heap w.params,#[],boot_drawn,181,os⟩ (topStub pw) = some ((sT (T0 w.params) 15 187 os).abs,⟨denote treeTable cE,cE,q0,[topFrame q0]⟩):=by kernel_rfl
theorem st1  (w : World) (os : OsState) : segRun treeTable pw w 11 nA 1 1 (sT (T0 w.params) 15 187 os).abs (blockOf aA eE cE q0 [topFrame q0]) = some (.next,(sT (T0 w.params) 15 187 os).abs,cE,q0):=by kernel_rfl
noncomputable abbrev q1 : Pos:=⟨10,0,13,24⟩
noncomputable abbrev q2 : Pos:=⟨16,0,17,8⟩
noncomputable abbrev q3 : Pos:=⟨91,0,97,16⟩
noncomputable abbrev q4 : Pos:=⟨163,0,169,16⟩
noncomputable abbrev q5 : Pos:=⟨239,0,243,25⟩
noncomputable abbrev q6 : Pos:=⟨354,0,361,115⟩
noncomputable abbrev pc (l : List Stmt) (q : Pos) : Thread:=piecesOf l eE cE q [topFrame q0]
noncomputable def l1 : List Stmt:=aA.take 10
noncomputable def l2 : List Stmt:=(aA.drop 10).take 2
noncomputable def l3 : List Stmt:=(aA.drop 12).take 19
noncomputable def l4 : List Stmt:=(aA.drop 31).take 13
noncomputable def l5 : List Stmt:=(aA.drop 44).take 8
noncomputable def l6 : List Stmt:=aA.drop 52
theorem sg1 (w : World) (os : OsState) : segRunT treeTable pw w 11 nA 1 1000 (sT (T0 w.params) 15 187 os) (pc l1 q0) = some (.next,sT (T1 w.params) 36 234 os,cE,q1):=by kernel_rfl
theorem sg2 (w : World) (os : OsState) : segRunT treeTable pw w 11 nA 1 1000 (sT (T1 w.params) 36 234 os) (pc l2 q1) = some (.next,sT (T2 w.params) 60 266 os,cE,q2):=by kernel_rfl
theorem sg3 (w : World) (os : OsState) : segRunT treeTable pw w 11 nA 1 1000 (sT (T2 w.params) 60 266 os) (pc l3 q2) = some (.next,sT (T3 w.params) 144 386 os,cE,q3):=by kernel_rfl
theorem sg4 (w : World) (os : OsState) : segRunT treeTable pw w 11 nA 1 1000 (sT (T3 w.params) 144 386 os) (pc l4 q3) = some (.next,sT (T4 w.params) 232 517 os,cE,q4):=by kernel_rfl
theorem sg5 (w : World) (os : OsState) : segRunT treeTable pw w 11 nA 1 1000 (sT (T4 w.params) 232 517 os) (pc l5 q4) = some (.next,sT (T5 w.params) 318 645 os,cE,q5):=by kernel_rfl
theorem sg6 (w : World) (os : OsState) : segRunT treeTable pw w 11 nA 1 1000 (sT (T5 w.params) 318 645 os) (pc l6 q5) = some (.next,sT (T6 w.params) 390 756 os,cE,q6):=by kernel_rfl
theorem st2 (w : World) (os : OsState) : topRun treeTable pw w 11 nA 2 (sT (T6 w.params) 390 756 os).abs ⟨doneF .next,cE,q6,[topFrame q0]⟩ = some ⟨H1 w.params,#[],boot_drawn,756,os⟩:=by kernel_rfl
noncomputable abbrev fS (w : World) (os : OsState) : Shared:=⟨H1 w.params,#[],boot_drawn,756,os⟩
theorem lk1 (w : World) (os : OsState) : (staticsOk (importedModules pw.main.body) (boot_heap w.params) (H1 w.params) && namesBound pw (H1 w.params) && gensDone (fS w os) && laidKept (boot_heap w.params) (H1 w.params)) = true:=by kernel_rfl
theorem lk2 (w : World) (os : OsState) : openSeen vw loose (importedModules pw.main.body) (fun s =>xlAt vw [] s && recOk [] s) true (fS w os) = openGood vw loose:=by kernel_rfl
theorem lk3 (w : World) : Ka.map (H1 w.params).get? = (Kd w.params).map fun p =>some p.2:=by kernel_rfl
theorem bod {N : Nat} {w : World} {s r : Shared} {q : Pos} (k : topRun treeTable pw w 11 nA N s (restOf (l1 ++ (l2 ++ (l3 ++ (l4 ++ (l5 ++ (l6 ++ [])))))) eE cE q [topFrame q0]) = some r) : topRun treeTable pw w 11 nA N s (restOf aA eE cE q [topFrame q0]) = some r:=by
 rw [show aA = l1 ++ (l2 ++ (l3 ++ (l4 ++ (l5 ++ (l6 ++ []))))) by kernel_rfl]
 exact k
theorem run_ok (w : World) (os : OsState) : topRun treeTable pw w 11 nA (12 + (1 + (1000 + (1000 + (1000 + (1000 + (1000 + (1000 + 2)))))))) ⟨boot_heap w.params,#[],boot_drawn,181,os⟩ (topStub pw) = some (fS w os) :=
 go_top (st0 w os) (piece_block (st1 w os) (bod (piece_app (segRun_of (sg1 w os)) (piece_app (segRun_of (sg2 w os)) (piece_app (segRun_of (sg3 w os)) (piece_app (segRun_of (sg4 w os)) (piece_app (segRun_of (sg5 w os)) (piece_app (segRun_of (sg6 w os)) (st2 w os)))))))))
end MineR
end
section
set_option maxHeartbeats 8000000
namespace Mine
open PySem PySem.W PyProof.Rows MineR
theorem left : LeftO pw vw loose (fun s =>xlAt vw [] s && recOk [] s) (fun s =>Ka.map s.heap.get?) (fun w =>(Kd w.params).map fun p =>some p.2) 20000 :=
 LeftO.of_pieces (H₀:=boot_heap) (H₁:=H1) (gs₁:=#[]) (d₁:=boot_drawn) (k₁:=756) (boot_open rfl (by rfl) fun _ =>rfl) (fun w =>by kernel_rfl) run_ok (by rfl) fun w =>funext fun os =>looks_pair (lk1 w os) (looks_pair (lk2 w os) (lk3 w))
end Mine
end
section
namespace Mine
open PySem
inductive V where
 | none | bool (b : Bool) | int (i : Int) | str (s : Str) | bytes (ks : List Int) | list (xs : List V) | tup (xs : List V)
inductive AV where
 | val (v : V) | own (xs : List V) | inst (C : Str) (fl : List (Str × V))
noncomputable abbrev Gam:=List (Str × AV)
noncomputable abbrev lid : Nat:=1048576
structure Ge where
 cst : Str → Option V
 fn : Str → List V → List (Str × V) → Option V
 pm : Str → Str → List V → Option V
 cls : Str → List V → Option (List (Str × V))
 flds : Str → List Str
 mth : Str → Str → List (Str × V) → List V → Option (V × List (Str × V))
inductive Fl where
 | next (g : Gam) | brk (g : Gam) | ret (v : V) (g : Gam)
noncomputable def ae {α : Type} (x : Str) (a : α) : List (Str × α) → List (Str × α)
 | [] =>[(x,a)]
 | (y,b) :: r =>if y == x then (y,a) :: r else (y,b) :: ae x a r
noncomputable def dbg (x : Str) : Bool:=x == ("__debug__" : Str) || x == ("__classdict__" : Str) || x == (".0" : Str)
noncomputable def ax (sc : Scope) (x : Str) : Bool:=!dbg x && (sc.names.lookup x == some .local || sc.names.lookup x == some .cell || sc.names.lookup x == some .free)
noncomputable def fk (sc : Scope) (x : Str) : Bool:=!dbg x && x != ("self" : Str) && (sc.names.lookup x == some .local || sc.names.lookup x == some .cell)
noncomputable def isVal : AV → Bool
 | .val _ =>true
 | _ =>false
noncomputable def br (sc : Scope) (x : Str) : Bool:=!dbg x && sc.names.lookup x == some .globalImplicit
noncomputable def V.tru : V → Option Bool
 | .bool b =>some b
 | _ =>Option.none
noncomputable def small (a : Int) : Bool:=a.natAbs < 1073741824
noncomputable def eo (v : V) : Option Int:=if h : v.ctorIdx = 2 then V.int.elim (motive_1:=fun _ =>Option Int) v h some else .none
noncomputable def aW (v : V) : Option (List V):=if h : v.ctorIdx = 5 then V.list.elim (motive_1:=fun _ =>Option (List V)) v h some else .none
noncomputable def fT (v : V) : Option (List Int):=if h : v.ctorIdx = 4 then V.bytes.elim (motive_1:=fun _ =>Option (List Int)) v h some else .none
noncomputable def strOf (v : V) : Option Str:=if h : v.ctorIdx = 3 then V.str.elim (motive_1:=fun _ =>Option Str) v h some else .none
noncomputable def tupV (v : V) : Option (List V):=if h : v.ctorIdx = 6 then V.tup.elim (motive_1:=fun _ =>Option (List V)) v h some else .none
noncomputable def one {α : Type} : List α → Option α
 | [] =>.none
 | a :: r =>match r with
  | [] =>some a
  | _ :: _ =>.none
noncomputable def int2 (a b : V) (K : Int → Int → Option V) : Option V:=(eo a).bind fun x =>(eo b).bind fun y =>K x y
noncomputable def addV (a b : V) : Option V:=match a with
 | .int x =>(eo b).bind fun y =>some (.int (x + y))
 | .bytes x =>(fT b).bind fun y =>if x.length + y.length ≤ lid then some (.bytes (x ++ y)) else .none
 | .list x =>(aW b).bind fun y =>if x.length + y.length ≤ lid then some (.list (x ++ y)) else .none
 | .str x =>(strOf b).bind fun y =>if x.length + y.length ≤ lid then some (.str (x ++ y)) else .none
 | _ =>.none
noncomputable def mulV (a b : V) : Option V:=match a with
 | .int x =>(eo b).bind fun y =>if (small x && small y) = true then some (.int (x * y)) else .none
 | .list xs =>(one xs).bind fun z =>(eo z).bind fun c =>(eo b).bind fun y =>if 0 ≤ y ∧ y ≤ 1 then some (.list (List.replicate y.toNat (.int c))) else .none
 | _ =>.none
noncomputable def ag (op : Operator) (a b : V) : Option V:=match op with
 | .Add =>addV a b
 | .Sub =>int2 a b fun a b =>some (.int (a - b))
 | .Mult =>mulV a b
 | .FloorDiv =>int2 a b fun a b =>if b ≠ 0 ∧ small b = true then some (.int (a.fdiv b)) else .none
 | .Mod =>int2 a b fun a b =>if b ≠ 0 then some (.int (a.fmod b)) else .none
 | .Pow =>int2 a b fun a b =>if 0 ≤ b ∧ b ≤ 64 ∧ small a = true then some (.int (a ^ b.toNat)) else .none
 | .LShift =>int2 a b fun a b =>if 0 ≤ b ∧ b ≤ 64 ∧ small a = true then some (.int (a * 2 ^ b.toNat)) else .none
 | .RShift =>int2 a b fun a b =>if 0 ≤ b then some (.int (a.fdiv (2 ^ b.toNat))) else .none
 | .BitAnd =>int2 a b fun a b =>some (.int (Builtin.bitAnd a b))
 | .BitOr =>int2 a b fun a b =>some (.int (Builtin.bitOr a b))
 | _ =>.none
noncomputable def eqI (a b : V) : Option Bool:=match a with
 | .int x =>(eo b).map (x == ·)
 | .str x =>(strOf b).map (x == ·)
 | .bytes x =>(fT b).map (x == ·)
 | _ =>.none
noncomputable def eqVs : List V → List V → Option Bool
 | [],_ =>some true
 | a :: r,l =>match l with
  | [] =>some true
  | b :: s =>(eqI a b).bind fun x =>(eqVs r s).bind fun y =>some (x && y)
noncomputable def eqV (a b : V) : Option Bool:=match a with
 | .list xs =>(aW b).bind fun ys =>if xs.length = ys.length then eqVs xs ys else some false
 | .tup xs =>(tupV b).bind fun ys =>if xs.length = ys.length then eqVs xs ys else .none
 | _ =>eqI a b
noncomputable def aw : V → Bool
 | .none =>true
 | _ =>false
noncomputable def intB (a b : V) (K : Int → Int → Bool) : Option Bool:=(eo a).bind fun x =>(eo b).bind fun y =>some (K x y)
noncomputable def ap (op : CmpOp) (a b : V) : Option Bool:=match op with
 | .Eq =>eqV a b
 | .NotEq =>(eqV a b).map (!·)
 | .Lt =>intB a b fun a b =>decide (a < b)
 | .LtE =>intB a b fun a b =>decide (a ≤ b)
 | .Gt =>intB a b fun a b =>decide (b < a)
 | .GtE =>intB a b fun a b =>decide (b ≤ a)
 | .Is =>cond (aw b) (some (aw a)) .none
 | .IsNot =>cond (aw b) (some (!aw a)) .none
 | _ =>.none
noncomputable def gk : V → Option Nat
 | .bytes ks =>if ks.length ≤ lid then some ks.length else .none
 | .list xs =>if xs.length ≤ lid then some xs.length else .none
 | _ =>.none
noncomputable def aH {α : Type} (l : List α) (i : Int) : Option α :=
 if 0 ≤ i then (if i < l.length then l[i.toNat]? else .none)
 else if -(l.length : Int) ≤ i then l[(i + l.length).toNat]? else .none
noncomputable def itemK (a : V) (i : Int) : Option V:=match a with
 | .bytes ks =>if ks.length ≤ lid then (aH ks i).map .int else .none
 | .list xs =>if xs.length ≤ lid then aH xs i else .none
 | .tup xs =>if xs.length ≤ lid then aH xs i else .none
 | _ =>.none
noncomputable def al (a j : V) : Option V:=(eo j).bind (itemK a)
noncomputable def clip (n : Nat) (i : Int) : Nat:=if i < 0 then (i + n).toNat else min i.toNat n
noncomputable def cut {α : Type} (l : List α) (lo hi : Option Int) : List α :=
 (l.drop (lo.elim 0 (clip l.length))).take (hi.elim l.length (clip l.length) - lo.elim 0 (clip l.length))
noncomputable def ay : Option V → Option (Option Int)
 | Option.none =>some Option.none
 | some (.int i) =>if i.natAbs < 4611686018427387904 then some (some i) else .none
 | _ =>.none
noncomputable def aq : V → Option Int → Option Int → Option V
 | .bytes ks,lo,hi =>if ks.length ≤ lid then some (.bytes (cut ks lo hi)) else .none
 | .list xs,lo,hi =>if xs.length ≤ lid then some (.list (cut xs lo hi)) else .none
 | _,_,_ =>.none
noncomputable def revV : V → Option V
 | .bytes ks =>if ks.length ≤ lid then some (.bytes ks.reverse) else .none
 | .list xs =>if xs.length ≤ lid then some (.list xs.reverse) else .none
 | _ =>.none
noncomputable def constV : Const → Option V
 | .none =>some .none
 | .bool b =>some (.bool b)
 | .int i =>some (.int i)
 | .str s =>some (.str s)
 | .bytes b =>some (.bytes (b.map fun c =>(c.toNat : Int)))
 | _ =>Option.none
noncomputable def gm : List V → Option (List Int)
 | [] =>some []
 | .int i :: r =>(gm r).map (i :: ·)
 | _ =>Option.none
noncomputable def eH : List V → Option (List (List Int))
 | [] =>some []
 | .bytes b :: r =>(eH r).map (b :: ·)
 | _ =>Option.none
noncomputable def insI (a : Int) : List Int → List Int
 | [] =>[a]
 | b :: r =>if a ≤ b then a :: b :: r else b :: insI a r
noncomputable def dU : List Int → List Int
 | [] =>[]
 | a :: r =>insI a (dU r)
noncomputable def compOk (sc csc : Scope) (x : Str) : Bool :=
 csc.kind == .function && x != ("self" : Str) && csc.names.all (fun p =>p.2 != .cell && (p.2 != .local || ((p.1 == x || p.1 == (".0" : Str)) && csc.names.lookup p.1 == some .local)) && (p.2 != .free || sc.names.lookup p.1 == some .cell || sc.names.lookup p.1 == some .free))
  && csc.names.lookup x == some .local
noncomputable def bJ (pa p : Pos) : Bool:=pa.endLine == p.line
noncomputable def listV (v : V) : Option V:=(aW v).elim ((fT v).bind fun ks =>if ks.length ≤ lid then some (.list (ks.map .int)) else .none) fun xs =>if xs.length ≤ lid then some (.list xs) else .none
noncomputable def aj (f : Str) (vs : List V) : Option V :=
 if f == "len" then (one vs).bind fun v =>(gk v).map fun (n : Nat) =>V.int n
 else if f == "bytes" then (one vs).bind fun v =>(aW v).bind fun xs =>(gm xs).bind fun ns =>if ns.length ≤ lid ∧ ∀ n ∈ ns,0 ≤ n ∧ n < 256 then some (.bytes ns) else .none
 else if f == "list" then (one vs).bind listV
 else if f == "sorted" then (one vs).bind fun v =>(aW v).bind fun xs =>(gm xs).bind fun ns =>if ns.length ≤ 60 then some (.list ((dU ns).map .int)) else .none
 else if f == "int" then (one vs).bind fun v =>(eo v).map .int
 else if f == "tuple" then (one vs).bind fun v =>(tupV v).map .tup
 else .none
noncomputable def dH (a b : Int) : List V:=(List.range (b - a).toNat).map fun (k : Nat) =>.int (a + k)
noncomputable def dR (a b c : Int) : List V:=(List.range (if a < b then (b - a - 1) / c + 1 else 0).toNat).map fun (k : Nat) =>.int (a + k * c)
noncomputable def dD : Nat → List V → List V
 | _,[] =>[]
 | k,x :: r =>.tup [.int k,x] :: dD (k + 1) r
noncomputable def rngV : List Int → Option (List V)
 | [] =>.none
 | a :: r =>match r with
  | [] =>if (decide (a ≤ lid) && small a) = true then some (dH 0 a) else .none
  | b :: r =>match r with
   | [] =>if (small a && decide (b ≤ lid) && small b) = true then some (dH a b) else .none
   | c :: r =>match r with
    | [] =>if (small a && decide (b ≤ lid) && small b && decide (1 ≤ c) && decide (c ≤ 64)) = true then some (dR a b c) else .none
    | _ :: _ =>.none
noncomputable def bM (f : Str) (vs : List V) : Option (List V):=if f == "range" then (gm vs).bind rngV else .none
noncomputable def ao : V → Option (List V)
 | .list xs =>if xs.length ≤ lid then some xs else .none
 | .tup xs =>if xs.length ≤ lid then some xs else .none
 | .bytes ks =>if ks.length ≤ lid then some (ks.map .int) else .none
 | _ =>.none
noncomputable def aN (e : Expr) : Option Str:=if h : e.ctorIdx = 23 then Expr.Name.elim (motive_1:=fun _ =>Option Str) e h (fun x _ =>some x) else .none
noncomputable def cW (e : Expr) : Option (List Expr):=if h : e.ctorIdx = 25 then Expr.Tuple.elim (motive_1:=fun _ =>Option (List Expr)) e h (fun es _ _ =>some es) else .none
noncomputable def kwV : List Keyword → Option (List (Str × Expr))
 | [] =>some []
 | k :: r =>k.arg.bind fun n =>(kwV r).map ((n,k.value) :: ·)
noncomputable def gu (sc : Scope) (x : Str) (av : AV) : Bool:=fk sc x && (isVal av || sc.names.lookup x == some .local)
noncomputable def cS (sc : Scope) : List Str → List AV → Bool
 | [],[] =>true
 | x :: xs,a :: as =>gu sc x a && cS sc xs as
 | _,_ =>false
noncomputable def fb : List Str → List AV → Gam → Gam
 | x :: xs,a :: as,g =>fb xs as (ae x a g)
 | _,_,g =>g
noncomputable def az {α β : Type} (f : α → Option β) : List α → Option (List β)
 | [] =>some []
 | a :: r =>match f a with
  | some b =>(az f r).map (b :: ·)
  | .none =>.none
noncomputable def cg (sc : Scope) (e : Expr) (v : V) (g : Gam) : Option Gam:=match aN e with
 | some x =>if fk sc x = true then some (ae x (.val v) g) else .none
 | .none =>(cW e).bind fun ts =>(tupV v).bind fun vs =>(az aN ts).bind fun xs =>if cS sc xs (vs.map .val) = true then some (fb xs (vs.map .val) g) else .none
noncomputable def valsOf : List AV → Option (List V)
 | [] =>some []
 | .val v :: r =>(valsOf r).map (v :: ·)
 | _ =>.none
noncomputable def aR (f : V → Option (Option V)) : List V → Option (List V)
 | [] =>some []
 | x :: r =>match f x with
  | some (some y) =>(aR f r).map (y :: ·)
  | some .none =>aR f r
  | .none =>.none
noncomputable def cInt (c : Const) : Option Int:=if h : c.ctorIdx = 2 then Const.int.elim (motive:=fun _ =>Option Int) c h some else .none
noncomputable def intLit (e : Expr) : Option Int:=if h : e.ctorIdx = 19 then Expr.Constant.elim (motive_1:=fun _ =>Option Int) e h (fun c _ _ =>cInt c) else .none
noncomputable def eR (o : Option Expr) : Option Int:=o.bind intLit
noncomputable def seqF (o : Option Fl) (k : Gam → Option Fl) : Option Fl:=o.bind fun fl =>match fl with
 | .next g =>k g
 | .brk g =>some (.brk g)
 | .ret v g =>some (.ret v g)
noncomputable def iteO {α : Type} (o : Option Bool) (a b : Option α) : Option α:=match o with
 | some c =>cond c a b
 | .none =>.none
noncomputable def ah (o : Option AV) : Option V:=match o with
 | some a =>(match a with
  | .val v =>some v
  | _ =>.none)
 | .none =>.none
noncomputable def orO {α : Type} (a b : Option α) : Option α:=match a with
 | some a =>some a
 | .none =>b
noncomputable def dQ (o : Option AV) : Option (List V):=match o with
 | some a =>(match a with
  | .own v =>some v
  | _ =>.none)
 | .none =>.none
noncomputable def cz (o : Option AV) : Option (Str × List (Str × V)):=match o with
 | some a =>(match a with
  | .inst C fl =>some (C,fl)
  | _ =>.none)
 | .none =>.none
noncomputable def boundO {α : Type} (l : List α) (v : V) : Option V:=if l.length ≤ lid then some v else .none
noncomputable def fldO (G : Ge) (f : Str) (o : Option AV) : Option V:=(cz o).bind fun cf =>if (G.flds cf.1).contains f = true then cf.2.lookup f else .none
noncomputable def subK (o : Option (List V)) (v : Option V) (j : V) : Option V:=match o with
 | some xs =>al (.list xs) j
 | .none =>v.bind fun w =>al w j
noncomputable def joinV (xs : List V) : Option V:=(eH xs).bind fun bs =>if bs.flatten.length ≤ lid ∧ xs.length ≤ lid then some (.bytes bs.flatten) else .none
noncomputable def eS (sc : Scope) (g : Gam) (e : Expr) : Option (List V):=(aN e).bind fun x =>if ax sc x = true then dQ (g.lookup x) else .none
noncomputable def lenOwn (f : Str) (sc : Scope) (g : Gam) (es : List Expr) : Option V:=if f == ("len" : Str) then (one es).bind fun e =>(eS sc g e).bind fun xs =>(gk (.list xs)).map fun (k : Nat) =>.int k else .none
noncomputable def callG (G : Ge) (f : Str) (vs : List V) (kvs : List (Str × V)) : Option V:=orO (G.fn f vs kvs) (if kvs.isEmpty = true then aj f vs else .none)
noncomputable def dictG (ks : List Int) (vs : List V) (j : V) : Option V:=(eo j).bind fun j =>if ks.length = vs.length ∧ 1 ≤ ks.length ∧ ks.length ≤ 8 ∧ ks.Nodup then (ks.zip vs).lookup j else .none
noncomputable def dctOf (e : Expr) : Option (List (Option Expr) × List Expr):=if h : e.ctorIdx = 6 then Expr.Dict.elim (motive_1:=fun _ =>Option (List (Option Expr) × List Expr)) e h (fun ks vs _ =>some (ks,vs)) else .none
noncomputable def dT (e : Expr) : Option (Option Expr × Option Expr × Option Expr):=if h : e.ctorIdx = 26 then Expr.Slice.elim (motive_1:=fun _ =>Option (Option Expr × Option Expr × Option Expr)) e h (fun lo hi st _ =>some (lo,hi,st)) else .none
noncomputable def negOf (e : Expr) : Option Expr:=if h : e.ctorIdx = 3 then Expr.UnaryOp.elim (motive_1:=fun _ =>Option Expr) e h (fun op a _ =>if op = .USub then some a else .none) else .none
noncomputable def isRev (lo hi : Option Expr) (st : Expr) : Bool:=lo.isNone && (hi.isNone && (negOf st).bind intLit == some 1)
noncomputable def isEB (c : Const) : Bool:=if h : c.ctorIdx = 6 then Const.bytes.elim (motive:=fun _ =>Bool) c h (fun b =>b.isEmpty) else false
noncomputable def isEBE (e : Expr) : Bool:=if h : e.ctorIdx = 19 then Expr.Constant.elim (motive_1:=fun _ =>Bool) e h (fun c _ _ =>isEB c) else false
noncomputable def compOf (gens : List Comprehension) : Option (Str × Expr × List Expr):=(one gens).bind fun c =>match c with
 | ⟨t,it,ifs,k⟩ =>if k = 0 then (aN t).map fun y =>(y,it,ifs) else .none
noncomputable def bI (e : Expr) : Option (Str × List Expr):=if h : e.ctorIdx = 16 then Expr.Call.elim (motive_1:=fun _ =>Option (Str × List Expr)) e h (fun f es ks _ =>if ks.isEmpty = true then (aN f).map fun x =>(x,es) else .none) else .none
noncomputable def attrOf (e : Expr) : Option (Str × Str × Pos):=if h : e.ctorIdx = 20 then Expr.Attribute.elim (motive_1:=fun _ =>Option (Str × Str × Pos)) e h (fun v m pa =>(aN v).map fun x =>(x,m,pa)) else .none
noncomputable def eV (e : Expr) : Option ((Str × Str × Pos) × List Expr × Pos):=if h : e.ctorIdx = 16 then Expr.Call.elim (motive_1:=fun _ =>Option ((Str × Str × Pos) × List Expr × Pos)) e h (fun f es ks p =>if ks.isEmpty = true then (attrOf f).map fun a =>(a,es,p) else .none) else .none
mutual
noncomputable def ev : Nat → Ge → Scope → Gam → Expr → Option V
 | 0,_,_,_,_ =>.none
 | n + 1,G,sc,g,e =>match e with
  | .Constant c _ _ =>constV c
  | .Name x _ =>if ax sc x = true then ah (g.lookup x) else if br sc x = true then G.cst x else .none
  | .BinOp a op b _ =>(ev n G sc g a).bind fun x =>(ev n G sc g b).bind fun y =>ag op x y
  | .UnaryOp op a _ =>(match op with
   | .USub =>(intLit a).map fun i =>.int (-i)
   | .Not =>(ev n G sc g a).bind fun x =>x.tru.map fun b =>.bool !b
   | _ =>.none)
  | .BoolOp op es _ =>evB n G sc g op es
  | .Compare a ops es _ =>(if lastMarks ops es = true then .none else ev n G sc g a).bind fun x =>(evC n G sc g x ops es).map .bool
  | .IfExp t a b _ =>iteO (evT n G sc g t) (ev n G sc g a) (ev n G sc g b)
  | .List es _ =>(az (ev n G sc g) es).bind fun vs =>boundO vs (.list vs)
  | .Tuple es _ _ =>(az (ev n G sc g) es).bind fun vs =>boundO vs (.tup vs)
  | .Attribute v f _ =>(aN v).bind fun x =>if ax sc x = true then fldO G f (g.lookup x) else .none
  | .Subscript a i _ =>(match dctOf a with
   | some kv =>(az eR kv.1).bind fun kl =>(az (ev n G sc g) kv.2).bind fun vl =>(ev n G sc g i).bind fun j =>dictG kl vl j
   | .none =>(match dT i with
    | some s =>(match s.2.2 with
     | .none =>(ev n G sc g a).bind fun x =>(evO n G sc g s.1).bind fun l =>(evO n G sc g s.2.1).bind fun h =>aq x l h
     | some st =>if isRev s.1 s.2.1 st = true then (ev n G sc g a).bind revV else .none)
    | .none =>(ev n G sc g i).bind fun j =>subK (eS sc g a) (ev n G sc g a) j))
  | .Call f es ks p =>(match f with
   | .Name f _ =>if br sc f = true then (match az (ev n G sc g) es with
    | some vs =>(kwV ks).bind fun kes =>(az (fun (p : Str × Expr) =>(ev n G sc g p.2).map fun v =>(p.1,v)) kes).bind fun kvs =>callG G f vs kvs
    | .none =>if ks.isEmpty = true then lenOwn f sc g es else .none) else .none
   | .Attribute b m pa =>if ks.isEmpty = true then (match aN b with
    | some x =>if (ax sc x && bJ pa p && decide (es.length < 20)) = true then (cz (g.lookup x)).bind fun cf =>(az (ev n G sc g) es).bind fun vs =>if (cf.2.lookup m).isNone = true then G.pm cf.1 m vs else .none else .none
    | .none =>if (isEBE b && (m == ("join" : Str) && bJ pa p)) = true then (one es).bind fun e =>((ev n G sc g e).bind aW).bind joinV else .none) else .none
   | _ =>.none)
  | .ListComp elt gens csc _ =>(compOf gens).bind fun c =>if compOk sc csc c.1 = true then (evI n G sc g c.2.1).bind fun xs =>if xs.length ≤ lid then (aR (fun x =>(evIfs n G csc (ae c.1 (.val x) g) c.2.2).bind fun b =>cond b ((ev n G csc (ae c.1 (.val x) g) elt).map some) (some .none)) xs).map .list else .none else .none
  | _ =>.none
noncomputable def evT : Nat → Ge → Scope → Gam → Expr → Option Bool
 | 0,_,_,_,_ =>.none
 | n + 1,G,sc,g,e =>match e with
  | .UnaryOp op a p =>(match op with
   | .Not =>(evT n G sc g a).map (!·)
   | op =>(ev n G sc g (.UnaryOp op a p)).bind V.tru)
  | .BoolOp op es _ =>evA n G sc g op es
  | .IfExp t a b _ =>iteO (evT n G sc g t) (evT n G sc g a) (evT n G sc g b)
  | .Compare a ops es _ =>(if lastMarks ops es = true then .none else ev n G sc g a).bind fun x =>evC n G sc g x ops es
  | e =>(ev n G sc g e).bind V.tru
noncomputable def evB : Nat → Ge → Scope → Gam → BoolOp → List Expr → Option V
 | 0,_,_,_,_,_ =>.none
 | n + 1,G,sc,g,op,es =>match es with
  | [] =>.none
  | e :: r =>(match r with
   | [] =>ev n G sc g e
   | _ :: _ =>(ev n G sc g e).bind fun v =>v.tru.bind fun b =>(match op with
    | .And =>cond b (evB n G sc g .And r) (some v)
    | .Or =>cond b (some v) (evB n G sc g .Or r)))
noncomputable def evA : Nat → Ge → Scope → Gam → BoolOp → List Expr → Option Bool
 | 0,_,_,_,_,_ =>.none
 | n + 1,G,sc,g,op,es =>match es with
  | [] =>some (op == .And)
  | e :: r =>(evT n G sc g e).bind fun b =>(match op with
   | .And =>cond b (evA n G sc g .And r) (some false)
   | .Or =>cond b (some true) (evA n G sc g .Or r))
noncomputable def evC : Nat → Ge → Scope → Gam → V → List CmpOp → List Expr → Option Bool
 | 0,_,_,_,_,_,_ =>.none
 | n + 1,G,sc,g,x,ops,es =>match ops with
  | [] =>.none
  | op :: ops =>(match es with
   | [] =>.none
   | e :: es =>(ev n G sc g e).bind fun y =>(ap op x y).bind fun b =>(match ops with
    | [] =>(match es with
     | [] =>some b
     | _ :: _ =>.none)
    | _ :: _ =>(match es with
     | [] =>.none
     | _ :: _ =>cond b (evC n G sc g y ops es) (some false))))
noncomputable def evO : Nat → Ge → Scope → Gam → Option Expr → Option (Option Int)
 | 0,_,_,_,_ =>.none
 | n + 1,G,sc,g,o =>match o with
  | .none =>some .none
  | some e =>(ev n G sc g e).bind fun v =>ay (some v)
noncomputable def evI : Nat → Ge → Scope → Gam → Expr → Option (List V)
 | 0,_,_,_,_ =>.none
 | n + 1,G,sc,g,e =>match bI e with
  | some c =>if (br sc c.1 && c.1 == ("range" : Str)) = true then (az (ev n G sc g) c.2).bind (bM c.1) else (ev n G sc g e).bind ao
  | .none =>(ev n G sc g e).bind ao
noncomputable def evIfs : Nat → Ge → Scope → Gam → List Expr → Option Bool
 | 0,_,_,_,_ =>.none
 | n + 1,G,sc,g,es =>match es with
  | [] =>some true
  | e :: r =>(match r with
   | [] =>evT n G sc g e
   | _ :: _ =>.none)
end
noncomputable def ownB (v : V) : Option AV:=(fT v).bind fun ks =>if ks.length ≤ lid then some (.own (ks.map .int)) else .none
noncomputable def isNilL (e : Expr) : Bool:=if h : e.ctorIdx = 24 then Expr.List.elim (motive_1:=fun _ =>Bool) e h (fun es _ =>es.isEmpty) else false
noncomputable def clsK (G : Ge) (C : Str) (vs : Option (List V)) (r : Option V) : Option AV:=orO (vs.bind fun vs =>(G.cls C vs).map fun fl =>.inst C fl) (r.map .val)
noncomputable def evR (n : Nat) (G : Ge) (sc : Scope) (g : Gam) (o : Bool) (e : Expr) : Option AV :=
 if (o && isNilL e) = true then some (.own []) else match bI e with
  | some c =>if o = true then (if (c.1 == ("list" : Str) && br sc c.1 && (G.fn c.1 [] []).isNone) = true then (one c.2).bind fun a =>(ev n G sc g a).bind ownB else .none)
   else clsK G c.1 (if br sc c.1 = true then az (ev n G sc g) c.2 else .none) (ev n G sc g e)
  | .none =>(ev n G sc g e).map .val
noncomputable def valO : AV → Option V
 | .val v =>some v
 | _ =>.none
noncomputable def setFld (G : Ge) (x f : Str) (v : V) (g : Gam) (cf : Str × List (Str × V)) : Option Gam:=if ((G.flds cf.1).contains f && decide (cf.2.length < 900)) = true then some (ae x (.inst cf.1 (ae f v cf.2)) g) else .none
noncomputable def asg (G : Ge) (sc : Scope) (t : Expr) (av : AV) (g : Gam) : Option Gam:=match t with
 | .Name x _ =>if gu sc x av = true then some (ae x av g) else .none
 | .Attribute b f _ =>(aN b).bind fun x =>(valO av).bind fun v =>if ax sc x = true then (cz (g.lookup x)).bind (setFld G x f v g) else .none
 | _ =>.none
noncomputable def asgs (G : Ge) (sc : Scope) : List Expr → List V → Gam → Option Gam
 | [],[],g =>some g
 | t :: ts,a :: as,g =>(asg G sc t (.val a) g).bind (asgs G sc ts as)
 | _,_,_ =>.none
noncomputable def thaw : Gam → Gam
 | [] =>[]
 | (x,.own xs) :: r =>(x,.val (.list xs)) :: thaw r
 | p :: r =>p :: thaw r
theorem thV {x : Str} {v : V} {r : Gam} : thaw ((x,.val v) :: r) = (x,.val v) :: thaw r:=rfl
theorem thO {x : Str} {v : List V} {r : Gam} : thaw ((x,.own v) :: r) = (x,.val (.list v)) :: thaw r:=rfl
theorem thI {x C : Str} {v : List (Str × V)} {r : Gam} : thaw ((x,.inst C v) :: r) = (x,.inst C v) :: thaw r:=rfl
noncomputable def fQ (test : Gam → Option Bool) (body : Gam → Option Fl) : Nat → Gam → Option Fl
 | 0,_ =>.none
 | k + 1,g =>match test g with
  | some true =>match body g with
   | some (.next g') =>fQ test body k g'
   | some (.brk g') =>some (.next g')
   | some (.ret v g') =>some (.ret v g')
   | .none =>.none
  | some false =>some (.next g)
  | .none =>.none
noncomputable def forV (bind : V → Gam → Option Gam) (body : Gam → Option Fl) : List V → Gam → Option Fl
 | [],g =>some (.next g)
 | x :: r,g =>match bind x g with
  | some g' =>match body g' with
   | some (.next g'') =>forV bind body r g''
   | some (.brk g'') =>some (.next g'')
   | some (.ret v g'') =>some (.ret v g'')
   | .none =>.none
  | .none =>.none
noncomputable def ez (mu : List Str) (e : Expr) : Bool:=(aN e).any mu.contains
noncomputable def swOk (es : List Expr) : Bool:=!es.all (constantsAlone 8) || es.all (foldedForSure 8)
noncomputable def methK (m x : Str) (g : Gam) (xs vs : List V) : Option Fl :=
 if m == ("append" : Str) then (one vs).bind fun v =>if xs.length < lid then some (.next (ae x (.own (xs ++ [v])) g)) else .none
 else if m == ("extend" : Str) then (one vs).bind fun v =>(aW v).bind fun ys =>if xs.length + ys.length ≤ lid then some (.next (ae x (.own (xs ++ ys)) g)) else .none
 else if m == ("reverse" : Str) then (if vs.isEmpty = true then (if xs.length ≤ lid then some (.next (ae x (.own xs.reverse) g)) else .none) else .none)
 else .none
noncomputable def gf (G : Ge) (sc : Scope) (ts : List Expr) (as : List AV) (g : Gam) : Option Fl:=match az aN ts with
 | some xs =>if (cS sc xs as && decide xs.Nodup) = true then some (.next (fb xs as g)) else .none
 | .none =>(valsOf as).bind fun vs =>(asgs G sc ts vs g).map .next
noncomputable def feedK (G : Ge) (x o m : Str) (g : Gam) (ys : Option (List V)) (vs : Option (List V)) : Option Fl :=
 (cz (g.lookup o)).bind fun cf =>ys.bind fun ys =>vs.bind fun vs =>(if (cf.2.lookup m).isNone = true then G.mth cf.1 m cf.2 vs else .none).bind fun r =>(aW r.1).bind fun zs =>
  if ys.length + zs.length ≤ lid then some (.next (ae x (.val (.list (ys ++ zs))) (ae o (.inst cf.1 r.2) g))) else .none
noncomputable def addOf (e : Expr) : Option (Expr × Expr):=if h : e.ctorIdx = 2 then Expr.BinOp.elim (motive_1:=fun _ =>Option (Expr × Expr)) e h (fun a op b _ =>if op = .Add then some (a,b) else .none) else .none
noncomputable def fy (sc : Scope) (x : Str) (e : Expr) : Option (Expr × Str × Str × List Expr):=(addOf e).bind fun yc =>(aN yc.1).bind fun _ =>(bI yc.2).bind fun le =>(one le.2).bind fun a =>(eV a).bind fun om =>
 if (le.1 == ("list" : Str) && bJ om.1.2.2 om.2.2 && decide (om.2.1.length < 20) && x != om.1.1 && fk sc x && br sc le.1 && ax sc om.1.1) = true then some (yc.1,om.1.1,om.1.2.1,om.2.1) else .none
noncomputable def name2 (t : Expr) : Bool:=match cW t with
 | some ts =>ts.length == 2 && (az aN ts).isSome
 | .none =>false
noncomputable def gB (sc : Scope) (t it : Expr) : Option Expr:=if name2 t = true then (bI it).bind fun c =>if (br sc c.1 && c.1 == ("enumerate" : Str)) = true then one c.2 else .none else .none
mutual
noncomputable def ex : Nat → Ge → Scope → List Str → Stmt → Gam → Option Fl
 | 0,_,_,_,_,_ =>.none
 | n + 1,G,sc,mu,st,g =>match st with
  | .Return o _ =>o.bind fun e =>(ev n G sc (thaw g) e).map fun v =>.ret v (thaw g)
  | .Break _ =>some (.brk g)
  | .If t a b _ =>iteO (evT n G sc g t) (exs n G sc mu a g) (exs n G sc mu b g)
  | .While t b e _ =>if e.isEmpty = true then fQ (evT n G sc · t) (exs n G sc mu b) 65536 g else .none
  | .For t it b e _ =>if e.isEmpty = true then (match gB sc t it with
   | some a =>((ev n G sc g a).bind aW).bind fun xs =>if xs.length ≤ lid then forV (cg sc t) (exs n G sc mu b) (dD 0 xs) g else .none
   | .none =>(evI n G sc g it).bind fun xs =>forV (cg sc t) (exs n G sc mu b) xs g) else .none
  | .Expr e _ =>(match eV e with
   | some c =>if (ax sc c.1.1 && bJ c.1.2.2 c.2.2) = true then (dQ (g.lookup c.1.1)).bind fun xs =>(az (ev n G sc g) c.2.1).bind fun vs =>methK c.1.2.1 c.1.1 g xs vs else .none
   | .none =>(bI e).bind fun _ =>(ev n G sc g e).bind fun v =>if aw v = true then some (.next g) else .none)
  | .Assign ts e _ =>(one ts).bind fun t =>(match cW t with
   | some us =>(match cW e with
    | some es =>if (us.length = es.length && swOk es && es.length ≤ 30) = true then (az (fun (p : Expr × Expr) =>evR n G sc g (ez mu p.1) p.2) (us.zip es)).bind fun as =>gf G sc us as g else .none
    | .none =>(ev n G sc g e).bind fun v =>(cg sc t v g).map .next)
   | .none =>(match (aN t).bind fun x =>(fy sc x e).map fun f =>(x,f) with
    | some f =>feedK G f.1 f.2.2.1 f.2.2.2.1 g ((ev n G sc g f.2.1).bind aW) (az (ev n G sc g) f.2.2.2.2)
    | .none =>(evR n G sc g (ez mu t) e).bind fun a =>(asg G sc t a g).map .next))
  | _ =>.none
noncomputable def exs : Nat → Ge → Scope → List Str → List Stmt → Gam → Option Fl
 | 0,_,_,_,_,_ =>.none
 | n + 1,G,sc,mu,ss,g =>match ss with
  | [] =>some (.next g)
  | s :: r =>seqF (ex n G sc mu s g) (exs n G sc mu r)
end
theorem cx {α ρ : Type} {o : Option α} {K : α → Option ρ} {r : ρ} (h : o.bind K = some r) : ∃ a,o = some a ∧ K a = some r:=Option.bind_eq_some_iff.mp h
theorem nS {α : Type} {a : α} {P : Prop} (h : Option.none = some a) : P:=nomatch h
theorem nF {P : Prop} (h : false = true) : P:=nomatch h
theorem aa {α ρ : Type} {o : Option α} {K : α → Option ρ} {r : ρ} {P : Prop} (h : o.bind K = some r) (k : ∀ a,o = some a → K a = some r → P) : P:=by
 cases o with
 | none =>cases h
 | some a =>exact k a rfl h
theorem au {α ρ : Type} {o : Option α} {K : α → ρ} {r : ρ} {P : Prop} (h : o.map K = some r) (k : ∀ a,o = some a → K a = r → P) : P:=by
 cases o with
 | none =>cases h
 | some a =>exact k a rfl (oj h)
theorem aE {α : Type} {c : Bool} {o : Option α} {r : α} {P : Prop} (h : (if c = true then o else Option.none) = some r) (k : c = true → o = some r → P) : P:=by
 cases c
 ·cases h
 ·exact k rfl h
theorem aL {α : Type} {p : Prop} [Decidable p] {o : Option α} {r : α} {P : Prop} (h : (if p then o else Option.none) = some r) (k : p → o = some r → P) : P:=by
 by_cases c : p
 ·rw [if_pos c] at h; exact k c h
 ·rw [if_neg c] at h; cases h
theorem map_some' {α ρ : Type} {o : Option α} {K : α → ρ} {r : ρ} (h : o.map K = some r) : ∃ a,o = some a ∧ K a = r:=Option.map_eq_some_iff.mp h
theorem ite_some' {α : Type} {c : Bool} {o : Option α} {r : α} (h : (if c = true then o else Option.none) = some r) : c = true ∧ o = some r:=by
 cases c
 ·cases h
 ·exact ⟨rfl,h⟩
theorem ite_somep {α : Type} {p : Prop} [Decidable p] {o : Option α} {r : α} (h : (if p then o else Option.none) = some r) : p ∧ o = some r:=by
 by_cases c : p
 ·rw [if_pos c] at h; exact ⟨c,h⟩
 ·rw [if_neg c] at h; cases h
theorem gG {α : Type} {o : Option Bool} {a b : Option α} {r : α} (h : iteO o a b = some r) : ∃ c,o = some c ∧ cond c a b = some r:=by
 cases o with
 | none =>cases h
 | some c =>exact ⟨c,rfl,h⟩
theorem cI {α : Type} {p : Prop} [Decidable p] {f : p → α} {d r : α} {P : Prop} (h : (if c : p then f c else d) = r) (n : d = r → P) (k : ∀ c : p,f c = r → P) : P:=by
 by_cases c : p
 ·rw [dif_pos c] at h; exact k c h
 ·rw [dif_neg c] at h; exact n h
theorem bd {v : V} {i : Int} (h : eo v = some i) : v = .int i:=cI h nS fun c h2 =>V.int.elim (motive_1:=fun v =>∀ c,V.int.elim (motive_1:=fun _ =>Option Int) v c some = some i → v = .int i) v c (fun _ _ hh =>congrArg V.int (oj hh)) c h2
theorem bp {v : V} {i : List V} (h : aW v = some i) : v = .list i:=cI h nS fun c h2 =>V.list.elim (motive_1:=fun v =>∀ c,V.list.elim (motive_1:=fun _ =>Option (List V)) v c some = some i → v = .list i) v c (fun _ _ hh =>congrArg V.list (oj hh)) c h2
theorem cc {v : V} {i : List Int} (h : fT v = some i) : v = .bytes i:=cI h nS fun c h2 =>V.bytes.elim (motive_1:=fun v =>∀ c,V.bytes.elim (motive_1:=fun _ =>Option (List Int)) v c some = some i → v = .bytes i) v c (fun _ _ hh =>congrArg V.bytes (oj hh)) c h2
theorem gi {v : V} {i : List V} (h : tupV v = some i) : v = .tup i:=cI h nS fun c h2 =>V.tup.elim (motive_1:=fun v =>∀ c,V.tup.elim (motive_1:=fun _ =>Option (List V)) v c some = some i → v = .tup i) v c (fun _ _ hh =>congrArg V.tup (oj hh)) c h2
theorem fe {v : V} {i : Str} (h : strOf v = some i) : v = .str i:=cI h nS fun c h2 =>V.str.elim (motive_1:=fun v =>∀ c,V.str.elim (motive_1:=fun _ =>Option Str) v c some = some i → v = .str i) v c (fun _ _ hh =>congrArg V.str (oj hh)) c h2
theorem bh {α : Type} {l : List α} {a : α} (h : one l = some a) : l = [a]:=by
 cases l with
 | nil =>cases h
 | cons b r =>cases r with
  | nil =>obtain rfl:=oj h; rfl
  | cons c r =>cases h
theorem aT {e : Expr} {x : Str} (h : aN e = some x) : ∃ p,e = .Name x p:=cI h nS fun c h2 =>Expr.Name.elim (motive_1:=fun e =>∀ c,Expr.Name.elim (motive_1:=fun _ =>Option Str) e c _ = _ → ∃ p,e = .Name x p) e c (fun y p _ hh =>⟨p,congrArg (Expr.Name · p) (oj hh)⟩) c h2
theorem valOf_some {o : Option AV} {v : V} (h : ah o = some v) : o = some (.val v):=by
 cases o with
 | none =>cases h
 | some a =>cases a <;> cases h; rfl
theorem eW {o : Option AV} {v : List V} (h : dQ o = some v) : o = some (.own v):=by
 cases o with
 | none =>cases h
 | some a =>cases a <;> cases h; rfl
theorem dP {o : Option AV} {cf : Str × List (Str × V)} (h : cz o = some cf) : o = some (.inst cf.1 cf.2):=by
 cases o with
 | none =>cases h
 | some a =>cases a <;> cases h; rfl
theorem cInt_some {v : Const} {i : Int} (h : cInt v = some i) : v = .int i:=cI h nS fun c h2 =>Const.int.elim (motive:=fun v =>∀ c,Const.int.elim (motive:=fun _ =>Option Int) v c some = some i → v = .int i) v c (fun _ _ hh =>congrArg Const.int (oj hh)) c h2
theorem fF {e : Expr} {i : Int} (h : intLit e = some i) : ∃ k p,e = .Constant (.int i) k p:=cI h nS fun c h2 =>Expr.Constant.elim (motive_1:=fun e =>∀ c,Expr.Constant.elim (motive_1:=fun _ =>Option Int) e c _ = _ → ∃ k p,e = .Constant (.int i) k p) e c (fun y k p _ hh =>⟨k,p,congrArg (Expr.Constant · k p) (cInt_some hh)⟩) c h2
theorem dctOf_some {e : Expr} {kv : List (Option Expr) × List Expr} (h : dctOf e = some kv) : ∃ p,e = .Dict kv.1 kv.2 p:=cI h nS fun c h2 =>Expr.Dict.elim (motive_1:=fun e =>∀ c,Expr.Dict.elim (motive_1:=fun _ =>Option (List (Option Expr) × List Expr)) e c _ = _ → ∃ p,e = .Dict kv.1 kv.2 p) e c (fun a b p _ hh =>⟨p,congrArg (fun z : List (Option Expr) × List Expr =>Expr.Dict z.1 z.2 p) (oj hh)⟩) c h2
theorem sliceOf_some {e : Expr} {s : Option Expr × Option Expr × Option Expr} (h : dT e = some s) : ∃ p,e = .Slice s.1 s.2.1 s.2.2 p:=cI h nS fun c h2 =>Expr.Slice.elim (motive_1:=fun e =>∀ c,Expr.Slice.elim (motive_1:=fun _ =>Option (Option Expr × Option Expr × Option Expr)) e c _ = _ → ∃ p,e = .Slice s.1 s.2.1 s.2.2 p) e c (fun a b d p _ hh =>⟨p,congrArg (fun z : Option Expr × Option Expr × Option Expr =>Expr.Slice z.1 z.2.1 z.2.2 p) (oj hh)⟩) c h2
theorem negOf_some {e a : Expr} (h : negOf e = some a) : ∃ p,e = .UnaryOp .USub a p:=cI h nS fun c h2 =>Expr.UnaryOp.elim (motive_1:=fun e =>∀ c,Expr.UnaryOp.elim (motive_1:=fun _ =>Option Expr) e c _ = _ → ∃ p,e = .UnaryOp .USub a p) e c (fun o b p _ hh =>aL (show (if o = .USub then some b else Option.none) = some a from hh) fun e1 e2 =>⟨p,by rw [e1,oj e2]⟩) c h2
theorem isRev_true {lo hi : Option Expr} {st : Expr} (h : isRev lo hi st = true) : lo = .none ∧ hi = .none ∧ ∃ k p1 p2,st = .UnaryOp .USub (.Constant (.int 1) k p1) p2:=by
 unfold isRev at h
 simp only [Bool.and_eq_true,Bool.and_eq_true] at h
 refine bc fun hN =>?_
 refine aa (beq_iff_eq.mp h.2.2) fun a h1 h2 =>?_
 obtain ⟨p,rfl⟩:=negOf_some h1
 obtain ⟨k,q,rfl⟩:=fF h2
 refine hN ?_; clear hN
 exact ⟨Option.isNone_iff_eq_none.mp h.1,Option.isNone_iff_eq_none.mp h.2.1,k,q,p,rfl⟩
theorem isEB_true {v : Const} (h : isEB v = true) : v = .bytes []:=cI h nF fun c h2 =>Const.bytes.elim (motive:=fun v =>∀ c,Const.bytes.elim (motive:=fun _ =>Bool) v c (fun b =>b.isEmpty) = true → v = .bytes []) v c (fun b _ hh =>congrArg Const.bytes (List.isEmpty_iff.mp hh)) c h2
theorem isEBE_true {e : Expr} (h : isEBE e = true) : ∃ k p,e = .Constant (.bytes []) k p:=cI h nF fun c h2 =>Expr.Constant.elim (motive_1:=fun e =>∀ c,Expr.Constant.elim (motive_1:=fun _ =>Bool) e c _ = _ → ∃ k p,e = .Constant (.bytes []) k p) e c (fun y k p _ hh =>⟨k,p,congrArg (Expr.Constant · k p) (isEB_true hh)⟩) c h2
theorem compOf_some {gens : List Comprehension} {c : Str × Expr × List Expr} (h : compOf gens = some c) : ∃ p,gens = [⟨.Name c.1 p,c.2.1,c.2.2,0⟩]:=by
 refine bc fun hN =>?_
 refine aa h fun d h1 h2 =>?_
 refine hN ?_; clear hN
 rw [bh h1]
 obtain ⟨t,it,ifs,k⟩:=d
 refine aL h2 fun hEqq0 h2 =>?_
 subst hEqq0
 refine au h2 fun y h3 hEqq2 =>?_
 subst hEqq2
 obtain ⟨p,rfl⟩:=aT h3
 exact ⟨p,rfl⟩
theorem dg {e : Expr} {d : Str × List Expr} (h : bI e = some d) : ∃ p q,e = .Call (.Name d.1 p) d.2 [] q:=cI h nS fun i h2 =>Expr.Call.elim (motive_1:=fun e =>∀ c,Expr.Call.elim (motive_1:=fun _ =>Option (Str × List Expr)) e c _ = _ → ∃ p q,e = .Call (.Name d.1 p) d.2 [] q) e i (fun f es ks q _ hh =>aE (show (if ks.isEmpty = true then (aN f).map fun x =>(x,es) else Option.none) = some d from hh) fun h1 h2 =>au h2 fun x h3 e =>by
  subst e
  obtain ⟨p,rfl⟩:=aT h3
  rw [List.isEmpty_iff.mp h1]
  exact ⟨p,q,rfl⟩) i h2
theorem attrOf_some {e : Expr} {d : Str × Str × Pos} (h : attrOf e = some d) : ∃ q,e = .Attribute (.Name d.1 q) d.2.1 d.2.2:=cI h nS fun c h2 =>Expr.Attribute.elim (motive_1:=fun e =>∀ c,Expr.Attribute.elim (motive_1:=fun _ =>Option (Str × Str × Pos)) e c _ = _ → ∃ q,e = .Attribute (.Name d.1 q) d.2.1 d.2.2) e c (fun v m pa _ hh =>au (show (aN v).map (fun x =>(x,m,pa)) = some d from hh) fun x h3 e =>by
  subst e
  obtain ⟨p,rfl⟩:=aT h3
  exact ⟨p,rfl⟩) c h2
theorem methOf_some {e : Expr} {d : (Str × Str × Pos) × List Expr × Pos} (h : eV e = some d) : ∃ q,e = .Call (.Attribute (.Name d.1.1 q) d.1.2.1 d.1.2.2) d.2.1 [] d.2.2:=cI h nS fun i h2 =>Expr.Call.elim (motive_1:=fun e =>∀ c,Expr.Call.elim (motive_1:=fun _ =>Option ((Str × Str × Pos) × List Expr × Pos)) e c _ = _ → ∃ q,e = .Call (.Attribute (.Name d.1.1 q) d.1.2.1 d.1.2.2) d.2.1 [] d.2.2) e i (fun f es ks q _ hh =>aE (show (if ks.isEmpty = true then (attrOf f).map fun a =>(a,es,q) else Option.none) = some d from hh) fun h1 h2 =>au h2 fun x h3 e =>by
  subst e
  obtain ⟨p,rfl⟩:=attrOf_some h3
  rw [List.isEmpty_iff.mp h1]
  exact ⟨p,rfl⟩) i h2
theorem ff {e : Expr} {ts : List Expr} (h : cW e = some ts) : ∃ k p,e = .Tuple ts k p:=cI h nS fun c h2 =>Expr.Tuple.elim (motive_1:=fun e =>∀ c,Expr.Tuple.elim (motive_1:=fun _ =>Option (List Expr)) e c _ = _ → ∃ k p,e = .Tuple ts k p) e c (fun a k p _ hh =>⟨k,p,congrArg (Expr.Tuple · k p) (oj hh)⟩) c h2
theorem addOf_some {e : Expr} {ab : Expr × Expr} (h : addOf e = some ab) : ∃ p,e = .BinOp ab.1 .Add ab.2 p:=cI h nS fun c h2 =>Expr.BinOp.elim (motive_1:=fun e =>∀ c,Expr.BinOp.elim (motive_1:=fun _ =>Option (Expr × Expr)) e c _ = _ → ∃ p,e = .BinOp ab.1 .Add ab.2 p) e c (fun a o b p _ hh =>aL (show (if o = .Add then some (a,b) else Option.none) = some ab from hh) fun e1 e2 =>⟨p,by rw [e1,← oj e2]⟩) c h2
theorem isNilL_true {e : Expr} (h : isNilL e = true) : ∃ p,e = .List [] p:=cI h nF fun c h2 =>Expr.List.elim (motive_1:=fun e =>∀ c,Expr.List.elim (motive_1:=fun _ =>Bool) e c _ = _ → ∃ p,e = .List [] p) e c (fun a p _ hh =>⟨p,congrArg (Expr.List · p) (List.isEmpty_iff.mp hh)⟩) c h2
theorem intsV_inv : ∀ {vs : List V} {ns : List Int},gm vs = some ns → vs = ns.map .int
 | [],ns,e =>by obtain rfl:=oj e; rfl
 | v :: r,ns,e =>by
  cases v with
  | int i =>
   refine au e fun ms e1 e2 =>?_
   subst e2
   rw [intsV_inv e1]; rfl
  | _ =>exact nS e
end Mine
end
section
namespace Mine
open PySem PySem.W PyProof.Rows PySem.Calls PySem.SeqAt
inductive HT (s s' : Shared) : Prop
 | mk (h' : Heap) (t : Nat) (e : s' = { s with heap:=h',toks:=t }) : HT s s'
inductive RSeq (P : Addr → Array Value → Prop) (R : List Value → Prop) (v : Value) : Prop
 | mk (a : Addr) (us : List Value) (e : v = .ref a) (h : P a us.toArray) (r : R us) : RSeq P R v
inductive RCons (R : Value → Prop) (T : List Value → Prop) (us : List Value) : Prop
 | mk (v : Value) (r : List Value) (e : us = v :: r) (h : R v) (t : T r) : RCons R T us
mutual
noncomputable def Rep (h : Heap) : V → Value → Prop
 | .none,v =>v = .none
 | .bool b,v =>v = .bool b
 | .int i,v =>∃ t,v = .int i t
 | .str x,v =>∃ t,v = .str x t
 | .bytes ks,v =>∃ b t,v = .bytes b t ∧ KBw.bInts b = ks
 | .list xs,v =>RSeq h.IsList (Reps h xs) v
 | .tup xs,v =>RSeq (IsTup h) (Reps h xs) v
noncomputable def Reps (h : Heap) : List V → List Value → Prop
 | [],us =>us = []
 | x :: xs,us =>RCons (Rep h x) (Reps h xs) us
end
noncomputable def aI (h h' : Heap) : Prop:=∀ b o,h.get? b = some o → (∃ items n,o.data = .seq items n) → h'.get? b = some o
theorem aI.of {h h' : Heap} (k : ∀ b o,h.get? b = some o → h'.get? b = some o) : aI h h':=fun b o e _ =>k b o e
theorem aI.trans {h h' h'' : Heap} (a : aI h h') (b : aI h' h'') : aI h h'':=fun x o e d =>b x o (a x o e d) d
mutual
theorem Rep.mono {h h' : Heap} (k : aI h h') : ∀ {x : V} {v : Value},Rep h x v → Rep h' x v
 | .none,_,r =>r
 | .bool _,_,r =>r
 | .int _,_,r =>r
 | .str _,_,r =>r
 | .bytes _,_,r =>r
 | .list xs,v,r =>by
  unfold Rep at r ⊢
  refine bc fun hN =>?_
  obtain ⟨a,us,e,⟨o,ho,hc,n,hd⟩,hr⟩:=r
  refine hN ?_; clear hN
  exact ⟨a,us,e,⟨o,k a o ho ⟨_,n,hd⟩,hc,n,hd⟩,Reps.mono k hr⟩
 | .tup xs,v,r =>by
  unfold Rep at r ⊢
  refine bc fun hN =>?_
  obtain ⟨a,us,e,⟨o,ho,hc,n,hd⟩,hr⟩:=r
  refine hN ?_; clear hN
  exact ⟨a,us,e,⟨o,k a o ho ⟨_,n,hd⟩,hc,n,hd⟩,Reps.mono k hr⟩
theorem Reps.mono {h h' : Heap} (k : aI h h') : ∀ {xs : List V} {us : List Value},Reps h xs us → Reps h' xs us
 | [],_,r =>by unfold Reps at r ⊢; exact r
 | _ :: _,_,r =>by
  unfold Reps at r ⊢
  refine bc fun hN =>?_
  obtain ⟨v,r',e,h1,h2⟩:=r
  refine hN ?_; clear hN
  exact ⟨v,r',e,Rep.mono k h1,Reps.mono k h2⟩
end
theorem Reps.nil {h : Heap} : Reps h [] []:=by unfold Reps; rfl
theorem Reps.cons {h : Heap} {x : V} {v : Value} {xs : List V} {us : List Value} (a : Rep h x v) (b : Reps h xs us) : Reps h (x :: xs) (v :: us):=by unfold Reps; exact ⟨v,us,rfl,a,b⟩
theorem Reps.length {h : Heap} : ∀ {xs : List V} {us : List Value},Reps h xs us → us.length = xs.length
 | [],_,r =>by unfold Reps at r; subst r; rfl
 | _ :: _,_,r =>by
  unfold Reps at r
  obtain ⟨v,r',rfl,_,h2⟩:=r
  simp [Reps.length h2]
theorem Reps.append {h : Heap} : ∀ {xs : List V} {us : List Value} {ys : List V} {ws : List Value},Reps h xs us → Reps h ys ws → Reps h (xs ++ ys) (us ++ ws)
 | [],_,_,_,a,b =>by unfold Reps at a; subst a; exact b
 | _ :: _,_,_,_,a,b =>by
  unfold Reps at a
  refine bc fun hN =>?_
  obtain ⟨v,r',rfl,h1,h2⟩:=a
  refine hN ?_; clear hN
  exact .cons h1 (Reps.append h2 b)
theorem Reps.get {h : Heap} : ∀ {xs : List V} {us : List Value} {i : Nat} {x : V},Reps h xs us → xs[i]? = some x → ∃ v,us[i]? = some v ∧ Rep h x v
 | [],_,_,_,_,e =>by simp at e
 | _ :: _,_,0,_,r,e =>by
  unfold Reps at r
  refine bc fun hN =>?_
  obtain ⟨v,r',rfl,h1,_⟩:=r
  refine hN ?_; clear hN
  simp only [List.getElem?_cons_zero,Option.some.injEq] at e
  subst e
  exact ⟨v,rfl,h1⟩
 | _ :: _,_,i + 1,_,r,e =>by
  unfold Reps at r
  refine bc fun hN =>?_
  obtain ⟨v,r',rfl,_,h2⟩:=r
  refine hN ?_; clear hN
  simp only [List.getElem?_cons_succ] at e ⊢
  exact Reps.get h2 e
theorem Reps.drop {h : Heap} : ∀ {xs : List V} {us : List Value} (n : Nat),Reps h xs us → Reps h (xs.drop n) (us.drop n)
 | _,_,0,r =>r
 | [],_,n + 1,r =>by unfold Reps at r; subst r; exact .nil
 | _ :: _,_,n + 1,r =>by
  unfold Reps at r
  obtain ⟨v,r',rfl,_,h2⟩:=r
  exact Reps.drop n h2
theorem Reps.take {h : Heap} : ∀ {xs : List V} {us : List Value} (n : Nat),Reps h xs us → Reps h (xs.take n) (us.take n)
 | _,_,0,_ =>.nil
 | [],_,n + 1,r =>by unfold Reps at r; subst r; exact .nil
 | _ :: _,_,n + 1,r =>by
  unfold Reps at r
  refine bc fun hN =>?_
  obtain ⟨v,r',rfl,h1,h2⟩:=r
  refine hN ?_; clear hN
  exact .cons h1 (Reps.take n h2)
theorem Reps.reverse {h : Heap} : ∀ {xs : List V} {us : List Value},Reps h xs us → Reps h xs.reverse us.reverse
 | [],_,r =>by unfold Reps at r; subst r; exact .nil
 | _ :: _,_,r =>by
  unfold Reps at r
  refine bc fun hN =>?_
  obtain ⟨v,r',rfl,h1,h2⟩:=r
  refine hN ?_; clear hN
  simp only [List.reverse_cons,List.reverse_cons]
  exact (Reps.reverse h2).append (.cons h1 .nil)
theorem Reps.ints {h : Heap} : ∀ {xs : List V} {us : List Value} {ns : List Int},Reps h xs us → gm xs = some ns → IntsAre us ns
 | [],_,ns,r,e =>by
  unfold Reps at r; subst r
  obtain rfl:=oj e
  exact .nil
 | x :: xs,_,ns,r,e =>by
  unfold Reps at r
  obtain ⟨v,r',rfl,h1,h2⟩:=r
  cases x with
  | int i =>
   unfold Rep at h1
   obtain ⟨t,rfl⟩:=h1
   refine au e fun ms e1 e2 =>?_
   subst e2
   exact IntsAre.cons i t (Reps.ints h2 e1)
  | _ =>exact nS e
theorem Reps.of_ints {h : Heap} : ∀ {us : List Value} {ns : List Int},IntsAre us ns → Reps h (ns.map .int) us
 | _,_,.nil =>.nil
 | _,_,IntsAre.cons i t r =>Reps.cons (by unfold Rep; exact ⟨t,rfl⟩) (Reps.of_ints r)
noncomputable def HOk (H : List Addr) (h : Heap) : Prop:=∀ a ∈ H,∃ o,h.get? a = some o
theorem HOk.mono {H : List Addr} {h h' : Heap} (x : HOk H h) (k : ∀ b o,h.get? b = some o → h'.get? b = some o) : HOk H h':=fun a m =>let ⟨o,e⟩:=x a m; ⟨o,k a o e⟩
theorem HOk.fresh {H : List Addr} {h : Heap} (x : HOk H h) : h.objs.size ∉ H:=fun m =>by
 obtain ⟨o,e⟩:=x _ m
 exact absurd (Heap.lt_size e) (Nat.lt_irrefl _)
theorem cA {H : List Addr} {h h' : Heap} (k : ∀ b o,h.get? b = some o → h'.get? b = some o) : ∀ b o,(hideAll h H).get? b = some o → (hideAll h' H).get? b = some o:=fun b o e =>by
 refine hideAll_get H (k b o (of_hideAll H e)) fun m =>?_
 rw [hideAll_none H m] at e; exact nS e
theorem hide_sub {H H' : List Addr} {h : Heap} (k : ∀ a ∈ H',a ∈ H) : ∀ b o,(hideAll h H).get? b = some o → (hideAll h H').get? b = some o:=fun b o e =>by
 refine hideAll_get H' (of_hideAll H e) fun m =>?_
 rw [hideAll_none H (k b m)] at e; exact nS e
theorem bq {H : List Addr} {h : Heap} {b : Addr} {o : Obj} (e : (hideAll h H).get? b = some o) : b ∉ H:=fun m =>by
 rw [hideAll_none H m] at e; exact nS e
noncomputable abbrev Kp (s s' : Shared) : Prop:=Keeps s s'
theorem Kp.refl (s : Shared) : Kp s s:=⟨s.heap,s.toks,rfl,fun _ _ e =>e⟩
theorem Kp.trans {s s' s'' : Shared} (a : Kp s s') (b : Kp s' s'') : Kp s s'':=by
 obtain ⟨h,t,rfl,k⟩:=a
 obtain ⟨h',t',rfl,k'⟩:=b
 exact ⟨h',t',rfl,fun x o e =>k' x o (k x o e)⟩
theorem Kp.keep {s s' : Shared} (a : Kp s s') : ∀ b o,s.heap.get? b = some o → s'.heap.get? b = some o:=by
 obtain ⟨h,t,rfl,k⟩:=a
 exact k
theorem Kp.toks {s : Shared} (t : Nat) : Kp s { s with toks:=t }:=⟨s.heap,t,rfl,fun _ _ e =>e⟩
theorem Kp.mk' {s : Shared} {h' : Heap} {t : Nat} (k : ∀ b o,s.heap.get? b = some o → h'.get? b = some o) : Kp s { s with heap:=h',toks:=t }:=⟨h',t,rfl,k⟩
theorem Kp.push {s : Shared} (o : Obj) : Kp s { s with heap:=s.heap.push o }:=⟨s.heap.push o,s.toks,rfl,fun _ _ e =>Heap.get?_push_of_some _ e⟩
theorem Rep.kp {H : List Addr} {s s' : Shared} {x : V} {v : Value} (r : Rep (hideAll s.heap H) x v) (k : Kp s s') : Rep (hideAll s'.heap H) x v:=r.mono (.of (cA k.keep))
theorem Reps.kp {H : List Addr} {s s' : Shared} {x : List V} {v : List Value} (r : Reps (hideAll s.heap H) x v) (k : Kp s s') : Reps (hideAll s'.heap H) x v:=r.mono (.of (cA k.keep))
theorem HOk.kp {H : List Addr} {s s' : Shared} (x : HOk H s.heap) (k : Kp s s') : HOk H s'.heap:=x.mono k.keep
theorem aK {H : List Addr} {h : Heap} {a : Addr} {us : Array Value} (l : (hideAll h H).IsList a us) : h.IsList a us:=let ⟨o,e,r⟩:=l; ⟨o,of_hideAll H e,r⟩
theorem bZ {H : List Addr} {h : Heap} {a : Addr} {us : Array Value} (l : IsTup (hideAll h H) a us) : IsTup h a us:=let ⟨o,e,r⟩:=l; ⟨o,of_hideAll H e,r⟩
theorem cM {H : List Addr} {s : Shared} {xs : List V} {us : List Value} (ho : HOk H s.heap) (r : Reps (hideAll s.heap H) xs us) :
  Rep (hideAll (s.heap.push { cls:=.type "list",data:=.seq us.toArray }) H) (.list xs) (.ref s.heap.objs.size):=by
 unfold Rep
 exact ⟨_,us,rfl,⟨_,hideAll_get H (Heap.get?_push_size _ rfl) ho.fresh,rfl,_,rfl⟩,Reps.kp r (Kp.push _)⟩
theorem rep_new_tup {H : List Addr} {s : Shared} {xs : List V} {us : List Value} (ho : HOk H s.heap) (r : Reps (hideAll s.heap H) xs us) :
  Rep (hideAll (s.heap.push { cls:=.type "tuple",data:=.seq us.toArray }) H) (.tup xs) (.ref s.heap.objs.size):=by
 unfold Rep
 exact ⟨_,us,rfl,⟨_,hideAll_get H (Heap.get?_push_size _ rfl) ho.fresh,rfl,_,rfl⟩,Reps.kp r (Kp.push _)⟩
structure Room (A : Around) (n : Nat) : Prop where
 hh : A.handled = none
 depth : A.depth + n < 600
 units : A.units + 8 * n < 9000
theorem Room.mono {A : Around} {n m : Nat} (r : Room A n) (h : m ≤ n) : Room A m:=⟨r.hh,by have:=r.depth; lia,by have:=r.units; lia⟩
theorem Room.u {A : Around} {n : Nat} (r : Room A n) : A.units + 64 < cLine:=by have:=r.units; show _ < 9900; lia
theorem Room.u' {A : Around} {n : Nat} (r : Room A n) : A.units < cLine:=by have:=r.units; show _ < 9900; lia
theorem Room.d {A : Around} {n : Nat} (r : Room A n) : A.depth < recursionLimit:=by have:=r.depth; show _ < 1000; lia
noncomputable def bo (H : List Addr) (s : Shared) (x : V) (Q : Value → Shared → Prop) : Prop:=∀ u s',Kp s s' → Rep (hideAll s'.heap H) x u → Q u s'
theorem bo.int {H : List Addr} {s : Shared} {i : Int} {Q : Value → Shared → Prop} (q : bo H s (.int i) Q) (t k : Nat) : Q (.int i t) { s with toks:=k }:=q _ _ (Kp.toks k) (by unfold Rep; exact ⟨t,rfl⟩)
theorem bo.int0 {H : List Addr} {s : Shared} {i : Int} {Q : Value → Shared → Prop} (q : bo H s (.int i) Q) (t : Nat) : Q (.int i t) s:=q _ _ (Kp.refl s) (by unfold Rep; exact ⟨t,rfl⟩)
theorem bo.bool {H : List Addr} {s : Shared} {b : Bool} {Q : Value → Shared → Prop} (q : bo H s (.bool b) Q) : Q (.bool b) s:=q _ _ (Kp.refl s) (by unfold Rep; rfl)
theorem bo.none {H : List Addr} {s : Shared} {Q : Value → Shared → Prop} (q : bo H s .none Q) : Q .none s:=q _ _ (Kp.refl s) (by unfold Rep; rfl)
theorem bo.bytes {H : List Addr} {s : Shared} {ks : List Int} {b : Array UInt8} {Q : Value → Shared → Prop} (q : bo H s (.bytes ks) Q) (e : KBw.bInts b = ks) (t k : Nat) : Q (.bytes b t) { s with toks:=k }:=q _ _ (Kp.toks k) (by unfold Rep; exact ⟨b,t,rfl,e⟩)
theorem bo.str {H : List Addr} {s : Shared} {x : Str} {Q : Value → Shared → Prop} (q : bo H s (.str x) Q) (t k : Nat) : Q (.str x t) { s with toks:=k }:=q _ _ (Kp.toks k) (by unfold Rep; exact ⟨t,rfl⟩)
theorem bo.after {H : List Addr} {s s' : Shared} {x : V} {Q : Value → Shared → Prop} (q : bo H s x Q) (k : Kp s s') : bo H s' x Q:=fun u s'' k' r =>q u s'' (k.trans k') r
theorem cL : lid ≤ sizeLine:=by decide
section
variable {prog : Program} {w : World} {A : Around} {E : Value → Shared → Prop} {s : Shared} {H : List Addr} {Q : Value → Shared → Prop}
theorem add_list_ok {xs ys : List V} {u v : Value} (ho : HOk H s.heap) (hx : Rep (hideAll s.heap H) (.list xs) u) (hy : Rep (hideAll s.heap H) (.list ys) v) (hz : xs.length + ys.length ≤ lid)
  (q : bo H s (.list (xs ++ ys)) Q) : wpAny (model prog w) A (binaryOp .Add u v) Q E s:=by
 unfold Rep at hx hy
 refine bc fun hN =>?_
 obtain ⟨l,us,rfl,hl,hr⟩:=hx
 obtain ⟨b,ws,rfl,hb,hr'⟩:=hy
 have hl:=aK hl
 have hb:=aK hb
 obtain ⟨⟨cls,dd,data,sl⟩,h1,hc,n,hd⟩:=id hl
 obtain ⟨⟨cls2,dd2,data2,sl2⟩,h2,hc2,n2,hd2⟩:=id hb
 refine hN ?_; clear hN
 simp only at hc hd hc2 hd2
 subst hc hd hc2 hd2
 have e : us.toArray ++ ws.toArray = (us ++ ws).toArray:=by simp
 have hsz : us.toArray.size + ws.toArray.size ≤ sizeLine:=by
  have:=hr.length; have:=hr'.length; have:=cL
  simp only [List.size_toArray]; lia
 refine concat_meets ⟨_,h1,rfl⟩ ⟨_,h2,rfl⟩ noFill_list_add seq_list_add PySem.F.slot_list_add PySem.F.entry_list_add (PySem.F.args_list_add_2 _ _) (list_addW l b us.toArray ws.toArray n n2 dd dd2 sl sl2 hsz) ⟨h1,h2,?_⟩
 rw [e]
 exact q _ _ (Kp.push _) (cM ho (hr.append hr'))
theorem mul_list_ok {c : Int} {x : Int} {k : Tok} {u : Value} (ho : HOk H s.heap) (hx : Rep (hideAll s.heap H) (.list [.int c]) u) (h0 : 0 ≤ x) (h1 : x ≤ 1)
  (q : bo H s (.list (List.replicate x.toNat (.int c))) Q) : wpAny (model prog w) A (binaryOp .Mult u (.int x k)) Q E s:=by
 unfold Rep at hx
 refine bc fun hN =>?_
 obtain ⟨l,us,rfl,hl,hr⟩:=hx
 have hl:=aK hl
 obtain ⟨⟨cls,d,data,sl⟩,ho1,hcl,n,hd⟩:=id hl
 refine hN ?_; clear hN
 simp only at hcl hd
 subst hcl hd
 have hlen : us.length = 1:=by simpa using hr.length
 have hn : x.toNat ≤ 1:=by lia
 have hsz' : us.toArray.size * x.toNat ≤ 256:=by
  rw [List.size_toArray,hlen]; lia
 have hlong : ¬ Builtin.List.listTooLong (us.toArray.size * x.toNat) = true:=by
  generalize us.toArray.size * x.toNat = N at hsz'
  simp [Builtin.List.listTooLong,sizeLine]
  lia
 refine wpAny_binaryOp_repeat_ref (T:="list") (U:="int") (by decide) ⟨_,ho1,rfl⟩ (fun s' =>typeIs_int s' x k) noFill_list_mul PySem.F.fills_int_mul PySem.F.slot_int_rmul repeat_list PySem.F.slot_int_index.lookup
  (call_meets PySem.F.slot_int_rmul (typeIs_int s x k) PySem.F.entry_int_rmul (PySem.F.args_int_rmul_2 _ _) (lm_int_rmul_list_any x k l us.toArray n d sl)
   ⟨ho1,rfl,⟨_,ho1,rfl⟩,call_meets PySem.F.slot_list_mul ⟨_,ho1,rfl⟩ PySem.F.entry_list_mul (PySem.F.args_list_mul_2 _ _)
    (lm_list_mul_any l us.toArray n d sl x k (by simp [Builtin.List.listFitsIndex]; lia) (by lia) hlong)
    ⟨ho1,?_⟩⟩)
 rw [listMul_foldl_if]
 have hrep : Reps (hideAll s.heap H) (List.replicate x.toNat (.int c)) (List.replicate x.toNat us).flatten:=by
  match hm : x.toNat,hn with
  | 0,_ =>simpa using Reps.nil
  | 1,_ =>simpa using hr
 exact q _ _ (Kp.push _) (cM ho hrep)
theorem cB {a b z : V} {K : Int → Int → Option V} (e : int2 a b K = some z) : ∃ x y,a = .int x ∧ b = .int y ∧ K x y = some z:=by
 refine bc fun hN =>?_
 refine aa e fun x hx e =>?_
 refine aa e fun y hy e =>?_
 refine hN ?_; clear hN
 exact ⟨x,y,bd hx,bd hy,e⟩
theorem aP {h : Heap} {x : Int} {u : Value} (r : Rep h (.int x) u) : ∃ t,u = .int x t:=by unfold Rep at r; exact r
theorem addV_ok {x y z : V} {u v : Value} (e : addV x y = some z) (ho : HOk H s.heap) (hx : Rep (hideAll s.heap H) x u) (hy : Rep (hideAll s.heap H) y v)
  (q : bo H s z Q) : wpAny (model prog w) A (binaryOp .Add u v) Q E s:=by
 cases x with
 | int a =>
  refine aa e fun b hb e =>?_
  obtain rfl:=bd hb
  obtain rfl:=oj e
  obtain ⟨t,rfl⟩:=aP hx
  obtain ⟨t',rfl⟩:=aP hy
  exact wpAny_add_int (q.int _ _)
 | bytes a =>
  refine aa e fun b hb e =>?_
  obtain rfl:=cc hb
  refine aL e fun hz e =>?_
  obtain rfl:=oj e
  unfold Rep at hx hy
  obtain ⟨b,t,rfl,h1⟩:=hx
  obtain ⟨c,t',rfl,h2⟩:=hy
  exact KBa.add_K h1 h2 (Nat.le_trans hz (by decide)) fun t' k h' =>q.bytes h' t' k
 | list a =>
  refine aa e fun b hb e =>?_
  obtain rfl:=bp hb
  refine aL e fun hz e =>?_
  obtain rfl:=oj e
  exact add_list_ok ho hx hy hz q
 | str a =>
  refine aa e fun b hb e =>?_
  obtain rfl:=fe hb
  refine aL e fun hz e =>?_
  obtain rfl:=oj e
  unfold Rep at hx hy
  obtain ⟨t,rfl⟩:=hx
  obtain ⟨t',rfl⟩:=hy
  exact PyProof.Rows.add_str (fun t' k =>q.str t' k) (Nat.le_trans hz cL)
 | _ =>cases e
theorem mulV_ok {x y z : V} {u v : Value} (e : mulV x y = some z) (ho : HOk H s.heap) (hx : Rep (hideAll s.heap H) x u) (hy : Rep (hideAll s.heap H) y v)
  (q : bo H s z Q) : wpAny (model prog w) A (binaryOp .Mult u v) Q E s:=by
 cases x with
 | int a =>
  refine aa e fun b hb e =>?_
  obtain rfl:=bd hb
  refine aL e fun hz e =>?_
  obtain rfl:=oj e
  obtain ⟨t,rfl⟩:=aP hx
  obtain ⟨t',rfl⟩:=aP hy
  simp only [small,Bool.and_eq_true,decide_eq_true_eq] at hz
  exact PySem.P.mul_int (q.int _ _) (IntMulOk.of_left (intBits_le (by lia)))
 | list a =>
  refine aa e fun b hb e =>?_
  obtain rfl:=bh hb
  refine aa e fun c hc e =>?_
  obtain rfl:=bd hc
  refine aa e fun d hd e =>?_
  obtain rfl:=bd hd
  refine aL e fun hz e =>?_
  obtain rfl:=oj e
  obtain ⟨t',rfl⟩:=aP hy
  exact mul_list_ok ho hx hz.1 hz.2 q
 | _ =>cases e
theorem binV_ok {op : Operator} {x y z : V} {u v : Value} (e : ag op x y = some z) (ho : HOk H s.heap) (hx : Rep (hideAll s.heap H) x u) (hy : Rep (hideAll s.heap H) y v)
  (q : bo H s z Q) : wpAny (model prog w) A (binaryOp op u v) Q E s:=by
 cases op with
 | Add =>exact addV_ok e ho hx hy q
 | Mult =>exact mulV_ok e ho hx hy q
 | Sub =>
  refine bc fun hN =>?_
  obtain ⟨a,b,rfl,rfl,e⟩:=cB e
  obtain ⟨t,rfl⟩:=aP hx
  obtain ⟨t',rfl⟩:=aP hy
  refine hN ?_; clear hN
  obtain rfl:=oj e
  exact PyProof.Rows.sub_int' (q.int _ _)
 | FloorDiv =>
  refine bc fun hN =>?_
  obtain ⟨a,b,rfl,rfl,e⟩:=cB e
  obtain ⟨t,rfl⟩:=aP hx
  obtain ⟨t',rfl⟩:=aP hy
  refine aL e fun hz e =>?_
  refine hN ?_; clear hN
  obtain rfl:=oj e
  exact PyProof.Rows.floordiv_int hz.1 (q.int _ _) (Or.inl (PyProof.noPylong_small (of_decide_eq_true hz.2)))
 | Mod =>
  refine bc fun hN =>?_
  obtain ⟨a,b,rfl,rfl,e⟩:=cB e
  obtain ⟨t,rfl⟩:=aP hx
  obtain ⟨t',rfl⟩:=aP hy
  refine aL e fun hz e =>?_
  refine hN ?_; clear hN
  obtain rfl:=oj e
  exact PyProof.Rows.mod_int' hz (q.int _ _)
 | Pow =>
  refine bc fun hN =>?_
  obtain ⟨a,b,rfl,rfl,e⟩:=cB e
  obtain ⟨t,rfl⟩:=aP hx
  obtain ⟨t',rfl⟩:=aP hy
  refine aL e fun hz e =>?_
  refine hN ?_; clear hN
  cases e
  have h3:=of_decide_eq_true hz.2.2
  exact PyProof.Rows.pow_int_small hz.1 (by lia) (by lia) (q.int _ _)
 | LShift =>
  refine bc fun hN =>?_
  obtain ⟨a,b,rfl,rfl,e⟩:=cB e
  obtain ⟨t,rfl⟩:=aP hx
  obtain ⟨t',rfl⟩:=aP hy
  refine aL e fun hz e =>?_
  refine hN ?_; clear hN
  obtain rfl:=oj e
  have h3:=of_decide_eq_true hz.2.2
  exact PyProof.Rows.lshift_int_small hz.1 (by lia) (by lia) (q.int _ _)
 | RShift =>
  refine bc fun hN =>?_
  obtain ⟨a,b,rfl,rfl,e⟩:=cB e
  obtain ⟨t,rfl⟩:=aP hx
  obtain ⟨t',rfl⟩:=aP hy
  refine aL e fun hz e =>?_
  refine hN ?_; clear hN
  obtain rfl:=oj e
  exact PyProof.Rows.rshift_int hz (q.int _ _)
 | BitAnd =>
  refine bc fun hN =>?_
  obtain ⟨a,b,rfl,rfl,e⟩:=cB e
  obtain ⟨t,rfl⟩:=aP hx
  obtain ⟨t',rfl⟩:=aP hy
  refine hN ?_; clear hN
  obtain rfl:=oj e
  exact PyProof.Rows.and_int (q.int _ _)
 | BitOr =>
  refine bc fun hN =>?_
  obtain ⟨a,b,rfl,rfl,e⟩:=cB e
  obtain ⟨t,rfl⟩:=aP hx
  obtain ⟨t',rfl⟩:=aP hy
  refine hN ?_; clear hN
  obtain rfl:=oj e
  exact PyProof.Rows.or_int (q.int _ _)
 | _ =>cases e
end
theorem Reps.size {h : Heap} {xs : List V} {us : List Value} (r : Reps h xs us) : us.toArray.size = xs.length:=by rw [List.size_toArray]; exact r.length
theorem bInts_inj {b c : Array UInt8} (h : KBw.bInts b = KBw.bInts c) : b = c:=by
 unfold KBw.bInts at h
 have : b.toList = c.toList:=by
  refine List.map_inj_right (fun x y e =>?_) |>.mp h
  exact UInt8.toNat_inj.mp (Int.ofNat.inj e)
 exact Array.toList_inj.mp this
theorem bInts_beq {b c : Array UInt8} {ks ls : List Int} (h : KBw.bInts b = ks) (h' : KBw.bInts c = ls) : (b.toList == c.toList) = (ks == ls):=by
 subst h h'
 rw [Bool.eq_iff_iff,beq_iff_eq,beq_iff_eq]
 exact ⟨fun e =>by rw [Array.toList_inj.mp e],fun e =>by rw [bInts_inj e]⟩
section
variable {prog : Program} {w : World} {A : Around} {E : Value → Shared → Prop} {s : Shared} {H : List Addr}
theorem eqI_at {h : Heap} {x y : V} {r : Bool} {u v : Value} (e : eqI x y = some r) (hx : Rep h x u) (hy : Rep h y v) : EqAt A s u v r:=by
 cases x with
 | int a =>
  refine au e fun b h1 h2 =>?_
  clear e
  obtain rfl:=bd h1
  subst h2
  unfold Rep at hx hy; obtain ⟨t,rfl⟩:=hx; obtain ⟨t',rfl⟩:=hy
  exact EqAt.int_int _ _ _ _
 | str a =>
  refine au e fun b h1 h2 =>?_
  clear e
  obtain rfl:=fe h1
  subst h2
  unfold Rep at hx hy; obtain ⟨t,rfl⟩:=hx; obtain ⟨t',rfl⟩:=hy
  exact EqAt.str_str _ _ _ _
 | bytes a =>
  refine au e fun b h1 h2 =>?_
  clear e
  obtain rfl:=cc h1
  subst h2
  unfold Rep at hx hy; obtain ⟨b,t,rfl,h1⟩:=hx; obtain ⟨c,t',rfl,h2⟩:=hy
  intro prog w E Q hq
  refine eqBool_bytes ?_
  rw [← bInts_beq h1 h2] at hq
  have : decide (b.toList = c.toList) = (b.toList == c.toList):=by rw [Bool.eq_iff_iff]; simp
  rw [this]; exact hq
 | _ =>exact nS e
noncomputable def eAt (xs ys : List V) (j : Nat) : Bool:=match xs[j]?,ys[j]? with
 | some x,some y =>(eqI x y).getD true
 | _,_ =>true
theorem eAt_all : ∀ {xs ys : List V} {r : Bool},xs.length = ys.length → eqVs xs ys = some r → (List.range xs.length).all (eAt xs ys) = r
 | [],[],r,_,e =>by obtain rfl:=oj e; rfl
 | x :: xs,y :: ys,r,hl,e =>by
  refine aa e fun p h1 e =>?_
  refine aa e fun q h2 e =>?_
  obtain rfl:=oj e
  have ih:=eAt_all (by simpa using hl) h2
  simp only [List.length_cons,List.range_succ_eq_map,List.all_cons,List.all_map]
  have e0 : eAt (x :: xs) (y :: ys) 0 = p:=by show (eqI x y).getD true = p; rw [h1]; rfl
  have e1 : (eAt (x :: xs) (y :: ys) ∘ Nat.succ) = eAt xs ys:=by
   funext j; rfl
  simp only [e0,e1,ih]
 | [],_ :: _,_,hl,_ =>by simp at hl
 | _ :: _,[],_,hl,_ =>by simp at hl
theorem eqVs_def : ∀ {xs ys : List V} {r : Bool} {j : Nat} {x y : V},eqVs xs ys = some r → xs[j]? = some x → ys[j]? = some y → ∃ b,eqI x y = some b
 | a :: xs,b :: ys,r,0,x,y,e,h1,h2 =>by
  refine aa e fun p h3 e =>?_
  obtain rfl:=oj h1
  obtain rfl:=oj h2
  exact ⟨p,h3⟩
 | a :: xs,b :: ys,r,j + 1,x,y,e,h1,h2 =>by
  refine aa e fun p h3 e =>?_
  refine aa e fun q h4 e =>?_
  exact eqVs_def h4 h1 h2
 | [],_,_,_,_,_,_,h1,_ =>by simp at h1
 | _ :: _,[],_,_,_,_,_,_,h2 =>by simp at h2
theorem eqVs_at {h : Heap} {xs ys : List V} {us ws : List Value} {r : Bool} (e : eqVs xs ys = some r) (hx : Reps h xs us) (hy : Reps h ys ws) :
  ∀ j (h1 : j < us.toArray.size) (h2 : j < ws.toArray.size),EqAt A s us.toArray[j] ws.toArray[j] (eAt xs ys j):=fun j h1 h2 =>by
 have l1 : j < xs.length:=by rw [List.size_toArray] at h1; exact Nat.lt_of_lt_of_eq h1 hx.length
 have l2 : j < ys.length:=by rw [List.size_toArray] at h2; exact Nat.lt_of_lt_of_eq h2 hy.length
 have g1 : xs[j]? = some xs[j]:=List.getElem?_eq_getElem l1
 have g2 : ys[j]? = some ys[j]:=List.getElem?_eq_getElem l2
 refine bc fun hN =>?_
 obtain ⟨v,e1,r1⟩:=hx.get g1
 obtain ⟨v',e2,r2⟩:=hy.get g2
 obtain ⟨b,eb⟩:=eqVs_def e g1 g2
 refine hN ?_; clear hN
 have : eAt xs ys j = b:=by unfold eAt; rw [g1,g2]; show (eqI _ _).getD true = b; rw [eb]; rfl
 rw [this]
 have u1 : us.toArray[j] = v:=by
  have : us[j]? = some v:=e1
  rw [List.getElem_toArray]
  rw [List.getElem?_eq_getElem (by rw [List.size_toArray] at h1; exact h1)] at this
  exact oj this
 have u2 : ws.toArray[j] = v':=by
  have : ws[j]? = some v':=e2
  rw [List.getElem_toArray]
  rw [List.getElem?_eq_getElem (by rw [List.size_toArray] at h2; exact h2)] at this
  exact oj this
 simp only [u1,u2]
 exact eqI_at eb r1 r2
variable {Q : Value → Shared → Prop}
theorem eqI_ok {x y : V} {r : Bool} {u v : Value} (e : eqI x y = some r) (hx : Rep (hideAll s.heap H) x u) (hy : Rep (hideAll s.heap H) y v)
  (q : bo H s (.bool r) Q) : wpAny (model prog w) A (compareOp .Eq u v) Q E s:=by
 cases x with
 | int a =>
  refine au e fun b h1 h2 =>?_
  clear e
  obtain rfl:=bd h1
  subst h2
  unfold Rep at hx hy; obtain ⟨t,rfl⟩:=hx; obtain ⟨t',rfl⟩:=hy
  exact PySem.P.eq_int q.bool
 | str a =>
  refine au e fun b h1 h2 =>?_
  clear e
  obtain rfl:=fe h1
  subst h2
  unfold Rep at hx hy; obtain ⟨t,rfl⟩:=hx; obtain ⟨t',rfl⟩:=hy
  exact PyProof.Rows.eq_str q.bool
 | bytes a =>
  refine au e fun b h1 h2 =>?_
  clear e
  obtain rfl:=cc h1
  subst h2
  unfold Rep at hx hy; obtain ⟨b,t,rfl,h1⟩:=hx; obtain ⟨c,t',rfl,h2⟩:=hy
  refine eq_bytes ?_
  rw [bInts_beq h1 h2]; exact q.bool
 | _ =>exact nS e
theorem eqV_ok {x y : V} {r : Bool} {u v : Value} (hu : A.units + 64 < cLine) (e : eqV x y = some r) (hx : Rep (hideAll s.heap H) x u) (hy : Rep (hideAll s.heap H) y v)
  (q : bo H s (.bool r) Q) : wpAny (model prog w) A (compareOp .Eq u v) Q E s:=by
 have hu' : A.units < cLine:=by lia
 cases x with
 | list xs =>
  refine aa e fun ys hE e2 =>?_
  clear e
  obtain rfl:=bp hE
  unfold Rep at hx hy; obtain ⟨l,us,rfl,hl,hr⟩:=hx; obtain ⟨b,ws,rfl,hb,hr'⟩:=hy
  have hl:=aK hl
  have hb:=aK hb
  have n1:=hr.size
  have n2:=hr'.size
  split at e2
  ·rename_i hlen
   refine eq_listAt hl hb (by simp only [n1,n2,hlen]) hu' (eqVs_at e2 hr hr') ?_
   rw [n1,eAt_all hlen e2]; exact q.bool
  ·rename_i hlen
   obtain rfl:=oj e2
   exact eq_list_lengthsAt hl hb (by simpa [n1,n2] using hlen) hu' q.bool
 | tup xs =>
  refine aa e fun ys hE e2 =>?_
  clear e
  obtain rfl:=gi hE
  unfold Rep at hx hy; obtain ⟨l,us,rfl,hl,hr⟩:=hx; obtain ⟨b,ws,rfl,hb,hr'⟩:=hy
  have hl:=bZ hl
  have hb:=bZ hb
  have n1:=hr.size
  have n2:=hr'.size
  split at e2
  ·rename_i hlen
   refine eq_tupleAt hl hb hu' (eqVs_at e2 hr hr') ?_
   rw [n1,n2,hlen,Nat.min_self,beq_self_eq_true,Bool.and_true,← hlen,eAt_all hlen e2]; exact q.bool
  ·exact nS e2
 | none =>exact nS e
 | bool b =>exact nS e
 | int i =>exact eqI_ok (x:=.int i) e hx hy q
 | str i =>exact eqI_ok (x:=.str i) e hx hy q
 | bytes i =>exact eqI_ok (x:=.bytes i) e hx hy q
theorem neI_ok {x y : V} {r : Bool} {u v : Value} (e : eqI x y = some r) (hx : Rep (hideAll s.heap H) x u) (hy : Rep (hideAll s.heap H) y v)
  (q : bo H s (.bool (!r)) Q) : wpAny (model prog w) A (compareOp .NotEq u v) Q E s:=by
 cases x with
 | int a =>
  refine au e fun b h1 h2 =>?_
  clear e
  obtain rfl:=bd h1
  subst h2
  unfold Rep at hx hy; obtain ⟨t,rfl⟩:=hx; obtain ⟨t',rfl⟩:=hy
  exact PySem.P.ne_int q.bool
 | str a =>
  refine au e fun b h1 h2 =>?_
  clear e
  obtain rfl:=fe h1
  subst h2
  unfold Rep at hx hy; obtain ⟨t,rfl⟩:=hx; obtain ⟨t',rfl⟩:=hy
  exact PyProof.Rows.ne_str q.bool
 | bytes a =>
  refine au e fun b h1 h2 =>?_
  clear e
  obtain rfl:=cc h1
  subst h2
  unfold Rep at hx hy; obtain ⟨b,t,rfl,h1⟩:=hx; obtain ⟨c,t',rfl,h2⟩:=hy
  refine ne_bytes ?_
  have:=bInts_beq h1 h2
  simp only [bne,this]; exact q.bool
 | _ =>exact nS e
theorem neV_ok {x y : V} {r : Bool} {u v : Value} (hu : A.units + 64 < cLine) (e : eqV x y = some r) (hx : Rep (hideAll s.heap H) x u) (hy : Rep (hideAll s.heap H) y v)
  (q : bo H s (.bool (!r)) Q) : wpAny (model prog w) A (compareOp .NotEq u v) Q E s:=by
 have hu' : A.units < cLine:=by lia
 cases x with
 | list xs =>
  refine aa e fun ys hE e2 =>?_
  clear e
  obtain rfl:=bp hE
  unfold Rep at hx hy; obtain ⟨l,us,rfl,hl,hr⟩:=hx; obtain ⟨b,ws,rfl,hb,hr'⟩:=hy
  have hl:=aK hl
  have hb:=aK hb
  have n1:=hr.size
  have n2:=hr'.size
  split at e2
  ·rename_i hlen
   refine RcNeAt.lists hl hb (by simp only [n1,n2,hlen]) hu' (eqVs_at e2 hr hr') prog w E Q ?_
   simp only [n1,eAt_all hlen e2]; exact q.bool
  ·rename_i hlen
   obtain rfl:=oj e2
   exact RcNeAt.lists_lengths hl hb (by simpa [n1,n2] using hlen) hu' prog w E Q q.bool
 | tup xs =>
  refine aa e fun ys hE e2 =>?_
  clear e
  obtain rfl:=gi hE
  unfold Rep at hx hy; obtain ⟨l,us,rfl,hl,hr⟩:=hx; obtain ⟨b,ws,rfl,hb,hr'⟩:=hy
  have hl:=bZ hl
  have hb:=bZ hb
  have n1:=hr.size
  have n2:=hr'.size
  split at e2
  ·rename_i hlen
   refine RcNeAt.tuples hl hb hu' (eqVs_at e2 hr hr') prog w E Q ?_
   rw [n1,n2,hlen,Nat.min_self,beq_self_eq_true,Bool.and_true,← hlen,eAt_all hlen e2]; exact q.bool
  ·exact nS e2
 | none =>exact nS e
 | bool b =>exact nS e
 | int i =>exact neI_ok (x:=.int i) e hx hy q
 | str i =>exact neI_ok (x:=.str i) e hx hy q
 | bytes i =>exact neI_ok (x:=.bytes i) e hx hy q
theorem isNone_rep {h : Heap} {x : V} {u : Value} (hx : Rep h x u) : (u == Value.none) = aw x:=by
 cases x <;> unfold Rep at hx
 ·subst hx; rfl
 ·subst hx; rfl
 ·obtain ⟨t,rfl⟩:=hx; rfl
 ·obtain ⟨t,rfl⟩:=hx; rfl
 ·obtain ⟨b,t,rfl,_⟩:=hx; rfl
 ·obtain ⟨a,us,rfl,_⟩:=hx; rfl
 ·obtain ⟨a,us,rfl,_⟩:=hx; rfl
theorem fZ {a b : V} {K : Int → Int → Bool} {r : Bool} (e : intB a b K = some r) : ∃ x y,a = .int x ∧ b = .int y ∧ K x y = r:=by
 refine bc fun hN =>?_
 refine aa e fun x hx e =>?_
 refine aa e fun y hy e =>?_
 refine hN ?_; clear hN
 obtain rfl:=oj e
 exact ⟨x,y,bd hx,bd hy,rfl⟩
theorem eN {v : V} (h : aw v = true) : v = .none:=by cases v <;> cases h; rfl
theorem cond_some' {α : Type} {c : Bool} {o : Option α} {r : α} (h : cond c o Option.none = some r) : c = true ∧ o = some r:=by
 cases c
 ·exact nS h
 ·exact ⟨rfl,h⟩
theorem cmpV_ok {op : CmpOp} {x y : V} {r : Bool} {u v : Value} (hu : A.units + 64 < cLine) (e : ap op x y = some r) (hx : Rep (hideAll s.heap H) x u) (hy : Rep (hideAll s.heap H) y v)
  (q : bo H s (.bool r) Q) : wpAny (model prog w) A (compareOp op u v) Q E s:=by
 cases op with
 | Eq =>exact eqV_ok hu e hx hy q
 | NotEq =>
  refine bc fun hN =>?_
  obtain ⟨b,e1,rfl⟩:=map_some' e
  refine hN ?_; clear hN
  exact neV_ok hu e1 hx hy q
 | Lt =>
  refine bc fun hN =>?_
  obtain ⟨a,b,rfl,rfl,rfl⟩:=fZ e
  obtain ⟨t,rfl⟩:=aP hx
  obtain ⟨t',rfl⟩:=aP hy
  refine hN ?_; clear hN
  exact PySem.P.lt_int q.bool
 | LtE =>
  refine bc fun hN =>?_
  obtain ⟨a,b,rfl,rfl,rfl⟩:=fZ e
  obtain ⟨t,rfl⟩:=aP hx
  obtain ⟨t',rfl⟩:=aP hy
  refine hN ?_; clear hN
  exact PySem.P.le_int q.bool
 | Gt =>
  refine bc fun hN =>?_
  obtain ⟨a,b,rfl,rfl,rfl⟩:=fZ e
  obtain ⟨t,rfl⟩:=aP hx
  obtain ⟨t',rfl⟩:=aP hy
  refine hN ?_; clear hN
  exact PySem.P.gt_int q.bool
 | GtE =>
  refine bc fun hN =>?_
  obtain ⟨a,b,rfl,rfl,rfl⟩:=fZ e
  obtain ⟨t,rfl⟩:=aP hx
  obtain ⟨t',rfl⟩:=aP hy
  refine hN ?_; clear hN
  exact PySem.P.ge_int q.bool
 | Is =>
  refine bc fun hN =>?_
  obtain ⟨h,e⟩:=cond_some' e
  refine hN ?_; clear hN
  obtain rfl:=oj e
  rw [eN h] at hy
  unfold Rep at hy; subst hy
  exact is_none (by rw [isNone_rep hx]; exact q.bool)
 | IsNot =>
  refine bc fun hN =>?_
  obtain ⟨h,e⟩:=cond_some' e
  refine hN ?_; clear hN
  obtain rfl:=oj e
  rw [eN h] at hy
  unfold Rep at hy; subst hy
  exact isNot_none (by rw [isNone_rep hx]; exact q.bool)
 | _ =>exact nS e
theorem tru_ok {x : V} {b : Bool} {u : Value} {R : Bool → Shared → Prop} {h : Heap} (e : x.tru = some b) (hx : Rep h x u) (q : R b s) : wpAny (model prog w) A (truthy u) R E s:=by
 unfold V.tru at e
 split at e
 ·obtain rfl:=oj e; unfold Rep at hx; subst hx
  exact wpAny_truthy_bool q
 ·exact nS e
end
theorem clip_eq (n : Nat) (i : Int) : clip n i = clipAt n i:=by
 unfold clip clipAt
 by_cases h : i < 0
 ·rw [if_pos h,if_pos h,Int.min_eq_left (by have:=Int.add_le_add_right (Int.le_of_lt h) (n : Int); rwa [Int.zero_add] at this)]
  rcases Int.le_total 0 (i + n) with a | a
  ·rw [Int.max_eq_right a]
  ·rw [Int.max_eq_left a,Int.toNat_of_nonpos a]; rfl
 ·rw [if_neg h,if_neg h]
  obtain ⟨k,rfl⟩:=Int.eq_ofNat_of_zero_le (Int.not_lt.mp h)
  show min k n = _
  rcases Nat.le_total k n with h | h
  ·rw [Nat.min_eq_left h,Int.min_eq_left (Int.ofNat_le.mpr h),Int.max_eq_right (Int.natCast_nonneg _)]; rfl
  ·rw [Nat.min_eq_right h,Int.min_eq_right (Int.ofNat_le.mpr h),Int.max_eq_right (Int.natCast_nonneg _)]; rfl
theorem cut_eq {α : Type} (l : List α) (lo hi : Option Int) : cut l lo hi = (l.drop (lo.elim 0 (clipAt l.length))).take (hi.elim l.length (clipAt l.length) - lo.elim 0 (clipAt l.length)):=by
 unfold cut
 have : clip l.length = clipAt l.length:=funext (clip_eq _)
 rw [this]
theorem da {value : Expr} {b : Array UInt8} {t : Tok} (r : Value) : letTemporaryGo value (.bytes b t) r = pure ():=by cases value <;> rfl
theorem getD_of_itemAt {l : List Int} {i x : Int} (e : aH l i = some x) :
  (0 ≤ i ∧ i < l.length ∧ l.getD i.toNat 0 = x) ∨ (i < 0 ∧ -(l.length : Int) ≤ i ∧ l.getD (i + l.length).toNat 0 = x):=by
 unfold aH at e
 split at e
 ·rename_i h0
  split at e
  ·rename_i h1
   exact .inl ⟨h0,h1,by simp only [List.getD_eq_getElem?_getD,e]; rfl⟩
  ·exact nS e
 ·rename_i h0
  split at e
  ·rename_i h1
   exact .inr ⟨by lia,h1,by simp only [List.getD_eq_getElem?_getD,e]; rfl⟩
  ·exact nS e
theorem gH {α : Type} {l : List α} {i : Int} {x : α} (e : aH l i = some x) :
  ∃ j,seqIndex? i l.length = some j ∧ l[j]? = some x ∧ -(l.length : Int) ≤ i ∧ i < l.length:=by
 unfold aH at e
 split at e
 ·rename_i h0
  split at e
  ·rename_i h1
   refine ⟨i.toNat,?_,e,by lia,h1⟩
   unfold seqIndex?
   simp only [show ¬ i < 0 by lia,if_false]
   simp; lia
  ·exact nS e
 ·rename_i h0
  split at e
  ·rename_i h1
   refine ⟨(i + l.length).toNat,?_,e,h1,by lia⟩
   unfold seqIndex?
   simp only [show i < 0 by lia,if_true]
   simp; lia
  ·exact nS e
section
variable {prog : Program} {w : World} {A : Around} {E : Value → Shared → Prop} {s : Shared} {H : List Addr} {Q : Value → Shared → Prop}
theorem itemV_ok {value slice : Expr} {x z : V} {i : Int} {u : Value} {t : Tok} (e : al x (.int i) = some z) (hx : Rep (hideAll s.heap H) x u)
  (hs : subscripted slice false u (.int i t) = operate [u,.int i t] (getItem u (.int i t))) (q : bo H s z Q) :
  wpAny (model prog w) A (subscriptTail value slice u (.int i t)) Q E s:=by
 have hl63 : lid ≤ 1099511627776:=by decide
 have e : itemK x i = some z:=e
 cases x with
 | bytes ks =>
  have e : (if ks.length ≤ lid then (aH ks i).map V.int else .none) = some z:=e
  split at e
  ·rename_i hz
   refine bc fun hN =>?_
   refine au e fun c ec hEqq2 =>?_
   subst hEqq2
   refine hN ?_; clear hN
   unfold Rep at hx; obtain ⟨b,tb,rfl,hb⟩:=hx
   rcases getD_of_itemAt ec with ⟨h0,h1,h2⟩ | ⟨h0,h1,h2⟩
   ·exact KBw.item_K hb (by lia) h0 h1 (fun t' k _ _ =>by rw [h2]; exact q.int _ _) hs da
   ·exact KBc.itemR_K hb (by lia) h1 h0 (fun t' k _ _ =>by rw [h2]; exact q.int _ _) hs da
  ·exact nS e
 | list xs =>
  have e : (if xs.length ≤ lid then aH xs i else .none) = some z:=e
  split at e
  ·rename_i hz
   unfold Rep at hx; obtain ⟨l,us,rfl,hl,hr⟩:=hx
   refine bc fun hN =>?_
   obtain ⟨j,ej,ex,h1,h2⟩:=gH e
   obtain ⟨v,ev,rv⟩:=hr.get ex
   refine hN ?_; clear hN
   have hl:=aK hl
   have hn:=hr.length
   have qv : Q v s:=q _ _ (Kp.refl s) rv
   by_cases h0 : 0 ≤ i
   ·have : j = i.toNat:=by
     unfold seqIndex? at ej
     simp only [show ¬ i < 0 by lia,if_false] at ej
     simp at ej; lia
    refine tail_any hl.typeIs slot_list_getitem.lookup (wpAny_getItem_list hl h0 (by lia) ?_ qv) hs
    rw [← this]; simpa using ev
   ·refine tail_any hl.typeIs slot_list_getitem.lookup (kde_getNeg hl (by lia) (by lia) (by rw [hn]; exact ej) ev qv) hs
  ·cases e
 | tup xs =>
  have e : (if xs.length ≤ lid then aH xs i else .none) = some z:=e
  split at e
  ·rename_i hz
   unfold Rep at hx; obtain ⟨l,us,rfl,hl,hr⟩:=hx
   refine bc fun hN =>?_
   obtain ⟨j,ej,ex,h1,h2⟩:=gH e
   obtain ⟨v,ev,rv⟩:=hr.get ex
   refine hN ?_; clear hN
   have hl:=bZ hl
   have hn:=hr.length
   have qv : Q v s:=q _ _ (Kp.refl s) rv
   exact item_tupleT hl (by lia) (by lia) (by rw [hn]; exact ej) ev qv hs
  ·exact nS e
 | _ =>exact nS e
theorem IsPart.of {l : Option Int} {u : Value} (h : (l = none ∧ u = .none) ∨ ∃ i t,l = some i ∧ u = .int i t) : IsPart u l:=by
 rcases h with ⟨rfl,rfl⟩ | ⟨i,t,rfl,rfl⟩
 ·exact .none
 ·exact .int i t
theorem sliceV_ok {value slice : Expr} {x z : V} {lo hi : Option Int} {u vl vu : Value} (e : aq x lo hi = some z) (ho : HOk H s.heap) (hx : Rep (hideAll s.heap H) x u) (pl : IsPart vl lo) (pu : IsPart vu hi)
  (hs : subscripted slice false u (.ref s.heap.objs.size) = operate [.ref s.heap.objs.size,u] (getItem u (.ref s.heap.objs.size))) (q : bo H s z Q) :
  wpAny (model prog w) A (subscriptTail value slice u (.ref s.heap.objs.size)) Q E { s with heap:=s.heap.push { cls:=.type "slice",data:=.fields #[vl,vu,.none] } }:=by
 have kp1 : Kp s { s with heap:=s.heap.push { cls:=.type "slice",data:=.fields #[vl,vu,.none] } }:=Kp.push _
 have hsz : lid ≤ sizeLine:=cL
 unfold aq at e
 split at e
 ·split at e
  ·rename_i ks _ _ hz
   obtain rfl:=oj e
   unfold Rep at hx; obtain ⟨b,t,rfl,hb⟩:=hx
   refine tail_of_ItemOn ⟨"bytes",_,FB.slot_bytes_getitem.lookup,typeIs_bytes _ _ _,getItem_meets (typeIs_bytes _ _ _) (by decide) FB.slot_bytes_getitem FB.entry_bytes_getitem (FB.args_bytes_getitem_2 _ _) (KBc.meets_slice2 b t _ pl pu)
    ⟨Heap.IsSliceOf.new _ _ _ _,Nat.le_trans (KBc.size_picked_le b lo hi) (by simp only [← KBw.ints_length b,hb]; lia),fun t' k =>?_⟩⟩ hs da
   refine (q.after kp1).bytes ?_ _ _
   simp only [KBc.ints_picked hb lo hi,cut_eq]
  ·exact nS e
 ·split at e
  ·rename_i xs _ _ hz
   obtain rfl:=oj e
   unfold Rep at hx; obtain ⟨l,us,rfl,hl,hr⟩:=hx
   have hl':=aK hl
   have n1:=hr.length
   refine tail_any (hl'.push _).typeIs slot_list_getitem.lookup (wpAny_getItem_list_slice (hl'.push _) (Heap.IsSliceOf.new ..) pl pu .none (by simp) ?_ (by rw [List.size_toArray]; lia)) hs
   rw [slicePick_plain]
   refine (q.after kp1) _ _ (Kp.push _) ?_
   refine cM (ho.kp kp1) ?_
   simp only [List.size_toArray,n1]
   rw [cut_eq]
   exact Reps.take _ (Reps.drop _ (hr.kp kp1))
  ·exact nS e
 ·exact nS e
theorem bytes_rev_eq (b : Array UInt8) : Builtin.Bytes.sliced b ((b.size : Int) - 1) (-1) (-1) = b.toList.reverse.toArray:=by
 unfold Builtin.Bytes.sliced
 simp only [krv_sliceRange,krv_range,List.filterMap_reverse,krv_all]
open Builtin in
theorem meets_rev (b : Array UInt8) (t : Tok) (a : Addr) {tk : Tok} :
  Meets («bytes.__getitem__» ⟨[.bytes b t,.ref a],[]⟩) (fun _ R s =>s.heap.IsSliceOf a .none .none (.int (-1) tk) ∧ b.size ≤ sizeLine ∧ ∀ t' k,R (.ok (.ret (.bytes b.toList.reverse.toArray t'))) { s with toks:=k }):=by
 refine .of_wp fun prog w A R s hS =>?_
 refine bc fun hN =>?_
 obtain ⟨⟨o,ho,hc,hd⟩,hsz,h⟩:=hS
 refine hN ?_; clear hN
 have hT : s.TypeIs (.ref a) "slice":=⟨o,ho,hc⟩
 show wpAny _ _ (Bytes.payload (.bytes b t) >>= fun r =>_) _ _ s
 refine wpAny_bind (wpAny_of_eq (a:=b) rfl ?_)
 show wpAny _ _ (Bytes.subscript? (.ref a) >>= fun r =>_) _ _ s
 refine wpAny_bind ?_
 unfold Bytes.subscript?
 refine wpAny_bind (wpAny_specialOf hT slice_no_index (wpAny_pure ?_))
 refine wpAny_bind (wpAny_typeOf hT ?_)
 show wpAny _ _ (Bytes.sliceParts (.ref a) >>= fun r =>_) _ _ s
 refine wpAny_bind ?_
 unfold Bytes.sliceParts
 refine wpAny_bind (wpAny_field (x:=.int (-1) tk) ho hd rfl ?_)
 kby_int
 refine wpAny_ite (KBy.ite_no (show ¬ ((rawInt (-1) == rawInt 0) = true) from Bool.false_ne_true) ?_)
 refine wpAny_bind (wpAny_field (x:=.none) ho hd rfl ?_)
 kby_none
 refine wpAny_bind (wpAny_field (x:=.none) ho hd rfl ?_)
 kby_none
 refine wpAny_pure ?_
 have go : wpAny (model prog w) A.in1 (sliceIndices (rawPart none) (rawPart none) (rawPart (some (-1))) b.size) (fun r s' =>r = sliceBounds none none (some (-1)) b.size ∧ s' = s) (fun _ _ =>False) s :=
  wpAny_of_eq (sliceIndices_raw none none (some (-1)) b.size (fun e =>nomatch e)) ⟨rfl,rfl⟩
 refine wpAny_bind (wpAny_mono go (fun r s' hr =>?_) fun _ _ e =>e.elim)
 refine bc fun hN =>?_
 obtain ⟨hr1,hr2⟩:=hr
 refine hN ?_; clear hN
 subst hr2
 rw [krv_bounds] at hr1
 subst hr1
 refine wpAny_ite (KBy.ite_no (by simp) ?_)
 rw [bytes_rev_eq]
 exact wpAny_bind (wpAny_mkBytes (wpAny_pure ⟨_,rfl,h _ _⟩) (by simpa using hsz))
theorem revV_ok {value slice : Expr} {x z : V} {u : Value} {tk : Tok} {ops : List Value} (e : revV x = some z) (ho : HOk H s.heap) (hx : Rep (hideAll s.heap H) x u)
  (hs : subscripted slice false u (.ref s.heap.objs.size) = operate ops (getItem u (.ref s.heap.objs.size))) (q : bo H s z Q) :
  wpAny (model prog w) A (subscriptTail value slice u (.ref s.heap.objs.size)) Q E { s with heap:=s.heap.push { cls:=.type "slice",data:=.fields #[.none,.none,.int (-1) tk] } }:=by
 have kp1 : Kp s { s with heap:=s.heap.push { cls:=.type "slice",data:=.fields #[.none,.none,.int (-1) tk] } }:=Kp.push _
 have hsz : lid ≤ sizeLine:=cL
 unfold revV at e
 split at e
 ·split at e
  ·rename_i ks hz
   obtain rfl:=oj e
   unfold Rep at hx; obtain ⟨b,t,rfl,hb⟩:=hx
   refine tail_of_ItemOn ⟨"bytes",_,FB.slot_bytes_getitem.lookup,typeIs_bytes _ _ _,getItem_meets (typeIs_bytes _ _ _) (by decide) FB.slot_bytes_getitem FB.entry_bytes_getitem (FB.args_bytes_getitem_2 _ _) (meets_rev b t _)
    ⟨Heap.IsSliceOf.new _ _ _ _,by simp only [← KBw.ints_length b,hb]; lia,fun t' k =>?_⟩⟩ hs da
   refine (q.after kp1).bytes ?_ _ _
   rw [← hb]; simp [KBw.bInts]
  ·exact nS e
 ·split at e
  ·rename_i xs hz
   obtain rfl:=oj e
   unfold Rep at hx; obtain ⟨l,us,rfl,hl,hr⟩:=hx
   have hl':=aK hl
   have n1:=hr.length
   refine tail_any (hl'.push _).typeIs slot_list_getitem.lookup (wpAny_getItem_list_slice (hl'.push _) (Heap.IsSliceOf.new ..) .none .none (.int _ _) (by decide) ?_ (by rw [List.size_toArray]; lia)) hs
   rw [krv_pick]
   exact (q.after kp1) _ _ (Kp.push _) (cM (ho.kp kp1) (hr.kp kp1).reverse)
  ·exact nS e
 ·exact nS e
end
section
variable {prog : Program} {w : World} {A : Around} {E : Value → Shared → Prop} {s : Shared}
theorem hint_bytes {b : Array UInt8} {t : Tok} {Q : Bool → Shared → Prop} (h : Q false s) :
  wpAny (model prog w) A (Builtin.List.listLengthHint (.bytes b t)) Q E s:=by
 unfold Builtin.List.listLengthHint
 refine wpAny_bind (wpAny_specialOf (typeIs_bytes s b t) FB.slot_bytes_len.lookup ?_)
 wp_delta
 refine wpAny_bind (wpAny_isInstance (T:="bytes") (b:=true) (typeIs_bytes s b t) (by rw [isSubtype_type]; kernel_rfl) ?_)
 show wpAny _ _ (typeOf (Value.bytes b t) >>= _) _ _ _
 exact wpAny_bind (wpAny_typeOf (typeIs_bytes s b t) (wpAny_pure h))
theorem extend_bytes {R : Result → Shared → Prop} (hh : A.handled = none) (b : Array UInt8) (t : Tok) (S : Addr) (res : Value) (c₀ : Nat) (hS : s.heap.get? S = some { cls:=.type "list",data:=.seq #[] c₀ })
  (hR : ∀ h' tk acc' c',(∀ b o,b ≠ S → s.heap.get? b = some o → h'.get? b = some o) → h'.get? S = some { cls:=.type "list",dict:=none,data:=.seq acc' c',slots:=#[] } →
   ItemsOf (fun i v =>∃ c u,b[i]? = some c ∧ v = .int (c.toNat : Int) u) acc' b.size → R (.ok (.ret res)) { s with heap:=h',toks:=tk }) (hn : b.size ≤ sizeLine) :
  wpAny (model prog w) A.in1 (Builtin.List.listExtendWith (.ref S) (.bytes b t) res)
   (fun fin s' =>match fin with | .done f =>R (.ok f) s' | .again c' =>c'.quiet = true ∧ codeAny (model prog w) A c' R s') (fun e s' =>R (.error e) s') s:=by
 have hSI : S ≠ s.heap.objs.size:=Nat.ne_of_lt (Heap.lt_size hS)
 have hSf : S ∉ [s.heap.objs.size]:=fun hm =>hSI (List.mem_singleton.mp hm)
 unfold Builtin.List.listExtendWith
 refine wpAny_bind (wpAny_typeOf (typeIs_bytes s b t) ?_)
 have h1 : Builtin.List.listSameRef (.ref S) (.bytes b t) = false:=rfl
 have h2 : (Value.type "bytes" == Value.type "list") = false:=by decide
 have h3 : (Value.type "bytes" == Value.type "tuple") = false:=by decide
 simp only [h1,h2,h3,Bool.or_false,Bool.false_eq_true,if_false]
 refine wpAny_bind (KBw.pyIter_bytes ?_)
 refine wpAny_bind (wpAny_holding (hint_bytes ?_))
 rw [if_neg (by decide)]
 have W:=KBw.walks (prog:=prog) (w:=w) (A:=A.in1) hh s.heap.objs.size b t
 refine wpAny_pure ⟨plainId_quiet PySem.F.plain_extend_loop _,codeAny_extend_loopS W.toS hn _ hSf _ b.size 0 _ _ _ rfl (Nat.zero_le _) ⟨_,Heap.get?_push_size _ rfl,rfl,rfl⟩ (Heap.get?_push_of_some _ hS) (ItemsOf.nil _) fun s' acc' c' hm hS' hacc =>?_⟩
 rw [Moved.eq_with hm]
 refine hR s'.heap s'.toks acc' c' (fun b ob hb e =>hm.heap b ob (fun hmem =>?_) (Heap.get?_push_of_some _ e)) hS' hacc
 rcases List.mem_cons.mp hmem with e' | hmem
 ·exact hb e'
 ·exact absurd (Heap.lt_size e) (by rw [List.mem_singleton.mp hmem]; exact Nat.lt_irrefl _)
theorem list_init_bytes {R : Result → Shared → Prop} (hh : A.handled = none) (b : Array UInt8) (t : Tok) (S : Addr) (hS : s.heap.get? S = some { cls:=.type "list",data:=.seq #[] })
  (hR : ∀ h' tk acc' c',(∀ b o,b ≠ S → s.heap.get? b = some o → h'.get? b = some o) → h'.get? S = some { cls:=.type "list",dict:=none,data:=.seq acc' c',slots:=#[] } →
   ItemsOf (fun i v =>∃ c u,b[i]? = some c ∧ v = .int (c.toNat : Int) u) acc' b.size → R (.ok (.ret .none)) { s with heap:=h',toks:=tk }) (hn : b.size ≤ sizeLine) :
  wpAny (model prog w) A.in1 (Builtin.«list.__init__» ⟨[.ref S,.bytes b t],[]⟩)
   (fun fin s' =>match fin with | .done f =>R (.ok f) s' | .again c' =>c'.quiet = true ∧ codeAny (model prog w) A c' R s') (fun e s' =>R (.error e) s') s:=by
 show wpAny _ _ (do let old ← Builtin.List.listItems (.ref S); Builtin.List.listUpdate (.ref S) (fun _ =>#[]); letGo old.toList.reverse; Builtin.List.listExtendWith (.ref S) (.bytes b t) .none) _ _ s
 refine wpAny_bind ?_
 unfold Builtin.List.listItems
 refine wpAny_bind (wpAny_seqItems hS rfl (wpAny_pure ?_))
 show wpAny _ _ (updateSeq S (fun _ =>#[]) >>= fun _ =>letGo (#[] : Array Value).toList.reverse >>= fun _ =>Builtin.List.listExtendWith (.ref S) (.bytes b t) .none) _ _ s
 refine wpAny_bind (wpAny_updateSeq hS rfl ?_)
 have hS₂:=Heap.get?_update_self (Obj.mapSeq (fun _ =>(#[] : Array Value))) hS rfl
 have oth : ∀ b o,b ≠ S → s.heap.get? b = some o → (s.heap.update S (Obj.mapSeq (fun _ =>(#[] : Array Value)))).get? b = some o :=
  fun b o hb e =>(Heap.get?_update_other _ _ (Ne.symm hb)).trans e
 refine wpAny_bind (wpAny_letGo ?_)
 refine extend_bytes (hn:=hn) hh b t S .none _ hS₂ fun h' tk acc' c' hk hS' hacc =>?_
 exact hR h' tk acc' c' (fun b o hb e =>hk b o hb (oth b o hb e)) hS' hacc
theorem fh {Q : Value → Shared → Prop} (hh : A.handled = none) (b : Array UInt8) (t : Tok)
  (hQ : ∀ h' tk acc' c',(∀ b o,s.heap.get? b = some o → h'.get? b = some o) →
   h'.get? s.heap.objs.size = some { cls:=.type "list",dict:=none,data:=.seq acc' c',slots:=#[] } → ItemsOf (fun i v =>∃ c u,b[i]? = some c ∧ v = .int (c.toNat : Int) u) acc' b.size →
    Q (.ref s.heap.objs.size) { s with heap:=h',toks:=tk }) (hn : b.size ≤ sizeLine) :
  wpAny (model prog w) A (call (.type "list") [.bytes b t]) Q E s:=by
 refine callType_codes (Q₁:=fun obj s₁ =>obj = .ref s.heap.objs.size ∧ s₁ = { s with heap:=s.heap.push { cls:=.type "list",data:=.seq #[] } }) PySem.F.called_list (PySem.F.typeCall_list_1 _) PySem.F.entry_list_init
  (code_list_new _ ⟨rfl,rfl⟩) fun obj s₁ h₁ =>?_
 obtain ⟨rfl,rfl⟩:=h₁
 have hS : (s.heap.push { cls:=.type "list",data:=.seq #[] }).get? s.heap.objs.size = some { cls:=.type "list",data:=.seq #[] }:=Heap.get?_push_size _ rfl
 refine ⟨⟨_,hS,rfl⟩,PySem.F.args_list_init_2 _ _,list_init_bytes (A:=A.in1) (hn:=hn) hh b t _ hS fun h' tk acc' c' hk hS' hacc =>?_⟩
 exact ⟨rfl,hQ h' tk acc' c' (fun b o e =>hk b o (Nat.ne_of_lt (Heap.lt_size e)) (Heap.get?_push_of_some _ e)) hS' hacc⟩
end
theorem insI_perm (a : Int) : ∀ l : List Int,(insI a l).Perm (a :: l)
 | [] =>.refl _
 | b :: r =>by
  unfold insI
  split
  ·exact .refl _
  ·exact ((insI_perm a r).cons b).trans (.swap a b r)
theorem sortI_perm : ∀ l : List Int,(dU l).Perm l
 | [] =>.refl _
 | a :: r =>(insI_perm a _).trans ((sortI_perm r).cons a)
theorem insI_sorted (a : Int) : ∀ {l : List Int},l.Pairwise (· ≤ ·) → (insI a l).Pairwise (· ≤ ·)
 | [],_ =>by simp [insI]
 | b :: r,h =>by
  unfold insI
  split
  ·rename_i hab
   refine List.Pairwise.cons (fun x hx =>?_) h
   rcases List.mem_cons.mp hx with rfl | hx
   ·exact hab
   ·exact Int.le_trans hab (List.rel_of_pairwise_cons h hx)
  ·rename_i hab
   refine List.Pairwise.cons (fun x hx =>?_) (insI_sorted a (List.Pairwise.of_cons h))
   rcases List.mem_cons.mp ((insI_perm a r).mem_iff.mp hx) with rfl | hx
   ·lia
   ·exact List.rel_of_pairwise_cons h hx
theorem fc : ∀ l : List Int,(dU l).Pairwise (· ≤ ·)
 | [] =>.nil
 | a :: r =>insI_sorted a (fc r)
theorem sortI_unique {l l' : List Int} (p : l'.Perm l) (h : l'.Pairwise (· ≤ ·)) : l' = dU l :=
 (p.trans (sortI_perm l).symm).eq_of_pairwise (fun _ _ _ _ a b =>Int.le_antisymm a b) h (fc l)
noncomputable def cy (f : Str) : Value :=
 if f == "len" then .builtin "len" else if f == "bytes" then .type "bytes" else if f == "list" then .type "list" else if f == "sorted" then .builtin "sorted"
 else if f == "int" then .type "int" else if f == "tuple" then .type "tuple" else if f == "range" then .type "range" else if f == "enumerate" then .type "enumerate" else .none
noncomputable def isBlt (f : Str) : Bool:=(["len","bytes","list","sorted","int","tuple","range","enumerate"] : List Str).contains f
section
variable {prog : Program} {w : World} {A : Around} {E : Value → Shared → Prop} {s : Shared} {H : List Addr} {Q : Value → Shared → Prop}
theorem Reps.one {h : Heap} {x : V} {us : List Value} (r : Reps h [x] us) : ∃ v,us = [v] ∧ Rep h x v:=by
 unfold Reps at r
 refine bc fun hN =>?_
 obtain ⟨v,r',rfl,h1,h2⟩:=r
 refine hN ?_; clear hN
 unfold Reps at h2; subst h2
 exact ⟨v,rfl,h1⟩
theorem Reps.two {h : Heap} {x y : V} {us : List Value} (r : Reps h [x,y] us) : ∃ v w,us = [v,w] ∧ Rep h x v ∧ Rep h y w:=by
 unfold Reps at r
 refine bc fun hN =>?_
 obtain ⟨v,r',rfl,h1,h2⟩:=r
 obtain ⟨w,rfl,h3⟩:=h2.one
 refine hN ?_; clear hN
 exact ⟨v,w,rfl,h1,h3⟩
theorem Reps.three {h : Heap} {x y z : V} {us : List Value} (r : Reps h [x,y,z] us) : ∃ v w u,us = [v,w,u] ∧ Rep h x v ∧ Rep h y w ∧ Rep h z u:=by
 unfold Reps at r
 refine bc fun hN =>?_
 obtain ⟨v,r',rfl,h1,h2⟩:=r
 obtain ⟨w,u,rfl,h3,h4⟩:=h2.two
 refine hN ?_; clear hN
 exact ⟨v,w,u,rfl,h1,h3,h4⟩
theorem byteArr_ints {ns : List Int} (h : ∀ n ∈ ns,0 ≤ n ∧ n < 256) : KBw.bInts (byteArr ns) = ns:=by
 unfold KBw.bInts byteArr
 simp only [List.toList_toArray,List.map_map]
 conv =>rhs; rw [← List.map_id ns]
 refine List.map_congr_left fun n hn =>?_
 obtain ⟨h0,h1⟩:=h n hn
 simp
 lia
theorem d6 {xs : List V} {us : Array Value} {h : Heap} {a : Addr} {n : Nat} (ha : a ∉ H) (e : h.get? a = some { cls:=.type "list",data:=.seq us n }) (r : Reps (hideAll h H) xs us.toList) :
  Rep (hideAll h H) (.list xs) (.ref a):=by
 unfold Rep
 exact ⟨a,us.toList,rfl,⟨_,hideAll_get H e ha,rfl,n,by simp⟩,r⟩
theorem eA {h : Heap} {b : Array UInt8} {acc : Array Value} (I : ItemsOf (fun i v =>∃ c u,b[i]? = some c ∧ v = .int (c.toNat : Int) u) acc b.size) : Reps h ((KBw.bInts b).map .int) acc.toList:=by
 refine bc fun hN =>?_
 obtain ⟨hs,hI⟩:=I
 refine hN ?_; clear hN
 refine Reps.of_ints ?_
 have key : ∀ (l : List Value) (bs : List UInt8),l.length = bs.length → (∀ (j : Nat) (v : Value),l[j]? = some v → ∃ (c : UInt8) (u : Tok),bs[j]? = some c ∧ v = Value.int (c.toNat : Int) u) → IntsAre l (bs.map fun c =>(c.toNat : Int)):=by
  intro l
  induction l with
  | nil =>intro bs hl _; cases bs with
   | nil =>exact .nil
   | cons _ _ =>simp at hl
  | cons v r ih =>intro bs hl hh; cases bs with
   | nil =>simp at hl
   | cons c cs =>
    obtain ⟨c',u,e1,rfl⟩:=hh 0 v rfl
    simp only [List.getElem?_cons_zero,Option.some.injEq] at e1
    subst e1
    exact .cons _ u (ih cs (by simpa using hl) fun j v' hj =>by simpa using hh (j + 1) v' (by simpa using hj))
 exact key acc.toList b.toList (by simp [hs]) fun j v hj =>by simpa using hI j v (by simpa using hj)
theorem bltV_ok {f : Str} {vs : List V} {us : List Value} {r : V} {n : Nat} (e : aj f vs = some r) (hr : Reps (hideAll s.heap H) vs us) (ho : HOk H s.heap) (hA : Room A n) (q : bo H s r Q) :
  wpAny (model prog w) A (call (cy f) us []) Q E s:=by
 have hl1 : lid ≤ sizeLine:=cL
 have hl2 : (lid : Int) < 2 ^ 62:=by decide
 unfold aj at e
 unfold cy
 split at e
 ·rename_i hf
  rw [if_pos hf]
  refine bc fun hN =>?_
  refine aa e fun v ev e0 =>?_
  clear e
  obtain rfl:=bh ev
  obtain ⟨w,rfl,hv⟩:=hr.one
  refine au e0 fun k ek hEqq2 =>?_
  subst hEqq2
  refine hN ?_; clear hN
  cases v with
  | bytes ks =>
   refine aL ek fun hz ek =>?_
   obtain rfl:=oj ek
   unfold Rep at hv; obtain ⟨b,t,rfl,hb⟩:=hv
   exact KBw.len_K hb (Nat.le_trans hz (by decide)) (q.int _ _)
  | list xs =>
   refine aL ek fun hz ek =>?_
   obtain rfl:=oj ek
   unfold Rep at hv; obtain ⟨a,us',rfl,hl,hrr⟩:=hv
   have hn:=hrr.size
   refine call_len_list (aK hl) (by rw [hn]; lia) ?_
   rw [hn]; exact q.int _ _
  | _ =>exact nS ek
 rename_i hf; rw [if_neg hf]
 split at e
 ·rename_i hf
  rw [if_pos hf]
  refine bc fun hN =>?_
  refine aa e fun v ev e0 =>?_
  clear e
  obtain rfl:=bh ev
  obtain ⟨w,rfl,hv⟩:=hr.one
  refine aa e0 fun xs ex e3 =>?_
  clear e0
  obtain rfl:=bp ex
  refine aa e3 fun ns e1 e2 =>?_
  refine aL e2 fun hz e2 =>?_
  refine hN ?_; clear hN
  obtain rfl:=oj e2
  unfold Rep at hv; obtain ⟨a,us',rfl,hl,hrr⟩:=hv
  have hi:=hrr.ints e1
  have hn:=hi.length
  refine call_bytes_ints (aK hl) hi hz.2 (by lia) hA.hh fun h' t k hk =>?_
  exact (q.after (Kp.mk' (t:=k) hk)).bytes (byteArr_ints hz.2) t k
 rename_i hf; rw [if_neg hf]
 split at e
 ·rename_i hf
  rw [if_pos hf]
  refine bc fun hN =>?_
  refine aa e fun v ev e0 =>?_
  clear e
  obtain rfl:=bh ev
  obtain ⟨w,rfl,hv⟩:=hr.one
  refine hN ?_; clear hN
  unfold listV at e0
  cases hL : aW v with
  | some xs =>
   rw [hL] at e0
   obtain rfl:=bp hL
   refine aL e0 fun hz e0 =>?_
   obtain rfl:=oj e0
   unfold Rep at hv
   refine bc fun hN =>?_
   obtain ⟨a,us',rfl,hl,hrr⟩:=hv
   obtain ⟨o,h1,hc,n1,hd⟩:=aK hl
   refine hN ?_; clear hN
   have hn:=hrr.size
   refine call_list_seq a (.inl rfl) h1 hc hd (fun h' c' hk hS =>?_) (by lia)
   have kp : Kp s { s with heap:=h' }:=Kp.mk' hk
   exact q _ _ kp (d6 ho.fresh hS (hrr.kp kp))
  | none =>
   rw [hL] at e0
   refine aa e0 fun ks ek e3 =>?_
   clear e0 hL
   obtain rfl:=cc ek
   refine aL e3 fun hz e0 =>?_
   obtain rfl:=oj e0
   unfold Rep at hv; obtain ⟨b,t,rfl,hb⟩:=hv
   refine fh hA.hh b t (fun h' tk acc' c' hk hS hI =>?_) (by simp only [← KBw.ints_length,hb]; lia)
   refine q _ _ (Kp.mk' hk) (d6 ho.fresh hS ?_)
   rw [← hb]; exact eA hI
 rename_i hf; rw [if_neg hf]
 split at e
 ·rename_i hf
  rw [if_pos hf]
  refine aa e fun v ev e0 =>?_
  clear e
  obtain rfl:=bh ev
  obtain ⟨w,rfl,hv⟩:=hr.one
  refine aa e0 fun xs ex e3 =>?_
  clear e0
  obtain rfl:=bp ex
  refine aa e3 fun ns e1 e2 =>?_
  refine aL e2 fun hz e2 =>?_
  obtain rfl:=oj e2
  unfold Rep at hv; obtain ⟨a,us',rfl,hl,hrr⟩:=hv
  have hi:=hrr.ints e1
  have hn:=hi.length
  refine PyProof.Rows.sorted_ints (aK hl) hi (by lia) fun out ns' i1 i2 i3 =>?_
  obtain rfl:=sortI_unique i2 i3
  obtain ⟨ee,he⟩:=sortedAll_at s.heap us' out
  refine q _ _ (Kp.mk' fun _ _ =>sortedAll_old) (d6 ?_ he (Reps.of_ints i1))
  intro hm
  obtain ⟨o,e0⟩:=ho _ hm
  have:=Heap.lt_size e0
  exact absurd (Nat.lt_of_succ_lt this) (Nat.lt_irrefl _)
 rename_i hf; rw [if_neg hf]
 split at e
 ·rename_i hf
  rw [if_pos hf]
  refine aa e fun v ev e0 =>?_
  clear e
  obtain rfl:=bh ev
  obtain ⟨w,rfl,hv⟩:=hr.one
  refine au e0 fun i ei e3 =>?_
  clear e0
  obtain rfl:=bd ei
  subst e3
  unfold Rep at hv; obtain ⟨t,rfl⟩:=hv
  exact call_int_int (q.int0 t)
 rename_i hf; rw [if_neg hf]
 split at e
 ·rename_i hf
  rw [if_pos hf]
  refine aa e fun v ev e0 =>?_
  clear e
  obtain rfl:=bh ev
  obtain ⟨w,rfl,hv⟩:=hr.one
  refine au e0 fun i ei e3 =>?_
  clear e0
  obtain rfl:=gi ei
  subst e3
  have hv':=hv
  unfold Rep at hv; obtain ⟨a,us',rfl,hl,hrr⟩:=hv
  exact call_tuple_tup (bZ hl) (q _ _ (Kp.refl s) hv')
 ·cases e
end
noncomputable abbrev Sub (h h' : Heap) : Prop:=∀ b o,h.get? b = some o → h'.get? b = some o
structure Gx where
 prog : Program
 w : World
 K : Frag
 B0 : Heap
 mg : Str → Option Value
 mb : Str → Option Value
 kin : K.In B0
 g : B0.Ns mainGlobals mg
 b : B0.Ns builtinsNs mb
 lim : B0.NoLimit
 bl : ∀ f,isBlt f = true → mg f = none ∧ mb f = some (cy f)
 clsA : Str → Option Addr
 sv : Option (Addr × Addr)
 pn : List Addr
noncomputable def At (env : Env) (h : Heap) (m : Str → Option Value) (x : Str) (u : Value) : Prop :=
 (env.kindOf x = some .local ∧ m x = some u) ∨ ((env.kindOf x = some .cell ∨ env.kindOf x = some .free) ∧ ∃ c,env.cells.lookup x = some c ∧ h.IsCell c (some u))
inductive FldsC (R : Value → Prop) (f : Str) (T : List DictEntry → Prop) (es : List DictEntry) : Prop
 | mk (hs : Int) (t : Nat) (u : Value) (r : List DictEntry) (e : es = ⟨hs,.str f t,u⟩ :: r) (h : R u) (k : T r) : FldsC R f T es
noncomputable def bR (h : Heap) : List (Str × V) → List DictEntry → Prop
 | [],es =>es = []
 | (f,v) :: fl,es =>FldsC (Rep h v) f (bR h fl) es
noncomputable def db (h : Heap) (a : Addr) (us : Array Value) : Prop:=∃ o,h.get? a = some o ∧ o.cls = .type "list" ∧ o.dict = none ∧ ∃ n,o.data = .seq us n
theorem db.isList {h : Heap} {a : Addr} {us : Array Value} (x : db h a us) : h.IsList a us:=let ⟨o,e,c,_,d⟩:=x; ⟨o,e,c,d⟩
inductive HVal (env : Env) (H : List Addr) (h : Heap) (m : Str → Option Value) (x : Str) (v : V) : Prop
 | mk (u : Value) (a : At env h m x u) (r : Rep (hideAll h H) v u) : HVal env H h m x v
inductive HOwn (env : Env) (H Mu : List Addr) (h : Heap) (m : Str → Option Value) (a : Addr) (x : Str) (xs : List V) : Prop
 | mk (us : List Value) (e1 : env.kindOf x = some .local) (e2 : m x = some (.ref a)) (e3 : db h a us.toArray) (e4 : a ∈ H) (e5 : a ∈ Mu) (r : Reps (hideAll h H) xs us) : HOwn env H Mu h m a x xs
inductive HInst (K : Option Addr) (env : Env) (H Mu : List Addr) (h : Heap) (P : Value → Prop) (a : Addr) (fl : List (Str × V)) : Prop
 | mk (ix Ca : Addr) (es : List DictEntry) (n : Nat) (e1 : P (.ref ix)) (e2 : K = some Ca) (e3 : h.get? ix = some (instObj Ca a)) (e4 : h.get? a = some (dictOf es n)) (e5 : a ∈ Mu) (e6 : a ∉ H) (e7 : ix ∉ Mu) (e8 : a ≠ env.locals) (r : bR (hideAll h H) fl es) : HInst K env H Mu h P a fl
noncomputable def cD (X : Gx) (env : Env) (H Mu : List Addr) (h : Heap) (m : Str → Option Value) (a : Addr) (x : Str) : AV → Prop
 | .val v =>HVal env H h m x v
 | .own xs =>HOwn env H Mu h m a x xs
 | .inst C fl =>HInst (X.clsA C) env H Mu h (At env h m x) a fl
structure KindsOk (sc : Scope) (env : Env) : Prop where
 loc : ∀ x,sc.names.lookup x = some .local → env.kindOf x = some .local
 cel : ∀ x,sc.names.lookup x = some .cell → env.kindOf x = some .cell
 fre : ∀ x,sc.names.lookup x = some .free → env.kindOf x = some .cell ∨ env.kindOf x = some .free
 glo : ∀ x,sc.names.lookup x = some .globalImplicit → env.kindOf x = some .globalImplicit
 has : ∀ x,sc.names.lookup x = some .cell ∨ sc.names.lookup x = some .free → (env.cells.lookup x).isSome = true
noncomputable def aV : Option AV → Prop
 | some (.own _) =>True
 | some (.inst _ _) =>True
 | _ =>False
noncomputable def Side (X : Gx) (sc : Scope) (g : Gam) (m : Str → Option Value) (ad : Str → Addr) : Prop :=
 (sc.names.lookup ("self" : Str) = some .local → ∀ ix dx,X.sv = some (ix,dx) → m ("self" : Str) = some (.ref ix) ∧ ad ("self" : Str) = dx) ∧
 ∀ y,ax sc y = true → aV (g.lookup y) → ad y ∉ X.pn
inductive HAll (X : Gx) (sc : Scope) (env : Env) (H Mu : List Addr) (g : Gam) (h : Heap) : Prop
 | mk (m : Str → Option Value) (ad : Str → Addr) (n : h.Ns env.locals m) (hd : ∀ x av,ax sc x = true → g.lookup x = some av → cD X env H Mu h m (ad x) x av)
  (inj : ∀ x y,ax sc x = true → ax sc y = true → aV (g.lookup x) → aV (g.lookup y) → ad x = ad y → x = y) (side : Side X sc g m ad) : HAll X sc env H Mu g h
structure St (X : Gx) (sc : Scope) (env : Env) (H Mu : List Addr) (g : Gam) (s : Shared) : Prop where
 base : Sub X.B0 s.heap
 kind : env.scope.kind = .function
 glob : env.globals = mainGlobals
 blt : env.builtins = builtinsNs
 kinds : KindsOk sc env
 ho : HOk H s.heap
 held : HAll X sc env H Mu g s.heap
theorem bR.mono {h h' : Heap} (k : aI h h') : ∀ {fl : List (Str × V)} {es : List DictEntry},bR h fl es → bR h' fl es
 | [],_,r =>by unfold bR at r ⊢; exact r
 | (f,v) :: fl,_,r =>by
  unfold bR at r ⊢
  refine bc fun hN =>?_
  obtain ⟨hs,t,u,r',e,h1,h2⟩:=r
  refine hN ?_; clear hN
  exact ⟨hs,t,u,r',e,h1.mono k,bR.mono k h2⟩
theorem At.keep {env : Env} {h h' : Heap} {m : Str → Option Value} {x : Str} {u : Value} (a : At env h m x u) (k : Sub h h') : At env h' m x u:=by
 rcases a with a | ⟨b,c,e,o,ho,hd⟩
 ·exact .inl a
 ·exact .inr ⟨b,c,e,o,k _ _ ho,hd⟩
theorem cD.keep {X : Gx} {env : Env} {H Mu : List Addr} {h h' : Heap} {m : Str → Option Value} {a : Addr} {x : Str} (k : Sub h h') : ∀ {av : AV},cD X env H Mu h m a x av → cD X env H Mu h' m a x av
 | .val _,⟨u,a,r⟩ =>⟨u,a.keep k,r.mono (.of (cA k))⟩
 | .own _,⟨us,e1,e2,⟨o,ho,r1⟩,e4,e5,r⟩ =>⟨us,e1,e2,⟨o,k _ _ ho,r1⟩,e4,e5,r.mono (.of (cA k))⟩
 | .inst _ _,⟨ix,Ca,es,n,e1,e2,e3,e4,e5,e6,e7,e8,r⟩ =>⟨ix,Ca,es,n,e1.keep k,e2,k _ _ e3,k _ _ e4,e5,e6,e7,e8,r.mono (.of (cA k))⟩
theorem St.kp {X : Gx} {sc : Scope} {env : Env} {H Mu : List Addr} {g : Gam} {s s' : Shared} (S : St X sc env H Mu g s) (k : Kp s s') : St X sc env H Mu g s':=by
 refine bc fun hN =>?_
 obtain ⟨m,ad,n,hd,inj,hside⟩:=S.held
 refine hN ?_; clear hN
 exact ⟨fun b o e =>k.keep b o (S.base b o e),S.kind,S.glob,S.blt,S.kinds,S.ho.kp k,m,ad,n.keeps k.keep,fun x av hx hl =>(hd x av hx hl).keep k.keep,inj,hside⟩
section
variable {X : Gx} {sc : Scope} {env : Env} {H Mu : List Addr} {g : Gam} {s : Shared} {A : Around} {E : Value → Shared → Prop} {Q : Value → Shared → Prop}
theorem du {x : Str} (h : ax sc x = true) : (x == ("__debug__" : Str)) = false ∧ (x == ("__classdict__" : Str)) = false:=by
 unfold ax dbg at h
 simp only [Bool.and_eq_true,Bool.not_eq_true',Bool.or_eq_false_iff] at h
 exact h.1.1
theorem isLoc_not0 {x : Str} (h : ax sc x = true) : (x == (".0" : Str)) = false:=by
 unfold ax dbg at h
 simp only [Bool.and_eq_true,Bool.not_eq_true',Bool.or_eq_false_iff] at h
 exact h.1.2
theorem isGlo_dbg {x : Str} (h : br sc x = true) : (x == ("__debug__" : Str)) = false:=by
 unfold br dbg at h
 simp only [Bool.and_eq_true,Bool.not_eq_true',Bool.or_eq_false_iff] at h
 exact h.1.1.1
theorem isGlo_kind {x : Str} (h : br sc x = true) : sc.names.lookup x = some .globalImplicit:=by
 unfold br at h
 simp only [Bool.and_eq_true] at h
 exact beq_iff_eq.mp h.2
theorem ga {m : Str → Option Value} {x : Str} {p : Pos} {u : Value} (hk : env.scope.kind = .function) (hd : (x == ("__debug__" : Str)) = false ∧ (x == ("__classdict__" : Str)) = false) (hn : s.heap.Ns env.locals m) (a : At env s.heap m x u) (q : Q u s) :
  wpAny (model X.prog X.w) A (eval (.Name x p) env) Q E s:=by
 refine wpAny_Name ?_ hd.1
 rcases a with ⟨e1,e2⟩ | ⟨e1,c,e2,e3⟩
 ·exact wpAny_loadName_local hk e1 hn e2 q
 ·rcases e1 with e1 | e1
  ·exact wpAny_loadName_cell hk e1 e2 e3 q
  ·exact wpAny_loadName_free hk e1 e2 e3 q hd.2
theorem load_ok {x : Str} {p : Pos} {v : V} (S : St X sc env H Mu g s) (hx : ax sc x = true) (hl : g.lookup x = some (.val v)) (q : bo H s v Q) :
  wpAny (model X.prog X.w) A (eval (.Name x p) env) Q E s:=by
 refine bc fun hN =>?_
 obtain ⟨m,ad,n,hd,_⟩:=S.held
 obtain ⟨u,a,r⟩:=hd x _ hx hl
 refine hN ?_; clear hN
 exact ga S.kind (du hx) n a (q _ _ (Kp.refl s) r)
theorem load_own {x : Str} {p : Pos} {xs : List V} (S : St X sc env H Mu g s) (hx : ax sc x = true) (hl : g.lookup x = some (.own xs)) (q : ∀ a us,s.heap.IsList a us.toArray → Reps (hideAll s.heap H) xs us → Q (.ref a) s) :
  wpAny (model X.prog X.w) A (eval (.Name x p) env) Q E s:=by
 refine bc fun hN =>?_
 obtain ⟨m,ad,n,hd,_⟩:=S.held
 obtain ⟨us,e1,e2,e3,_,_,r⟩:=hd x _ hx hl
 refine hN ?_; clear hN
 exact ga S.kind (du hx) n (.inl ⟨e1,e2⟩) (q _ _ e3.isList r)
theorem load_glob {x : Str} {p : Pos} {u : Value} (S : St X sc env H Mu g s) (hx : br sc x = true) (hl : X.mg x = some u) (q : Q u s) :
  wpAny (model X.prog X.w) A (eval (.Name x p) env) Q E s :=
 Name_function_global S.kind (S.kinds.glo _ (isGlo_kind hx)) (loadGlobal_global (by rw [S.glob]; exact X.g.keeps S.base) hl q) (isGlo_dbg hx)
theorem et {x : Str} {p : Pos} (S : St X sc env H Mu g s) (hx : br sc x = true) (hl : isBlt x = true) (q : Q (cy x) s) :
  wpAny (model X.prog X.w) A (eval (.Name x p) env) Q E s :=
 Name_function_global S.kind (S.kinds.glo _ (isGlo_kind hx)) (loadGlobal_builtin (by rw [S.glob]; exact X.g.keeps S.base) (X.bl x hl).1 (by rw [S.blt]; exact X.b.keeps S.base) (X.bl x hl).2 q) (isGlo_dbg hx)
end
noncomputable def FnSpec (X : Gx) (N : Nat) (f : Value) (vs : List V) (kvs : List (Str × V)) (r : V) : Prop :=
 ∀ (A : Around) (s : Shared) (H : List Addr) (us kus : List Value) (Q E : Value → Shared → Prop),Room A N → Sub X.B0 s.heap → HOk H s.heap → Reps (hideAll s.heap H) vs us → Reps (hideAll s.heap H) (kvs.map (·.2)) kus → bo H s r Q →
  wpAny (model X.prog X.w) A (call f us ((kvs.map (·.1)).zip kus)) Q E s
noncomputable def PmSpec (X : Gx) (N : Nat) (C : Addr) (f : Addr) (vs : List V) (r : V) : Prop :=
 ∀ (A : Around) (s : Shared) (H : List Addr) (ix dx : Addr) (us : List Value) (Q E : Value → Shared → Prop),Room A N → Sub X.B0 s.heap → HOk H s.heap → s.heap.get? ix = some (instObj C dx) → Reps (hideAll s.heap H) vs us → bo H s r Q →
  wpAny (model X.prog X.w) A (call (.ref f) (.ref ix :: us)) Q E s
structure MethAt (X : Gx) (C : Addr) (m : Str) (f : Addr) : Prop where
 get : plainGet X.K C m = true
 find : findIn X.K (.ref C) m = some (some (.ref f))
 fn : isFn X.K (.ref f) = true
 keep : keepIn X.K (.ref f) = true
structure FieldAt (X : Gx) (C : Addr) (f : Str) : Prop where
 get : plainGet X.K C f = true
 has : hasDictIn X.K C = true
 find : findIn X.K (.ref C) f = some none
structure GOk (X : Gx) (G : Ge) (N : Nat) : Prop where
 cst : ∀ x v,G.cst x = some v → ∃ u,X.mg x = some u ∧ ∀ h,Rep h v u
 fn : ∀ f vs kvs r,G.fn f vs kvs = some r → ∃ a,X.mg f = some (.ref a) ∧ keepIn X.K (.ref a) = true ∧ FnSpec X N (.ref a) vs kvs r
 pm : ∀ C m vs r Ca,G.pm C m vs = some r → X.clsA C = some Ca → ∃ f,MethAt X Ca m f ∧ PmSpec X N Ca f vs r
 flds : ∀ C f Ca,f ∈ G.flds C → X.clsA C = some Ca → FieldAt X Ca f
section
variable (X : Gx) (G : Ge) (N : Nat)
noncomputable def cv (n : Nat) : Prop:=∀ (sc : Scope) (env : Env) (H Mu : List Addr) (g : Gam) (s : Shared) (A : Around) (E Q : Value → Shared → Prop) (e : Expr) (v : V),
 St X sc env H Mu g s → Room A (N + n) → ev n G sc g e = some v → bo H s v Q → wpAny (model X.prog X.w) A (eval e env) Q E s
noncomputable def EvTOK (n : Nat) : Prop:=∀ (sc : Scope) (env : Env) (H Mu : List Addr) (g : Gam) (s : Shared) (A : Around) (E : Value → Shared → Prop) (Q : Bool → Shared → Prop) (e : Expr) (b : Bool),
 St X sc env H Mu g s → Room A (N + n) → evT n G sc g e = some b → (∀ s',Kp s s' → Q b s') → wpAny (model X.prog X.w) A (isTrue e env (eval e env)) Q E s
noncomputable def EvBOK (n : Nat) : Prop:=∀ (sc : Scope) (env : Env) (H Mu : List Addr) (g : Gam) (s : Shared) (A : Around) (E Q : Value → Shared → Prop) (op : BoolOp) (es : List Expr) (p : Pos) (v : V),
 St X sc env H Mu g s → Room A (N + n) → evB n G sc g op es = some v → bo H s v Q → wpAny (model X.prog X.w) A (eval (.BoolOp op es p) env) Q E s
noncomputable def EvAOK (n : Nat) : Prop:=∀ (sc : Scope) (env : Env) (H Mu : List Addr) (g : Gam) (s : Shared) (A : Around) (E : Value → Shared → Prop) (Q : Bool → Shared → Prop) (op : BoolOp) (es : List Expr) (b : Bool),
 St X sc env H Mu g s → Room A (N + n) → evA n G sc g op es = some b → (∀ s',Kp s s' → Q b s') → wpAny (model X.prog X.w) A (allTrue op es env) Q E s
noncomputable def EvCOK (n : Nat) : Prop:=∀ (sc : Scope) (env : Env) (H Mu : List Addr) (g : Gam) (s : Shared) (A : Around) (E : Value → Shared → Prop) (x : V) (u : Value) (ops : List CmpOp) (es : List Expr) (b : Bool) (p : Pos),
 St X sc env H Mu g s → Room A (N + n) → evC n G sc g x ops es = some b → Rep (hideAll s.heap H) x u →
  (∀ Q : Value → Shared → Prop,bo H s (.bool b) Q → wpAny (model X.prog X.w) A (compareChain p u ops (evalEach es env)) Q E s) ∧
  (∀ Q : Bool → Shared → Prop,(∀ s',Kp s s' → Q b s') → wpAny (model X.prog X.w) A (testChain p u ops (evalEach es env)) Q E s)
noncomputable def EvOOK (n : Nat) : Prop:=∀ (sc : Scope) (env : Env) (H Mu : List Addr) (g : Gam) (s : Shared) (A : Around) (E Q : Value → Shared → Prop) (o : Option Expr) (r : Option Int),
 St X sc env H Mu g s → Room A (N + n) → evO n G sc g o = some r → (∀ u s',Kp s s' → IsPart u r → Q u s') → wpAny (model X.prog X.w) A (evalPart o env) Q E s
end
section
variable {X : Gx} {G : Ge} {N n : Nat}
theorem Room.up {A : Around} {n : Nat} (r : Room A (N + (n + 1))) : Room A (N + n):=r.mono (by lia)
theorem const_ok {c : Const} {v : V} {env : Env} {H : List Addr} {s : Shared} {A : Around} {E Q : Value → Shared → Prop} {k : Nat} {p : Pos} (e : constV c = some v) (q : bo H s v Q) :
  wpAny (model X.prog X.w) A (eval (.Constant c k p) env) Q E s:=by
 cases c with
 | none =>obtain rfl:=oj e; exact wpAny_Constant_none q.none
 | bool b =>obtain rfl:=oj e; exact wpAny_Constant_bool q.bool
 | int i =>obtain rfl:=oj e; exact wpAny_Constant_int (q.int _ _)
 | str x =>obtain rfl:=oj e; exact wpAny_Constant_str (q.str _ _)
 | bytes b =>obtain rfl:=oj e; exact Constant_bytes (q.bytes (by simp [KBw.bInts]) _ _)
 | _ =>exact nS e
theorem bj {e : Expr} {es : List Expr} {env : Env} {sc : Scope} {g : Gam} {v : V} (h : ev n G sc g e = some v) : starEach (e :: es) env = (false,eval e env) :: starEach es env:=by
 cases e
 case Starred =>cases n <;> exact nomatch (show (Option.none : Option V) = some v from h)
 all_goals rfl
theorem dK (I : cv X G N n) {sc : Scope} {env : Env} {H Mu : List Addr} {g : Gam} {A : Around} {E : Value → Shared → Prop} {p : Pos} (hA : Room A (N + n)) :
  ∀ {es : List Expr} {vs : List V} {s : Shared} {Q : List Value → Shared → Prop},St X sc env H Mu g s → az (ev n G sc g) es = some vs →
   (∀ us s',Kp s s' → Reps (hideAll s'.heap H) vs us → Q us s') → wpAny (model X.prog X.w) A (spliced (backTo p (starEach es env))) Q E s
 | [],vs,s,Q,S,e,q =>by
  simp only [az,Option.some.injEq] at e; subst e
  exact spliced_nil (q [] s (Kp.refl s) .nil)
 | e :: es,vs,s,Q,S,he,q =>by
  unfold az at he
  split at he
  ·rename_i v hv
   refine au he fun ws hw hEqq2 =>?_
   subst hEqq2
   rw [bj hv]
   refine spliced_cons (I _ _ _ _ _ _ _ _ _ _ _ S hA hv fun u s' k r =>?_)
   exact dK I hA (S.kp k) hw fun us s'' k' rs =>q _ _ (k.trans k') (.cons (r.kp k') rs)
  ·exact nS he
theorem bT {p : Pos} {env : Env} {sc : Scope} {g : Gam} : ∀ {es : List Expr} {vs : List V},az (ev n G sc g) es = some vs → (backTo p (starEach es env)).any (·.1) = false
 | [],_,_ =>rfl
 | e :: es,vs,he =>by
  unfold az at he
  split at he
  ·rename_i v hv
   refine au he fun ws hw hEqq2 =>?_
   subst hEqq2
   rw [bj hv]
   show (false || (backTo p (starEach es env)).any (·.1)) = false
   rw [bT hw]; rfl
  ·exact nS he
theorem dj (I : cv X G N n) {sc : Scope} {env : Env} {H Mu : List Addr} {g : Gam} {A : Around} {E : Value → Shared → Prop} {p : Pos} {f : Value} (hA : Room A (N + n))
  {es : List Expr} {vs : List V} {s : Shared} {Q : Args → Shared → Prop} (S : St X sc env H Mu g s) (e : az (ev n G sc g) es = some vs)
  (q : ∀ us s',Kp s s' → Reps (hideAll s'.heap H) vs us → Q ⟨us,[]⟩ s') : wpAny (model X.prog X.w) A (evalArgs f true (backTo p (starEach es env)) []) Q E s:=by
 have h:=dK (p:=p) (E:=E) I hA S e (Q:=fun us s' =>Q ⟨us,[]⟩ s') q
 cases es with
 | nil =>
  simp only [az,Option.some.injEq] at e; subst e
  exact evalArgs_nil3 (q [] s (Kp.refl s) .nil)
 | cons e1 es =>
  unfold az at e
  split at e
  ·rename_i v hv
   rw [bj hv] at h ⊢
   exact evalArgs_plain h
  ·exact nS e
theorem partV_int {v : V} {r : Option Int} (e : ay (some v) = some r) : ∃ i,v = .int i ∧ r = some i:=by
 cases v with
 | int i =>obtain ⟨_,e⟩:=ite_somep e; obtain rfl:=oj e; exact ⟨i,rfl,rfl⟩
 | _ =>exact nS e
theorem evO_ok (I : cv X G N n) : EvOOK X G N (n + 1):=by
 intro sc env H Mu g s A E Q o r S hA e q
 cases o with
 | none =>
  cases (show some Option.none = some r from e)
  rw [evalPart_none]; exact wpAny_pure (q _ _ (Kp.refl s) .none)
 | some ex =>
  refine bc fun hN =>?_
  refine aa (show (ev n G sc g ex).bind (fun v =>ay (some v)) = some r from e) fun v hv e =>?_
  obtain ⟨i,rfl,rfl⟩:=partV_int e
  refine hN ?_; clear hN
  rw [evalPart_some]
  refine I _ _ _ _ _ _ _ _ _ _ _ S hA.up hv fun u s' k rr =>q u s' k ?_
  refine bc fun hN =>?_
  obtain ⟨t,rfl⟩:=aP rr
  refine hN ?_; clear hN
  exact .int _ _
theorem evB_ok (I : cv X G N n) (IB : EvBOK X G N n) : EvBOK X G N (n + 1):=by
 intro sc env H Mu g s A E Q op es p v S hA e q
 cases es with
 | nil =>exact nS (show (Option.none : Option V) = some v from e)
 | cons e1 r =>
  cases r with
  | nil =>exact BoolOp_one (I _ _ _ _ _ _ _ _ _ _ _ S hA.up e q)
  | cons e2 r =>
   cases op with
   | And =>
    refine bc fun hN =>?_
    refine aa (show ((ev n G sc g e1).bind fun v =>v.tru.bind fun b =>cond b (evB n G sc g .And (e2 :: r)) (some v)) = some v from e) fun v1 hv1 e =>?_
    refine aa e fun b hb e =>?_
    refine hN ?_; clear hN
    refine BoolOp_and (I _ _ _ _ _ _ _ _ _ _ _ S hA.up hv1 fun u s' k rr =>tru_ok hb rr ?_)
    cases b with
    | true =>exact IB _ _ _ _ _ _ _ _ _ _ _ _ _ (S.kp k) hA.up e (q.after k)
    | false =>obtain rfl:=oj e; exact q u s' k rr
   | Or =>
    refine bc fun hN =>?_
    refine aa (show ((ev n G sc g e1).bind fun v =>v.tru.bind fun b =>cond b (some v) (evB n G sc g .Or (e2 :: r))) = some v from e) fun v1 hv1 e =>?_
    refine aa e fun b hb e =>?_
    refine hN ?_; clear hN
    refine BoolOp_or (I _ _ _ _ _ _ _ _ _ _ _ S hA.up hv1 fun u s' k rr =>tru_ok hb rr ?_)
    cases b with
    | true =>obtain rfl:=oj e; exact q u s' k rr
    | false =>exact IB _ _ _ _ _ _ _ _ _ _ _ _ _ (S.kp k) hA.up e (q.after k)
theorem evA_ok (IT : EvTOK X G N n) (IA : EvAOK X G N n) : EvAOK X G N (n + 1):=by
 intro sc env H Mu g s A E Q op es b S hA e q
 cases es with
 | nil =>
  cases (show some (op == .And) = some b from e)
  cases op with
  | And =>exact wpAny_allTrue_And_nil (q s (Kp.refl s))
  | Or =>exact wpAny_allTrue_Or_nil (q s (Kp.refl s))
 | cons e1 r =>
  cases op with
  | And =>
   refine aa (show ((evT n G sc g e1).bind fun b =>cond b (evA n G sc g .And r) (some false)) = some b from e) fun c hc e =>?_
   refine wpAny_allTrue_And_cons (IT _ _ _ _ _ _ _ _ _ _ _ S hA.up hc fun s' k =>?_)
   cases c with
   | true =>exact IA _ _ _ _ _ _ _ _ _ _ _ _ (S.kp k) hA.up e fun s'' k' =>q s'' (k.trans k')
   | false =>obtain rfl:=oj e; exact q s' k
  | Or =>
   refine aa (show ((evT n G sc g e1).bind fun b =>cond b (some true) (evA n G sc g .Or r)) = some b from e) fun c hc e =>?_
   refine wpAny_allTrue_Or_cons (IT _ _ _ _ _ _ _ _ _ _ _ S hA.up hc fun s' k =>?_)
   cases c with
   | true =>obtain rfl:=oj e; exact q s' k
   | false =>exact IA _ _ _ _ _ _ _ _ _ _ _ _ (S.kp k) hA.up e fun s'' k' =>q s'' (k.trans k')
theorem rep_bool {h : Heap} {c : Bool} {u : Value} (r : Rep h (.bool c) u) : u = .bool c:=by unfold Rep at r; exact r
theorem evC_ok (I : cv X G N n) (IC : EvCOK X G N n) : EvCOK X G N (n + 1):=by
 intro sc env H Mu g s A E x u ops es b p S hA e hx
 cases ops with
 | nil =>exact nS (show (Option.none : Option Bool) = some b from e)
 | cons op ops =>
  cases es with
  | nil =>exact nS (show (Option.none : Option Bool) = some b from e)
  | cons e1 es =>
   obtain ⟨y,hy,e⟩:=cx (show ((ev n G sc g e1).bind fun y =>(ap op x y).bind fun b =>(match (generalizing:=false) ops with
    | [] =>(match (generalizing:=false) es with
     | [] =>some b
     | _ :: _ =>.none)
    | _ :: _ =>(match (generalizing:=false) es with
     | [] =>.none
     | _ :: _ =>cond b (evC n G sc g y ops es) (some false)))) = some b from e)
   refine bc fun hN =>?_
   refine aa e fun c hc e =>?_
   refine hN ?_; clear hN
   cases ops with
   | nil =>
    cases es with
    | cons _ _ =>exact nS e
    | nil =>
     obtain rfl:=oj e
     exact ⟨fun Q q =>chain_last (I _ _ _ _ _ _ _ _ _ _ _ S hA.up hy fun v s' k r =>cmpV_ok hA.u hc (hx.kp k) r (q.after k)),fun Q q =>test_last (I _ _ _ _ _ _ _ _ _ _ _ S hA.up hy fun v s' k r =>cmpV_ok hA.u hc (hx.kp k) r fun c s'' k' rr =>rep_bool rr ▸ wpAny_truthy_bool (q s'' (k.trans k')))⟩
   | cons op2 ops =>
    cases es with
    | nil =>cases e
    | cons e2 es =>
     refine ⟨fun Q q =>chain_link (I _ _ _ _ _ _ _ _ _ _ _ S hA.up hy fun v s' k r =>cmpV_ok hA.u hc (hx.kp k) r fun c' s'' k' rr =>rep_bool rr ▸ wpAny_truthy_bool ?_),fun Q q =>test_link (I _ _ _ _ _ _ _ _ _ _ _ S hA.up hy fun v s' k r =>cmpV_ok hA.u hc (hx.kp k) r fun c' s'' k' rr =>rep_bool rr ▸ wpAny_truthy_bool ?_)⟩
     ·cases c with
      | true =>exact (IC _ _ _ _ _ _ A E _ _ _ _ _ p (S.kp (k.trans k')) hA.up e (r.kp k')).1 Q (q.after (k.trans k'))
      | false =>cases e; exact (q.after (k.trans k')).bool
     ·cases c with
      | true =>exact (IC _ _ _ _ _ _ A E _ _ _ _ _ p (S.kp (k.trans k')) hA.up e (r.kp k')).2 Q fun s3 k3 =>q s3 ((k.trans k').trans k3)
      | false =>cases e; exact q s'' (k.trans k')
end
noncomputable def cV (o : Obj) : Prop:=∃ items n,o.data = .seq items n
inductive Itr (X : Gx) (A : Around) (H : List Addr) (s : Shared) (xs : List V) (it : Value) (s₂ : Shared) : Prop
 | mk (I : Addr) (fp wr : List Addr) (P : Nat → Value → Prop) (S : Nat → Heap → Prop) (e : it = .ref I) (W : Walks X.prog X.w A I fp wr xs.length P S) (hS : S 0 s₂.heap)
  (hw : ∀ b ∈ wr,s.heap.get? b = none ∧ b < s₂.heap.objs.size)
  (hf : ∀ b ∈ fp,(b ∈ wr ∧ s.heap.get? b = none ∧ b < s₂.heap.objs.size) ∨ ∃ o,s.heap.get? b = some o ∧ b ∉ H ∧ cV o)
  (hP : ∀ i u,P i u → ∃ x,xs[i]? = some x ∧ Rep (hideAll s.heap H) x u)
  (hn : ∀ (i : Nat) (h : Heap),S i h → ∀ b ∈ wr,(∃ o,h.get? b = some o) ∧ ∀ o,h.get? b = some o → ¬ cV o ∧ o.data ≠ .plain)
  (hl : ∀ (i : Nat) (u : Value) (s' : Shared) (tgt : Expr) (Q : Unit → Shared → Prop) (E : Value → Shared → Prop),S (i + 1) s'.heap → Q () s' → wpAny (model X.prog X.w) A (letOwnedTupleGo tgt (.ref I) u) Q E s') : Itr X A H s xs it s₂
theorem go_of {M : Model} {A : Around} {I : Addr} {u : Value} {s' : Shared} {tgt : Expr} {Q : Unit → Shared → Prop} {E : Value → Shared → Prop} {o : Obj} {n : String} (ho : s'.heap.get? I = some o) (hc : o.cls = .type n)
  (hn : (["enumerate","zip","dict_itemiterator","dict_reverseitemiterator","odict_iterator","itertools.zip_longest","itertools.pairwise"].contains n) = false) (q : Q () s') : wpAny M A (letOwnedTupleGo tgt (.ref I) u) Q E s':=by
 cases tgt
 case Tuple =>
  unfold letOwnedTupleGo
  cases u <;> try exact wpAny_pure q
  refine wpAny_bind (wpAny_load ho ?_)
  rw [hc]
  split
  ·rename_i n' vs e1 e2
   cases e1
   rw [hn,Bool.false_and,if_neg (by decide)]
   exact wpAny_pure q
  ·exact wpAny_pure q
 case List =>
  unfold letOwnedTupleGo
  cases u <;> try exact wpAny_pure q
  refine wpAny_bind (wpAny_load ho ?_)
  rw [hc]
  split
  ·rename_i n' vs e1 e2
   cases e1
   rw [hn,Bool.false_and,if_neg (by decide)]
   exact wpAny_pure q
  ·exact wpAny_pure q
 all_goals exact wpAny_pure q
section
variable (X : Gx) (G : Ge) (N : Nat)
noncomputable def EvIOK (n : Nat) : Prop:=∀ (sc : Scope) (env : Env) (H Mu : List Addr) (g : Gam) (s : Shared) (A : Around) (E : Value → Shared → Prop) (Q : Value → Shared → Prop) (e : Expr) (xs : List V),
 St X sc env H Mu g s → Room A (N + n) → evI n G sc g e = some xs → (∀ it s₁ s₂,Kp s s₁ → Kp s₁ s₂ → Itr X A H s₁ xs it s₂ → Q it s₂) →
  wpAny (model X.prog X.w) A (eval e env) (fun xv s₁ =>wpAny (model X.prog X.w) A (pyIter xv) Q E s₁) E s
end
section
variable {X : Gx} {G : Ge} {N n : Nat}
theorem aG {s s' : Shared} (k : Kp s s') {b : Addr} (h : s'.heap.get? b = none) : s.heap.get? b = none:=by
 cases e : s.heap.get? b with
 | none =>rfl
 | some o =>rw [k.keep b o e] at h; cases h
theorem ck {h : Heap} : h.get? h.objs.size = none:=by
 cases e : h.get? h.objs.size with
 | none =>rfl
 | some o =>exact absurd (Heap.lt_size e) (Nat.lt_irrefl _)
theorem gL {s s' : Shared} (k : Kp s s') : s.heap.get? s'.heap.objs.size = none:=aG k ck
theorem items_ok {A : Around} {H : List Addr} {s₁ : Shared} {v : V} {u : Value} {xs : List V} {E Q : Value → Shared → Prop} (hh : A.handled = none) (e : ao v = some xs) (r : Rep (hideAll s₁.heap H) v u) (q : ∀ it s₂,Kp s₁ s₂ → Itr X A H s₁ xs it s₂ → Q it s₂) :
  wpAny (model X.prog X.w) A (pyIter u) Q E s₁:=by
 have old : ∀ (o : Obj),s₁.heap.objs.size < (s₁.heap.push o).objs.size:=fun o =>by rw [Heap.size_push]; exact Nat.lt_succ_self _
 have seqOf : ∀ {a : Addr} {o : Obj},(hideAll s₁.heap H).get? a = some o → cV o → ∃ o,s₁.heap.get? a = some o ∧ a ∉ H ∧ cV o:=fun {a o} ho hs =>⟨_,of_hideAll H ho,bq ho,hs⟩
 unfold ao at e
 split at e
 ·split at e
  ·cases e
   unfold Rep at r; obtain ⟨a,us,rfl,hl,hr⟩:=r
   refine bc fun hN =>?_
   obtain ⟨o,ho,hc,m,hd⟩:=id hl
   refine hN ?_; clear hN
   have hl':=aK hl
   have hne : a ≠ s₁.heap.objs.size:=Nat.ne_of_lt (Heap.lt_size (of_hideAll H ho))
   refine wpAny_pyIter_list hl' (q _ _ (Kp.push _) ⟨_,_,_,_,_,rfl,by rw [← hr.size]; exact Walks.list hh _ a hne us.toArray,?_,?_,?_,?_,?_,?_⟩)
   ·exact ⟨⟨_,Heap.get?_push_size _ rfl,rfl,rfl⟩,⟨_,Heap.get?_push_of_some _ (of_hideAll H ho),hc,m,hd⟩⟩
   ·intro b hb; rw [List.mem_singleton.mp hb]; exact ⟨ck,old _⟩
   ·intro b hb
    rcases List.mem_cons.mp hb with rfl | hb
    ·exact .inl ⟨.head _,ck,old _⟩
    ·rw [List.mem_singleton.mp hb]; exact .inr (seqOf ho ⟨_,_,hd⟩)
   ·intro i u hi
    have hi' : us[i]? = some u:=by simpa using hi
    have hlt : i < xs.length:=Nat.lt_of_lt_of_eq (List.getElem?_eq_some_iff.mp hi').1 hr.length
    refine bc fun hN =>?_
    obtain ⟨v,e1,rv⟩:=hr.get (List.getElem?_eq_getElem hlt)
    refine hN ?_; clear hN
    rw [hi'] at e1; cases e1
    exact ⟨_,List.getElem?_eq_getElem hlt,rv⟩
   ·intro i h hS b hb
    refine bc fun hN =>?_
    obtain ⟨⟨o',ho',hc',hd'⟩,_⟩:=hS
    refine hN ?_; clear hN
    refine ⟨⟨o',by rw [List.mem_singleton.mp hb]; exact ho'⟩,fun o ho =>?_⟩
    rw [List.mem_singleton.mp hb] at ho
    rw [ho] at ho'; cases ho'
    exact ⟨fun ⟨_,_,hq⟩ =>(by rw [hd'] at hq; cases hq),fun hq =>by rw [hd'] at hq; cases hq⟩
   ·intro i u s' tgt Q' E' hS q'
    refine bc fun hN =>?_
    obtain ⟨⟨o',ho',hc',_⟩,_⟩:=hS
    refine hN ?_; clear hN
    exact go_of ho' hc' (by decide) q'
  ·exact nS e
 ·split at e
  ·cases e
   unfold Rep at r; obtain ⟨a,us,rfl,hl,hr⟩:=r
   refine bc fun hN =>?_
   obtain ⟨o,ho,hc,m,hd⟩:=id hl
   refine hN ?_; clear hN
   have hl' : s₁.heap.IsTuple a us.toArray:=bZ hl
   have hne : a ≠ s₁.heap.objs.size:=Nat.ne_of_lt (Heap.lt_size (of_hideAll H ho))
   refine wpAny_pyIter_tuple hl' (q _ _ (Kp.push _) ⟨_,_,_,_,_,rfl,by rw [← hr.size]; exact Walks.tuple hh _ a hne us.toArray,?_,?_,?_,?_,?_,?_⟩)
   ·exact ⟨⟨_,Heap.get?_push_size _ rfl,rfl,rfl⟩,⟨_,Heap.get?_push_of_some _ (of_hideAll H ho),hc,m,hd⟩⟩
   ·intro b hb; rw [List.mem_singleton.mp hb]; exact ⟨ck,old _⟩
   ·intro b hb
    rcases List.mem_cons.mp hb with rfl | hb
    ·exact .inl ⟨.head _,ck,old _⟩
    ·rw [List.mem_singleton.mp hb]; exact .inr (seqOf ho ⟨_,_,hd⟩)
   ·intro i u hi
    have hi' : us[i]? = some u:=by simpa using hi
    have hlt : i < xs.length:=Nat.lt_of_lt_of_eq (List.getElem?_eq_some_iff.mp hi').1 hr.length
    refine bc fun hN =>?_
    obtain ⟨v,e1,rv⟩:=hr.get (List.getElem?_eq_getElem hlt)
    refine hN ?_; clear hN
    rw [hi'] at e1; cases e1
    exact ⟨_,List.getElem?_eq_getElem hlt,rv⟩
   ·intro i h hS b hb
    refine bc fun hN =>?_
    obtain ⟨⟨o',ho',hc',hd'⟩,_⟩:=hS
    refine hN ?_; clear hN
    refine ⟨⟨o',by rw [List.mem_singleton.mp hb]; exact ho'⟩,fun o ho =>?_⟩
    rw [List.mem_singleton.mp hb] at ho
    rw [ho] at ho'; cases ho'
    exact ⟨fun ⟨_,_,hq⟩ =>(by rw [hd'] at hq; cases hq),fun hq =>by rw [hd'] at hq; cases hq⟩
   ·intro i u s' tgt Q' E' hS q'
    refine bc fun hN =>?_
    obtain ⟨⟨o',ho',hc',_⟩,_⟩:=hS
    refine hN ?_; clear hN
    exact go_of ho' hc' (by decide) q'
  ·cases e
 ·split at e
  ·obtain rfl:=oj e
   rename_i ks hz
   unfold Rep at r; obtain ⟨b,t,rfl,rfl⟩:=r
   have hl : ((KBw.bInts b).map V.int).length = b.size:=by simp [KBw.bInts]
   refine KBw.pyIter_bytes (q _ _ (Kp.push _) ⟨_,_,_,_,_,rfl,by rw [hl]; exact KBw.walks hh _ b t,?_,?_,?_,?_,?_,?_⟩)
   ·exact ⟨_,Heap.get?_push_size _ rfl,rfl,rfl⟩
   ·intro b hb; rw [List.mem_singleton.mp hb]; exact ⟨ck,old _⟩
   ·intro b hb; rw [List.mem_singleton.mp hb]; exact .inl ⟨.head _,ck,old _⟩
   ·rintro i u ⟨c,t',hc,rfl⟩
    refine ⟨.int (c.toNat : Int),?_,by unfold Rep; exact ⟨t',rfl⟩⟩
    have : b.toList[i]? = some c:=by simpa using hc
    simp [KBw.bInts,this]
   ·intro i h hS b hb
    refine bc fun hN =>?_
    obtain ⟨o',ho',hc',hd'⟩:=hS
    refine hN ?_; clear hN
    refine ⟨⟨o',by rw [List.mem_singleton.mp hb]; exact ho'⟩,fun o ho =>?_⟩
    rw [List.mem_singleton.mp hb] at ho
    rw [ho] at ho'; obtain rfl:=oj ho'
    exact ⟨fun ⟨_,_,hq⟩ =>(by rw [hd'] at hq; cases hq),fun hq =>by rw [hd'] at hq; cases hq⟩
   ·intro i u s' tgt Q' E' hS q'
    refine bc fun hN =>?_
    obtain ⟨o',ho',hc',_⟩:=hS
    refine hN ?_; clear hN
    exact go_of ho' hc' (by decide) q'
  ·cases e
 ·cases e
theorem nb {a : Int} (h : a.natAbs < 1073741824) : -1073741824 ≤ a ∧ a ≤ 1073741824:=by lia
theorem rs1 {a b : Int} : Builtin.Range.rangeSize a b 1 = ((b - a).toNat : Int):=by
 unfold Builtin.Range.rangeSize
 rw [if_pos (by decide)]
 split
 ·rename_i h; rw [Int.ediv_one,Int.sub_add_cancel,Int.toNat_of_nonneg (Int.le_of_lt (Int.sub_pos.mpr h))]
 ·rename_i h; rw [Int.toNat_of_nonpos (Int.sub_nonpos_of_le (Int.not_lt.mp h))]; rfl
theorem range_ok {A : Around} {H : List Addr} {s s₁ : Shared} {r : Addr} {a b c : Int} {t u v : Tok} {xs : List V} {E Q : Value → Shared → Prop} (hh : A.handled = none) (k : Kp s s₁) (hr : IsRange s₁.heap r a b c t u v) (ha : a.natAbs < 1073741824) (hb : b.natAbs < 1073741824) (hc1 : 1 ≤ c) (hc2 : c ≤ 64)
  (hn : Builtin.Range.rangeSize a b c = (xs.length : Int)) (hx : ∀ i,i < xs.length → xs[i]? = some (.int (a + i * c))) (q : ∀ it s₂,Kp s s₂ → Itr X A H s xs it s₂ → Q it s₂) :
  wpAny (model X.prog X.w) A (pyIter (.ref r)) Q E s₁:=by
 have old : ∀ (o : Obj),s₁.heap.objs.size < (s₁.heap.push o).objs.size:=fun o =>by rw [Heap.size_push]; exact Nat.lt_succ_self _
 have hsz : (xs.length : Int) ≤ 4294967296:=by
  rw [← hn]; unfold Builtin.Range.rangeSize
  rw [if_pos (show c > 0 from hc1)]
  split
  ·rename_i h; exact Int.add_one_le_of_lt (Int.lt_of_le_of_lt (Int.ediv_le_self _ (Int.le_sub_one_of_lt (Int.sub_pos.mpr h))) (Int.lt_of_le_of_lt (Int.sub_le_self _ (by decide)) (Int.lt_of_le_of_lt (Int.sub_le_sub (nb hb).2 (nb ha).1) (by decide))))
  ·decide
 have fit : ∀ {x : Int},-4294967296 ≤ x → x ≤ 4294967296 → Builtin.Range.rangeFitsLong x = true:=fun h1 h2 =>by
  unfold Builtin.Range.rangeFitsLong
  rw [Bool.and_eq_true,decide_eq_true_eq,decide_eq_true_eq]
  exact ⟨Int.le_trans (by decide) h1,Int.lt_of_le_of_lt h2 (by decide)⟩
 have hsm : Builtin.Range.small a b c = true:=by
  unfold Builtin.Range.small
  rw [hn,fit (x:=a) (Int.le_trans (by decide) (nb ha).1) (Int.le_trans (nb ha).2 (by decide)),fit (x:=b) (Int.le_trans (by decide) (nb hb).1) (Int.le_trans (nb hb).2 (by decide)),fit (x:=c) (Int.le_trans (by decide) hc1) (Int.le_trans hc2 (by decide)),fit (x:=xs.length) (Int.le_trans (by decide) (Int.natCast_nonneg _)) hsz,if_pos (show c > 0 from hc1),fit (x:=b + (c - 1)) (Int.le_trans (by decide) (Int.add_le_add (nb hb).1 (Int.sub_le_sub_right hc1 1))) (Int.le_trans (Int.add_le_add (nb hb).2 (Int.sub_le_sub_right hc2 1)) (by decide))]
  simp
 refine wpAny_pyIter_range hr hsm (q _ _ (k.trans (Kp.push _)) ⟨_,_,_,_,_,rfl,(Walks.range hh _ a c xs.length).bound,?_,?_,?_,?_,?_,?_⟩)
 ·show Heap.get? _ _ = _
  rw [hn]
  simpa using Heap.get?_push_size _ rfl
 ·intro b hb; rw [List.mem_singleton.mp hb]; exact ⟨gL k,old _⟩
 ·intro b hb; rw [List.mem_singleton.mp hb]; exact .inl ⟨.head _,gL k,old _⟩
 ·rintro i u ⟨hi,t',rfl⟩
  exact ⟨_,hx i hi,by unfold Rep; exact ⟨t',rfl⟩⟩
 ·intro i h hS b hb
  have hS' : h.get? _ = some _:=hS
  refine ⟨⟨_,by rw [List.mem_singleton.mp hb]; exact hS'⟩,fun o ho =>?_⟩
  rw [List.mem_singleton.mp hb] at ho
  rw [ho] at hS'; obtain rfl:=oj hS'
  exact ⟨fun ⟨_,_,hq⟩ =>(by cases hq),fun hq =>by cases hq⟩
 ·intro i u s' tgt Q' E' hS q'
  exact go_of hS rfl (by decide) q'
theorem iterV_ok {A : Around} {H : List Addr} {s s₁ : Shared} {f : Str} {vs : List V} {us : List Value} {xs : List V} {E Q : Value → Shared → Prop} (hh : A.handled = none) (k : Kp s s₁) (e : bM f vs = some xs) (hr : Reps (hideAll s₁.heap H) vs us) (q : ∀ it s₂,Kp s s₂ → Itr X A H s xs it s₂ → Q it s₂) :
  wpAny (model X.prog X.w) A (call (cy f) us []) (fun xv s' =>wpAny (model X.prog X.w) A (pyIter xv) Q E s') E s₁:=by
 unfold bM at e
 split at e
 ·rename_i hf
  have : f = ("range" : Str):=beq_iff_eq.mp hf
  subst this
  show wpAny (model X.prog X.w) A (call (.type "range") us []) _ E s₁
  refine aa e fun ns en er =>?_
  clear e
  obtain rfl:=intsV_inv en
  clear en
  cases ns with
  | nil =>exact nS er
  | cons a ns =>
  cases ns with
  | nil =>
   refine aE er fun hz er =>?_
   obtain rfl:=oj er
   simp only [small,Bool.and_eq_true,decide_eq_true_eq] at hz
   obtain ⟨v,rfl,h1⟩:=hr.one
   unfold Rep at h1; obtain ⟨t,rfl⟩:=h1
   refine call_range_1 (range_ok hh (k.trans (Kp.mk' (fun _ _ e =>Heap.get?_push_of_some _ e))) (Heap.get?_push_size _ rfl) (by decide) hz.2 (by decide) (by decide) ?_ ?_ q)
   ·rw [rs1,dH,List.length_map,List.length_range]
   ·intro i hi
    simp only [dH,List.length_map,List.length_range] at hi
    rw [Int.sub_zero] at hi
    simp [dH,hi]
  | cons b ns =>
  cases ns with
  | nil =>
   refine aE er fun hz er =>?_
   obtain rfl:=oj er
   simp only [small,Bool.and_eq_true,decide_eq_true_eq] at hz
   obtain ⟨v,w,rfl,h1,h2⟩:=hr.two
   unfold Rep at h1 h2; obtain ⟨t,rfl⟩:=h1; obtain ⟨t',rfl⟩:=h2
   refine call_range_2 (range_ok hh (k.trans (Kp.mk' (fun _ _ e =>Heap.get?_push_of_some _ e))) (Heap.get?_push_size _ rfl) hz.1.1 hz.2 (by decide) (by decide) ?_ ?_ q)
   ·rw [rs1,dH,List.length_map,List.length_range]
   ·intro i hi
    simp only [dH,List.length_map,List.length_range] at hi
    simp [dH,hi]
  | cons c ns =>
  cases ns with
  | cons _ _ =>exact nS er
  | nil =>
   refine aE er fun hz er =>?_
   obtain rfl:=oj er
   simp only [small,Bool.and_eq_true,decide_eq_true_eq] at hz
   obtain ⟨v,w,z,rfl,h1,h2,h3⟩:=hr.three
   unfold Rep at h1 h2 h3; obtain ⟨t,rfl⟩:=h1; obtain ⟨t',rfl⟩:=h2; obtain ⟨t'',rfl⟩:=h3
   refine call_range_3 (Int.ne_of_gt hz.1.2) (range_ok hh (k.trans (Kp.mk' (fun _ _ e =>Heap.get?_push_of_some _ e))) (Heap.get?_push_size _ rfl) hz.1.1.1.1 hz.1.1.2 hz.1.2 hz.2 ?_ ?_ q)
   ·simp only [dR,List.length_map,List.length_range,Builtin.Range.rangeSize]
    rw [if_pos (show c > 0 from hz.1.2)]
    refine (Int.toNat_of_nonneg ?_).symm
    split
    ·rename_i h; exact Int.le_add_one (Int.ediv_nonneg (Int.le_sub_one_of_lt (Int.sub_pos.mpr h)) (Int.le_trans (by decide) hz.1.2))
    ·exact Int.le_refl 0
   ·intro i hi
    simp only [dR,List.length_map,List.length_range] at hi
    simp [dR,hi]
 ·exact nS e
end
structure CompOk (sc csc : Scope) (x : Str) : Prop where
 kind : csc.kind = .function
 nocell : ∀ p ∈ csc.names,p.2 ≠ .cell
 loc : ∀ p ∈ csc.names,p.2 = .local → (p.1 = x ∨ p.1 = (".0" : Str)) ∧ csc.names.lookup p.1 = some .local
 fre : ∀ p ∈ csc.names,p.2 = .free → sc.names.lookup p.1 = some .cell ∨ sc.names.lookup p.1 = some .free
 tgt : csc.names.lookup x = some .local
 nself : x ≠ ("self" : Str)
theorem compOk_of {sc csc : Scope} {x : Str} (h : compOk sc csc x = true) : CompOk sc csc x:=by
 unfold compOk at h
 simp only [Bool.and_eq_true,List.all_eq_true,Bool.or_eq_true,bne_iff_ne,beq_iff_eq] at h
 refine bc fun hN =>?_
 obtain ⟨⟨⟨h1,h4⟩,h2⟩,h3⟩:=h
 refine hN ?_; clear hN
 refine ⟨h1,fun p hp =>(h2 p hp).1.1,fun p hp hl =>?_,fun p hp hf =>?_,h3,h4⟩
 ·rcases (h2 p hp).1.2 with a | a
  ·exact absurd hl a
  ·exact a
 ·rcases (h2 p hp).2 with (a | a) | a
  ·exact absurd hf a
  ·exact .inl a
  ·exact .inr a
theorem aJ {α : Type} {l : List (Str × α)} {x : Str} {k : α} (h : l.lookup x = some k) : (x,k) ∈ l:=by
 induction l with
 | nil =>simp at h
 | cons p r ih =>
  obtain ⟨n,k'⟩:=p
  rw [List.lookup_cons] at h
  cases e : x == n with
  | true =>rw [e] at h; obtain rfl:=oj h; rw [beq_iff_eq.mp e]; exact .head _
  | false =>rw [e] at h; exact .tail _ (ih h)
theorem gA {env : Env} : ∀ {names : List (Str × NameKind)},(∀ p ∈ names,p.2 = .free → (env.cells.lookup p.1).isSome = true) →
  ∀ (acc : List (Str × Addr)) (f : Str × NameKind → List (Str × Addr) → Sem (ForInStep (List (Str × Addr)))),
   (∀ p cs,f p cs = if (p.2 == .free) = true then (do let c ← cellOf env p.1; pure (.yield ((p.1,c) :: cs))) else pure (.yield cs)) →
   (∀ x c,acc.lookup x = some c → env.cells.lookup x = some c) →
   ∃ cl,forIn names acc f = pure cl ∧ (∀ x c,cl.lookup x = some c → env.cells.lookup x = some c) ∧ (∀ x c,acc.lookup x = some c → cl.lookup x = some c) ∧ ∀ x,(x,NameKind.free) ∈ names → (cl.lookup x).isSome = true
 | [],_,acc,f,hf,ha =>⟨acc,by simp,ha,fun _ _ h =>h,fun _ h =>by cases h⟩
 | (n,k) :: r,h,acc,f,hf,ha =>by
  simp only [List.forIn_cons,hf]
  have hr : ∀ p ∈ r,p.2 = .free → (env.cells.lookup p.1).isSome = true:=fun p hp =>h p (.tail _ hp)
  cases hk : k == NameKind.free with
  | true =>
   have hk' : k = .free:=beq_iff_eq.mp hk
   subst hk'
   refine bc fun hN =>?_
   obtain ⟨c,hc⟩:=Option.isSome_iff_exists.mp (h (n,.free) (.head _) rfl)
   have e1 : cellOf env n = pure c:=by unfold cellOf; rw [hc]
   have ha' : ∀ x c',List.lookup x ((n,c) :: acc) = some c' → env.cells.lookup x = some c':=fun x c' hx =>by
    rw [List.lookup_cons] at hx
    cases e : x == n with
    | true =>rw [e] at hx; obtain rfl:=oj hx; simp only [beq_iff_eq.mp e,hc]
    | false =>rw [e] at hx; exact ha x c' hx
   obtain ⟨cl,h1,h2,h3,h4⟩:=gA hr ((n,c) :: acc) f hf ha'
   refine hN ?_; clear hN
   have hh : (cl.lookup n).isSome = true:=by rw [h3 n c (by simp)]; rfl
   refine ⟨cl,?_,h2,fun x c' hx =>?_,fun x hm =>?_⟩
   ·simp only [e1,pure_bind]; exact h1
   ·cases e : x == n with
    | true =>rw [beq_iff_eq.mp e] at hx ⊢; simp only [h3 n c (by simp),← hc,ha _ _ hx]
    | false =>exact h3 x c' (by simp only [List.lookup_cons,e]; exact hx)
   ·rcases List.mem_cons.mp hm with e | hm
    ·cases e; exact hh
    ·exact h4 x hm
  | false =>
   refine bc fun hN =>?_
   obtain ⟨cl,h1,h2,h3,h4⟩:=gA hr acc f hf ha
   refine hN ?_; clear hN
   refine ⟨cl,?_,h2,h3,fun x hm =>?_⟩
   ·simp only [hk,Bool.false_eq_true,if_false,pure_bind]; exact h1
   ·rcases List.mem_cons.mp hm with e | hm
    ·cases e; cases hk
    ·exact h4 x hm
theorem closureFor_ok {env : Env} {csc : Scope} (h : ∀ p ∈ csc.names,p.2 = .free → (env.cells.lookup p.1).isSome = true) :
  ∃ cl,closureFor csc env = pure cl ∧ (∀ x c,cl.lookup x = some c → env.cells.lookup x = some c) ∧ ∀ x,(x,NameKind.free) ∈ csc.names → (cl.lookup x).isSome = true:=by
 unfold closureFor
 refine bc fun hN =>?_
 obtain ⟨cl,h1,h2,_,h4⟩:=gA h [] _ (fun p cs =>rfl) (fun _ _ h =>by simp at h)
 refine hN ?_; clear hN
 refine ⟨cl,?_,h2,h4⟩
 exact (congrArg (· >>= pure) h1).trans rfl
theorem eT {env : Env} : ∀ {names : List (Str × NameKind)} {x : Str} {k : NameKind},names.lookup x = some k →
  (names.map fun (n,k) =>if (k == NameKind.free && env.scope.kind == .function && env.kindOf n == some .cell) then (n,NameKind.cell) else (n,k)).lookup x = some (if (k == NameKind.free && env.scope.kind == .function && env.kindOf x == some .cell) then .cell else k)
 | [],x,k,h =>by simp at h
 | (n,k') :: r,x,k,h =>by
  show List.lookup x ((if (k' == NameKind.free && env.scope.kind == .function && env.kindOf n == some .cell) = true then (n,NameKind.cell) else (n,k')) :: _) = _
  cases hx : x == n with
  | true =>
   simp only [List.lookup_cons,hx] at h
   obtain rfl:=oj h
   have:=beq_iff_eq.mp hx; subst this
   split <;> simp [List.lookup_cons]
  | false =>
   simp only [List.lookup_cons,hx] at h
   have ih:=eT (env:=env) h
   split <;> simp only [List.lookup_cons,hx] <;> exact ih
theorem comp_kinds {env : Env} {csc : Scope} {cl : List (Str × Addr)} {C : Addr} (hf : ∀ x,(x,NameKind.free) ∈ csc.names → (cl.lookup x).isSome = true) (hc : ∀ p ∈ csc.names,p.2 ≠ .cell) : KindsOk csc (compEnvC csc cl C env) where
 loc x h:=lookup_relabel_local h
 cel x h:=absurd rfl (hc _ (aJ h))
 fre x h:=by
  have:=eT (env:=env) h
  show List.lookup x _ = _ ∨ List.lookup x _ = _
  rw [show (compEnvC csc cl C env).scope.names = (csc.names.map fun (n,k) =>if (k == NameKind.free && env.scope.kind == .function && env.kindOf n == some .cell) then (n,NameKind.cell) else (n,k)) from rfl,this]
  split
  ·exact .inl rfl
  ·exact .inr rfl
 glo x h:=by
  have:=eT (env:=env) h
  show List.lookup x _ = _
  rw [show (compEnvC csc cl C env).scope.names = (csc.names.map fun (n,k) =>if (k == NameKind.free && env.scope.kind == .function && env.kindOf n == some .cell) then (n,NameKind.cell) else (n,k)) from rfl,this]
  rfl
 has x h:=by
  rcases h with h | h
  ·exact absurd rfl (hc _ (aJ h))
  ·exact hf x (aJ h)
theorem aY {α : Type} {x y : Str} {a : α} : ∀ {g : List (Str × α)},(ae x a g).lookup y = if y = x then some a else g.lookup y
 | [] =>by
  simp only [ae,List.lookup_cons,List.lookup_nil]
  by_cases h : y = x
  ·subst h; simp
  ·have : (y == x) = false:=by simpa using h
   simp only [this,if_neg h]
 | (z,b) :: r =>by
  unfold ae
  cases hz : z == x with
  | true =>
   have:=beq_iff_eq.mp hz; subst this
   simp only [if_true,List.lookup_cons]
   by_cases h : y = z
   ·subst h; simp
   ·have : (y == z) = false:=by simpa using h
    rw [this,if_neg h]
  | false =>
   simp only [Bool.false_eq_true,if_false,List.lookup_cons]
   have hzx : ¬ z = x:=by simpa using hz
   by_cases h : y = z
   ·subst h; simp [hzx]
   ·have : (y == z) = false:=by simpa using h
    rw [this]; exact aY
theorem CompOk.up {sc csc : Scope} {y : Str} (c : CompOk sc csc y) {z : Str} (hz : ax csc z = true) (hzy : z ≠ y) : ax sc z = true ∧ csc.names.lookup z = some .free:=by
 have hnl : csc.names.lookup z ≠ some .local:=fun e =>by
  rcases (c.loc _ (aJ e) rfl).1 with a | a
  ·exact hzy a
  ·have:=isLoc_not0 hz; rw [show z = (".0" : Str) from a] at this; simp at this
 have hnc : csc.names.lookup z ≠ some .cell:=fun e =>c.nocell _ (aJ e) rfl
 have hfr : csc.names.lookup z = some .free:=by
  unfold ax at hz
  simp only [Bool.and_eq_true,Bool.or_eq_true,beq_iff_eq] at hz
  rcases hz.2 with (a | a) | a
  ·exact absurd a hnl
  ·exact absurd a hnc
  ·exact a
 have hsc:=c.fre _ (aJ hfr) rfl
 refine ⟨?_,hfr⟩
 unfold ax at hz ⊢
 simp only [Bool.and_eq_true,Bool.or_eq_true,beq_iff_eq] at hz ⊢
 exact ⟨hz.1,by rcases hsc with a | a <;> simp [a]⟩
theorem gE {H H' : List Addr} {h h' : Heap} (kh : ∀ a ∈ H',a ∈ H ∨ h.get? a = none) (k : Sub h h') : Sub (hideAll h H) (hideAll h' H'):=fun b o e =>by
 refine hideAll_get H' (k b o (of_hideAll H e)) fun hm =>?_
 rcases kh b hm with a | a
 ·exact bq e a
 ·rw [of_hideAll H e] at a; cases a
theorem ce {h : Heap} {a : Addr} {m : Str → Option Value} {o : Obj} (n : h.Ns a m) (e : h.get? a = some o) : ¬ cV o:=fun ⟨_,_,hq⟩ =>by
 obtain ⟨o',es,ep,ho,hd,_⟩:=n
 rw [e] at ho; obtain rfl:=oj ho
 rw [hd] at hq; cases hq
theorem St.comp {X : Gx} {sc csc : Scope} {env : Env} {H H' Mu : List Addr} {g : Gam} {s s' : Shared} {y : Str} {x : V} {u : Value} {C : Addr} {cl : List (Str × Addr)} {m : Str → Option Value}
  (S : St X sc env H Mu g s) (c : CompOk sc csc y) (h1 : ∀ x c,cl.lookup x = some c → env.cells.lookup x = some c) (h2 : ∀ x,(x,NameKind.free) ∈ csc.names → (cl.lookup x).isSome = true)
  (k : Sub s.heap s'.heap) (hCl : s.heap.get? C = none) (kh : ∀ a ∈ H',a ∈ H ∨ s.heap.get? a = none) (ho : HOk H' s'.heap) (hn : s'.heap.Ns C m) (hm : m y = some u) (r : Rep (hideAll s'.heap H') x u) : St X csc (compEnvC csc cl C env) H' Mu (ae y (.val x) g) s' where
 base b o e:=k b o (S.base b o e)
 kind:=c.kind
 glob:=S.glob
 blt:=S.blt
 kinds:=comp_kinds h2 c.nocell
 ho:=ho
 held:=by
  have ks:=gE kh k
  refine bc fun hN =>?_
  obtain ⟨m0,ad,n0,hd,inj,hside⟩:=S.held
  refine hN ?_; clear hN
  refine ⟨m,ad,hn,fun z av hz hl =>?_,fun z1 z2 hz1 hz2 c1 c2 e =>?_,fun hs =>?_,fun z1 hz1 c1 =>?_⟩
  rotate_left 2
  ·rcases (c.loc _ (aJ hs) rfl).1 with a | a
   ·exact absurd a.symm c.nself
   ·exact absurd a (by decide)
  ·rw [aY] at c1
   by_cases h1 : z1 = y
   ·subst h1; rw [if_pos rfl] at c1; exact c1.elim
   ·rw [if_neg h1] at c1
    exact hside.2 z1 (c.up hz1 h1).1 c1
  all_goals rw [aY] at *
  ·by_cases hzy : z = y
   ·subst hzy
    rw [if_pos rfl] at hl; obtain rfl:=oj hl
    exact ⟨u,.inl ⟨lookup_relabel_local c.tgt,hm⟩,r⟩
   ·rw [if_neg hzy] at hl
    refine bc fun hN =>?_
    obtain ⟨hzsc,hfr⟩:=c.up hz hzy
    have hsc:=c.fre _ (aJ hfr) rfl
    have hd':=hd z av hzsc hl
    have hkc:=(comp_kinds (env:=env) (C:=C) h2 c.nocell).fre z hfr
    obtain ⟨c1,hc1⟩:=Option.isSome_iff_exists.mp (h2 z (aJ hfr))
    refine hN ?_; clear hN
    have hek : env.kindOf z ≠ some .local:=fun e =>by
     rcases hsc with a | a
     ·rw [S.kinds.cel z a] at e; cases e
     ·rcases S.kinds.fre z a with b | b <;> (rw [b] at e; cases e)
    have at' : ∀ {u : Value},At env s.heap m0 z u → At (compEnvC csc cl C env) s'.heap m z u:=fun {u} a =>by
     rcases a with ⟨a,_⟩ | ⟨_,c2,hc2,hi⟩
     ·exact absurd a hek
     ·refine .inr ⟨hkc,c1,hc1,?_⟩
      have:=h1 z c1 hc1
      rw [hc2] at this; obtain rfl:=oj this; exact hi.keeps k
    cases av with
    | val v =>obtain ⟨u,a,r⟩:=hd'; exact ⟨u,at' a,r.mono (.of ks)⟩
    | own xs =>obtain ⟨us,a,_⟩:=hd'; exact absurd a hek
    | inst C' fl =>
     refine bc fun hN =>?_
     obtain ⟨ix,Ca,es,n,a,e2,e3,e4,e5,e6,e7,e8,r⟩:=hd'
     refine hN ?_; clear hN
     refine ⟨ix,Ca,es,n,at' a,e2,k _ _ e3,k _ _ e4,e5,fun hm =>?_,e7,fun hC =>?_,r.mono (.of ks)⟩
     rotate_left 1
     ·rw [show C = ad z from hC.symm,e4] at hCl; cases hCl
     rcases kh _ hm with b | b
     ·exact e6 b
     ·rw [e4] at b; cases b
  ·by_cases h1 : z1 = y
   ·subst h1; rw [if_pos rfl] at c1; exact c1.elim
   ·by_cases h2 : z2 = y
    ·subst h2; rw [if_pos rfl] at c2; exact c2.elim
    ·rw [if_neg h1] at c1; rw [if_neg h2] at c2
     exact inj z1 z2 (c.up hz1 h1).1 (c.up hz2 h2).1 c1 c2 e
section
variable (X : Gx) (G : Ge) (N : Nat)
noncomputable def EvFOK (n : Nat) : Prop:=∀ (sc : Scope) (env : Env) (H Mu : List Addr) (g : Gam) (s : Shared) (A : Around) (E : Value → Shared → Prop) (Q : Bool → Shared → Prop) (es : List Expr) (b : Bool),
 St X sc env H Mu g s → Room A (N + n) → evIfs n G sc g es = some b → (∀ s',Kp s s' → Q b s') →
  wpAny (model X.prog X.w) A (forIn es true fun c r =>if r = true then do let ok ← isTrue c env (eval c env); pure (ForInStep.yield ok) else pure (ForInStep.yield r)) Q E s
end
section
variable {X : Gx} {G : Ge} {N n : Nat}
theorem evF_ok (IT : EvTOK X G N n) : EvFOK X G N (n + 1):=by
 intro sc env H Mu g s A E Q es b S hA e q
 cases es with
 | nil =>cases (show some true = some b from e); exact wpAny_tests_nil (q s (Kp.refl s))
 | cons c r =>
  cases r with
  | nil =>exact wpAny_tests_one (IT _ _ _ _ _ _ _ _ _ _ _ S hA.up e q)
  | cons _ _ =>exact nomatch (show (Option.none : Option Bool) = some b from e)
noncomputable def compF (n : Nat) (G : Ge) (csc : Scope) (g : Gam) (y : Str) (ifs : List Expr) (elt : Expr) (x : V) : Option (Option V):=(evIfs n G csc (ae y (.val x) g) ifs).bind fun b =>cond b ((ev n G csc (ae y (.val x) g) elt).map some) (some .none)
inductive CI (F : V → Option (Option V)) (H : List Addr) (D C : Addr) (wr : List Addr) (T : Nat → Heap → Prop) (xs tot : List V) (s₂ : Shared) (k : Nat) (s' : Shared) : Prop
 | mk (i : Nat) (us : List Value) (ys zs : List V) (m : Str → Option Value) (hi : i ≤ xs.length) (e : k = xs.length - i) (ht : HT s₂ s') (hT : T i s'.heap) (hl : s'.heap.IsList D us.toArray) (hn : s'.heap.Ns C m) (hr : Reps (hideAll s'.heap (D :: H)) ys us)
  (hz : aR F (xs.drop i) = some zs) (htot : ys ++ zs = tot) (hyl : ys.length ≤ i) (hk : ∀ b o,b ∉ wr → s₂.heap.get? b = some o → s'.heap.get? b = some o) : CI F H D C wr T xs tot s₂ k s'
theorem comp_loop (I : cv X G N n) (IF : EvFOK X G N n) {sc csc : Scope} {env : Env} {H Mu : List Addr} {g : Gam} {s₁ s₂ s₄ : Shared} {A : Around} {y : Str} {py : Pos} {ifs : List Expr} {elt iter : Expr} {pos : Pos}
  {xs tot : List V} {C D : Addr} {cl : List (Str × Addr)} {J : Addr} {fp wr : List Addr} {P : Nat → Value → Prop} {T : Nat → Heap → Prop} {R : Result → Shared → Prop} {m : Str → Option Value}
  (S : St X sc env H Mu g s₁) (hA : Room A (N + n)) (c : CompOk sc csc y) (h1 : ∀ x c,cl.lookup x = some c → env.cells.lookup x = some c) (h2 : ∀ x,(x,NameKind.free) ∈ csc.names → (cl.lookup x).isSome = true)
  (W : Walks X.prog X.w A J fp wr xs.length P T) (k2 : Kp s₁ s₂) (hw : ∀ b ∈ wr,s₁.heap.get? b = none) (hP : ∀ i u,P i u → ∃ x,xs[i]? = some x ∧ Rep (hideAll s₁.heap H) x u)
  (hns : ∀ (i : Nat) (h : Heap),T i h → ∀ b ∈ wr,∀ o,h.get? b = some o → ¬ cV o ∧ o.data ≠ .plain)
  (hD : s₂.heap.get? D = none) (hC : s₂.heap.get? C = none) (hDC : D ≠ C) (hDf : D ∉ fp) (hCf : C ∉ fp) (hlen : xs.length ≤ lid)
  (e : aR (compF n G csc g y ifs elt) xs = some tot)
  (k4 : Kp s₂ s₄) (hl4 : s₄.heap.IsList D #[]) (hn4 : s₄.heap.Ns C m) (hT4 : T 0 s₄.heap)
  (hR : ∀ s' us m',HT s₂ s' → (∀ b o,b ∉ wr → s₂.heap.get? b = some o → s'.heap.get? b = some o) → s'.heap.IsList D us.toArray → Reps (hideAll s'.heap (D :: H)) tot us → s'.heap.Ns C m' → R (.ok .next) s') :
  codeAny (model X.prog X.w) A (.compLoop (.ListComp elt [⟨.Name y py,iter,ifs,0⟩] csc pos) 0 (.ref J) (.ref D) (compEnvC csc cl C env)) R s₄:=by
 have hpl : ((compEnvC csc cl C env).scope.kind == .class || ((compEnvC csc cl C env).scope.kind == .module && (compEnvC csc cl C env).locals != (compEnvC csc cl C env).globals)) = false:=by
  have : (compEnvC csc cl C env).scope.kind = .function:=c.kind
  simp [this]
 have Dw : D ∉ wr:=fun h =>hDf (W.sub D h)
 have Cw : C ∉ wr:=fun h =>hCf (W.sub C h)
 have kh : ∀ a ∈ D :: H,a ∈ H ∨ s₁.heap.get? a = none:=fun a ha =>by
  rcases List.mem_cons.mp ha with rfl | ha
  ·exact .inr (aG k2 hD)
  ·exact .inl ha
 refine codeAny_compLoop_tests
  (CI (compF n G csc g y ifs elt) H D C wr T xs tot s₂) ?_ xs.length
  ⟨0,[],[],tot,m,Nat.zero_le _,rfl,(let ⟨h',t,e,_⟩:=k4; ⟨h',t,e⟩),hT4,hl4,hn4,.nil,by simpa using e,by simp,by simp,fun b o _ e =>k4.keep b o e⟩
 rintro q s' ⟨i,us,ys,zs,m',hi,rfl,⟨h',t',hs'⟩,hT,hl,hn,hr,hz,htot,hyl,hk⟩
 have kb : ∀ b o,s₁.heap.get? b = some o → s'.heap.get? b = some o:=fun b o e =>hk b o (fun hm =>by rw [hw b hm] at e; exact nS e) (k2.keep b o e)
 rcases Nat.lt_or_ge i xs.length with hlt | hge
 ·have hx : xs.drop i = xs[i] :: xs.drop (i + 1):=List.drop_eq_getElem_cons hlt
  rw [hx] at hz
  refine W.item i s' _ _ hlt hT fun v h1' tk1 hPv hT1 hk1 =>?_
  refine bc fun hN =>?_
  obtain ⟨x,ex,rx⟩:=hP i v hPv
  refine hN ?_; clear hN
  rw [List.getElem?_eq_getElem hlt] at ex; obtain rfl:=oj ex
  have hn1 : Heap.Ns h1' C m':=hn.at' fun o e =>hk1 C o Cw e
  have hkC : (compEnvC csc cl C env).kindOf y = some .local:=lookup_relabel_local c.tgt
  refine wpAny_assign_Name (wpAny_storeName_local hkC hn1 (fun h2' hn2 hs2 =>?_) hpl)
  have hs2C : Heap.SameBut C h1' h2':=hs2
  have k12 : ∀ b o,b ∉ wr → b ≠ C → s'.heap.get? b = some o → h2'.get? b = some o:=fun b o hb hbC e =>hs2C.extBut b o hbC (hk1 b o hb e)
  have kb2 : Sub s₁.heap h2':=fun b o e =>k12 b o (fun hm =>by rw [hw b hm] at e; exact nS e) (fun hbC =>by subst hbC; rw [aG k2 hC] at e; exact nS e) (kb b o e)
  let s3 : Shared:={ s' with heap:=h2',toks:=tk1 + 1 }
  have hl2 : h2'.IsList D us.toArray:=hl.at fun o e =>k12 D o Dw hDC e
  have ho2 : HOk (D :: H) h2':=fun a ha =>by
   rcases List.mem_cons.mp ha with rfl | ha
   ·obtain ⟨o,ho,_⟩:=hl2; exact ⟨o,ho⟩
   ·obtain ⟨o,ho⟩:=S.ho a ha; exact ⟨o,kb2 _ _ ho⟩
  have S3 : St X csc (compEnvC csc cl C env) (D :: H) Mu (ae y (.val xs[i]) g) s3:=S.comp c h1 h2 kb2 (aG k2 hC) kh ho2 hn2 (by simp) (rx.mono (.of (gE kh kb2)))
  have hT2 : T (i + 1) h2':=W.frame _ _ _ hT1 fun b hb o e =>hs2C.extBut b o (fun h =>hCf (by rw [← h]; exact hb)) e
  have hr2 : Reps (hideAll h2' (D :: H)) ys us:=hr.mono fun b o e hseq =>by
   refine hideAll_get (D :: H) (k12 b o (fun hm =>?_) (fun hbC =>?_) (of_hideAll (D :: H) e)) (bq e)
   ·exact (hns i _ hT b hm o (of_hideAll (D :: H) e)).1 hseq
   ·subst hbC; exact ce hn (of_hideAll (D :: H) e) hseq
  unfold aR at hz
  have fin : ∀ (s5 : Shared) (h5 : Heap) (t5 : Nat) (us' : List Value) (ys' zs' : List V) (m5 : Str → Option Value),s5 = { s₂ with heap:=h5,toks:=t5 } → T (i + 1) h5 → h5.IsList D us'.toArray → h5.Ns C m5 → Reps (hideAll h5 (D :: H)) ys' us' → aR (compF n G csc g y ifs elt) (xs.drop (i + 1)) = some zs' →
    ys' ++ zs' = tot → ys'.length ≤ i + 1 → (∀ b o,b ∉ wr → s₂.heap.get? b = some o → h5.get? b = some o) →
    ∃ q',q' < xs.length - i ∧ CI (compF n G csc g y ifs elt) H D C wr T xs tot s₂ q' s5:=by
   rintro s5 h5 t5 us' ys' zs' m5 rfl a1 a2 a3 a4 a5 a6 a7 a8
   exact ⟨xs.length - (i + 1),Nat.sub_lt_sub_left hlt (Nat.lt_succ_self i),i + 1,us',ys',zs',m5,hlt,rfl,⟨h5,t5,rfl⟩,a1,a2,a3,a4,a5,a6,a7,a8⟩
  have old2 : ∀ b o,b ∉ wr → s₂.heap.get? b = some o → h2'.get? b = some o:=fun b o hb e =>k12 b o hb (fun hbC =>by subst hbC; rw [hC] at e; exact nS e) (hk b o hb e)
  split at hz
  ·rename_i w hw
   refine aa hw fun b ht hw =>?_
   cases b with
   | false =>cases hw
   | true =>
    refine bc fun hN =>?_
    refine au hw fun w' hw' ew =>?_
    refine hN ?_; clear hN
    cases ew
    refine bc fun hN =>?_
    refine au hz fun zs' hz' hEqq2 =>?_
    subst hEqq2
    refine hN ?_; clear hN
    refine IF _ _ _ _ _ _ _ _ _ _ _ S3 hA ht fun s5 k5 =>?_
    rw [if_pos rfl]
    refine I _ _ _ _ _ _ _ _ _ _ _ (S3.kp k5) hA hw' fun u s6 k6 r6 =>?_
    have k56:=k5.trans k6
    have hl6 : s6.heap.IsList D us.toArray:=hl2.at fun o e =>k56.keep _ _ e
    have hyl' : us.length = ys.length:=hr.length
    refine wpAny_list_append (hsz:=by have:=cL; rw [List.size_toArray]; lia) hl6 fun h7 hl7 hs7 =>?_
    have k67 : ∀ b o,b ≠ D → h2'.get? b = some o → h7.get? b = some o:=fun b o hb e =>hs7.extBut b o hb (k56.keep b o e)
    refine bc fun hN =>?_
    obtain ⟨h6,t6,e6,_⟩:=k56
    refine hN ?_; clear hN
    refine fin _ h7 t6 (us ++ [u]) (ys ++ [w]) zs' _ (by rw [e6]; subst hs'; rfl) ?_ (by simpa using hl7) (hn2.at' fun o e =>k67 _ o (Ne.symm hDC) e) ?_ hz' (by simp [← htot]) (by simp; lia) fun b o hb e =>k67 b o (fun hbD =>by subst hbD; rw [hD] at e; cases e) (old2 b o hb e)
    ·exact W.frame _ _ _ hT2 fun b hb o e =>k67 b o (fun h =>hDf (by rw [← h]; exact hb)) e
    ·refine Reps.append (hr2.mono fun b o e _ =>?_) (Reps.cons (r6.mono fun b o e _ =>?_) .nil)
     ·have hb:=bq e
      exact hideAll_get (D :: H) (k67 b o (fun h =>hb (by rw [h]; exact .head _)) (of_hideAll (D :: H) e)) hb
     ·have hb:=bq e
      exact hideAll_get (D :: H) (hs7.extBut b o (fun h =>hb (by rw [h]; exact .head _)) (of_hideAll (D :: H) e)) hb
  ·rename_i hw
   refine bc fun hN =>?_
   refine aa hw fun b hf hw =>?_
   refine hN ?_; clear hN
   cases b with
   | true =>obtain ⟨_,_,ew⟩:=map_some' hw; cases ew
   | false =>
    refine IF _ _ _ _ _ _ _ _ _ _ _ S3 hA hf fun s5 k5 =>?_
    rw [if_neg (by decide)]
    refine bc fun hN =>?_
    obtain ⟨h5,t5,e5,_⟩:=id k5
    refine hN ?_; clear hN
    refine fin _ s5.heap t5 us ys zs _ (by rw [e5]; subst hs'; rfl) (W.frame _ _ _ hT2 fun b _ o e =>k5.keep b o e) (hl2.at fun o e =>k5.keep _ _ e) (hn2.at' fun o e =>k5.keep _ _ e) (hr2.kp k5) hz htot (by lia) fun b o hb e =>k5.keep b o (old2 b o hb e)
  ·cases hz
 ·have hie : i = xs.length:=Nat.le_antisymm hi hge
  subst hie
  rw [List.drop_length] at hz
  simp only [aR,Option.some.injEq] at hz; subst hz
  rw [List.append_nil] at htot; subst htot
  refine W.done s' _ _ hT fun h1' tk1 hk1 =>?_
  have hr1 : Reps (hideAll h1' (D :: H)) ys us:=hr.mono fun b o e hseq =>by
   refine hideAll_get (D :: H) (hk1 b o (fun hm =>?_) (of_hideAll (D :: H) e)) (bq e)
   exact (hns _ _ hT b hm o (of_hideAll (D :: H) e)).1 hseq
  exact hR _ us m' ⟨h1',tk1,by subst hs'; rfl⟩ (fun b o hb e =>hk1 b o hb (hk b o hb e)) (hl.at fun o e =>hk1 D o Dw e) hr1 (hn.at' fun o e =>hk1 C o Cw e)
end
section
variable {X : Gx} {G : Ge} {N n : Nat}
theorem comp_ok (I : cv X G N n) (II : EvIOK X G N n) (IF : EvFOK X G N n) {sc csc : Scope} {env : Env} {H Mu : List Addr} {g : Gam} {s : Shared} {A : Around} {y : Str} {py : Pos} {ifs : List Expr} {elt iter : Expr} {pos pos' : Pos}
  {xs tot : List V} {use : Option (Value → Sem Unit)} {E Q : Value → Shared → Prop}
  (S : St X sc env H Mu g s) (hA : Room A (N + n)) (c : CompOk sc csc y) (hi : evI n G sc g iter = some xs) (hlen : xs.length ≤ lid)
  (e : aR (compF n G csc g y ifs elt) xs = some tot) (hs : ∀ x,foldedSetIterable iter env x = pure x)
  (q : match use with
   | none =>∀ u s',Kp s s' → Rep (hideAll s'.heap H) (.list tot) u → Q u s'
   | some f =>∀ u s' C,Kp s s' → Rep (hideAll s'.heap H) (.list tot) u → s.heap.get? C = none → (∃ m,s'.heap.Ns C m) →
     wpAny (model X.prog X.w) A (f u) (fun _ s'' =>(∀ m,s'.heap.Ns C m → s''.heap.Ns C m) ∧ ∀ h',Heap.SameBut C s''.heap h' → Q .none { s'' with heap:=h' }) E s') :
  wpAny (model X.prog X.w) A (comprehension (.ListComp elt [⟨.Name y py,iter,ifs,0⟩] csc pos) csc env pos' (newList []) false (eval iter env) use) Q E s:=by
 have hcells : ∀ p ∈ csc.names,p.2 = .free → (env.cells.lookup p.1).isSome = true:=fun p hp hf =>S.kinds.has p.1 (c.fre p hp hf)
 refine bc fun hN =>?_
 obtain ⟨cl,hcl,h1,h2⟩:=closureFor_ok hcells
 refine hN ?_; clear hN
 have hnames : ∀ x ∈ csc.names,x.2 = .local → csc.names.lookup x.1 = some .local:=fun p hp hl =>(c.loc p hp hl).2
 refine wpAny_comprehension_free rfl hs hcl c.kind hnames (II _ _ _ _ _ _ _ _ _ _ _ S hA hi fun it s₁ s₂ k1 k2 IT =>?_)
 refine bc fun hN =>?_
 obtain ⟨J,fp,wr,P,T,rfl,W,hT0,hw,hfp,hP,hns,_⟩:=IT
 refine hN ?_; clear hN
 have S1:=S.kp k1
 refine wpAny_newObj_type (wpAny_newFunctionEnv c.nocell (by intro y hy; simp at hy) (fun h3 hn3 hs3 =>?_) c.kind)
 dsimp only at hn3 hs3 ⊢
 generalize hH2 : s₂.heap.push { cls:=.type "list",dict:=none,data:=.seq ([] : List Value).toArray } = H2 at hn3 hs3 ⊢
 have hC : H2.objs.size = s₂.heap.objs.size + 1:=by simp only [← hH2,Heap.size_push]
 have hDC : s₂.heap.objs.size ≠ H2.objs.size:=by rw [hC]; exact Nat.ne_of_lt (Nat.lt_succ_self _)
 have fresh : ∀ a,s₂.heap.objs.size ≤ a → s₂.heap.get? a = none:=fun a ha =>by
  cases e : s₂.heap.get? a with
  | none =>rfl
  | some o' =>exact absurd (Heap.lt_size e) (Nat.not_lt.mpr ha)
 have hfl : ∀ b ∈ fp,b < s₂.heap.objs.size:=fun b hb =>by
  rcases hfp b hb with a | ⟨o,a,_⟩
  ·exact a.2.2
  ·exact Heap.lt_size (k2.keep b o a)
 have old : ∀ b o,s₂.heap.get? b = some o → h3.get? b = some o:=fun b o e =>hs3.extBut b o (by rw [hC]; exact Nat.ne_of_lt (Nat.lt_succ_of_lt (Heap.lt_size e))) (Heap.get?_push_of_some _ (hH2 ▸ Heap.get?_push_of_some _ e))
 have hacc : h3.IsList s₂.heap.objs.size #[]:=⟨_,hs3.extBut _ _ hDC (Heap.get?_push_of_some _ (hH2 ▸ Heap.get?_push_size _ rfl)),rfl,_,rfl⟩
 have fC : s₂.heap.get? H2.objs.size = none:=fresh _ (by rw [hC]; exact Nat.le_succ _)
 have fD : s₂.heap.get? s₂.heap.objs.size = none:=fresh _ (Nat.le_refl _)
 have hT3 : T 0 h3:=W.frame _ _ _ hT0 fun b _ o e =>old b o e
 have loop : ∀ s₃ : Shared,s₃ = { s₂ with heap:=h3,toks:=s₂.toks + ([] : List (Str × Value)).length } →
   codeAny (model X.prog X.w) A (.compLoop (.ListComp elt [⟨.Name y py,iter,ifs,0⟩] csc pos) 0 (.ref J) (.ref s₂.heap.objs.size) (compEnvC csc cl H2.objs.size env))
    (compPost (model X.prog X.w) A E use Q (.ref s₂.heap.objs.size) H2.objs.size) s₃:=by
  rintro s₃ rfl
  refine comp_loop I IF S1 hA c h1 h2 W k2 (fun b hb =>(hw b hb).1) hP (fun i h hT b hb =>(hns i h hT b hb).2) fD fC hDC (fun h =>Nat.lt_irrefl _ (hfl _ h)) (fun h =>by have:=hfl _ h; rw [hC] at this; exact Nat.lt_irrefl _ (Nat.lt_of_succ_lt this)) hlen e (Kp.mk' old) hacc hn3 hT3 ?_
  intro s' us m' hs' hk hl hr hn'
  refine bc fun hN =>?_
  obtain ⟨h',t',rfl⟩:=hs'
  refine hN ?_; clear hN
  have kp' : Kp s { s₂ with heap:=h',toks:=t' }:=by
   refine bc fun hN =>?_
   obtain ⟨ha,ta,rfl,ka⟩:=k1
   obtain ⟨hb,tb,rfl,kb⟩:=k2
   refine hN ?_; clear hN
   refine ⟨h',t',rfl,fun b o e =>hk b o (fun hm =>?_) (kb b o (ka b o e))⟩
   have:=(hw b hm).1
   simp only [show ({ s with heap:=ha,toks:=ta } : Shared).heap.get? b = _ from ka b o e] at this; cases this
  have rep : ∀ h'',Sub (hideAll h' H) (hideAll h'' H) → Heap.IsList h'' s₂.heap.objs.size us.toArray → s₂.heap.objs.size ∉ H → Rep (hideAll h'' H) (.list tot) (.ref s₂.heap.objs.size):=fun h'' ks hl'' hni =>by
   unfold Rep
   refine bc fun hN =>?_
   obtain ⟨o,ho,r⟩:=hl''
   refine hN ?_; clear hN
   refine ⟨_,us,rfl,⟨o,hideAll_get H ho hni,r⟩,(hr.mono (.of (hide_sub (H':=H) fun a ha =>.tail _ ha))).mono (.of ks)⟩
  have hDH : s₂.heap.objs.size ∉ H:=fun hm =>by
   refine bc fun hN =>?_
   obtain ⟨o,ho⟩:=S1.ho _ hm
   refine hN ?_; clear hN
   exact absurd (Heap.lt_size (k2.keep _ o ho)) (Nat.lt_irrefl _)
  have fCs : s.heap.get? H2.objs.size = none:=aG (k1.trans k2) fC
  have sk : ∀ h'',Heap.SameBut H2.objs.size h' h'' → aI (hideAll h' H) (hideAll h'' H):=fun h'' hs'' b o e hq =>by
   refine hideAll_get H (hs''.extBut b o (fun hb =>?_) (of_hideAll H e)) (bq e)
   subst hb; exact ce hn' (of_hideAll H e) hq
  have rp : Rep (hideAll h' H) (.list tot) (.ref s₂.heap.objs.size):=rep h' (fun _ _ e =>e) hl hDH
  cases use with
  | none =>
   refine ⟨m',hn',fun h'' hs'' =>q _ _ ?_ (rp.mono (sk h'' hs''))⟩
   refine bc fun hN =>?_
   obtain ⟨ha,ta,ea,ka⟩:=kp'
   refine hN ?_; clear hN
   refine ⟨h'',t',?_,fun b o e =>hs''.extBut b o (fun hb =>by subst hb; rw [fCs] at e; exact nS e) ?_⟩
   ·have:=congrArg (fun z : Shared =>{ z with heap:=h'',toks:=t' }) ea
    exact this
   ·have:=ka b o e
    rw [show ha = h' from (congrArg Shared.heap ea).symm] at this
    exact this
  | some f =>
   refine wpAny_mono (q _ _ H2.objs.size kp' rp fCs ⟨m',hn'⟩) (fun _ s'' hq =>?_) fun _ _ e =>e
   exact ⟨m',hq.1 m' hn',hq.2⟩
 exact codeAny_compStart_list (loop _ rfl) (W.self 0 _ _ _ hT3 (loop _ rfl))
theorem listComp_ok (I : cv X G N n) (II : EvIOK X G N n) (IF : EvFOK X G N n) {sc csc : Scope} {env : Env} {H Mu : List Addr} {g : Gam} {s : Shared} {A : Around} {y : Str} {py : Pos} {ifs : List Expr} {elt iter : Expr} {pos : Pos}
  {xs tot : List V} {E Q : Value → Shared → Prop}
  (S : St X sc env H Mu g s) (hA : Room A (N + n)) (c : CompOk sc csc y) (hi : evI n G sc g iter = some xs) (hlen : xs.length ≤ lid)
  (e : aR (compF n G csc g y ifs elt) xs = some tot) (hs : ∀ x,foldedSetIterable iter env x = pure x) (q : bo H s (.list tot) Q) :
  wpAny (model X.prog X.w) A (eval (.ListComp elt [⟨.Name y py,iter,ifs,0⟩] csc pos) env) Q E s:=by
 rw [eval_ListComp]
 exact comp_ok (use:=none) I II IF S hA c hi hlen e hs q
theorem folded_of {iter : Expr} {env : Env} {sc : Scope} {g : Gam} {xs : List V} (hi : evI n G sc g iter = some xs) : ∀ x,foldedSetIterable iter env x = pure x:=by
 cases iter <;> try (intro x; rfl)
 cases n with
 | zero =>exact nomatch (show (Option.none : Option (List V)) = some xs from hi)
 | succ n =>cases n <;> exact nomatch (show (Option.none : Option (List V)) = some xs from hi)
end
theorem f7 (f x : Str) (t : Tok) : (Value.str f t).isStr x = (f == x):=by simp [Value.isStr]
theorem flds_get {h : Heap} : ∀ {fl : List (Str × V)} {es : List DictEntry} {f : Str} {v : V},bR h fl es → fl.lookup f = some v → ∃ u,getL f es = some (some u) ∧ Rep h v u
 | [],_,f,v,_,e =>by simp at e
 | (x,w) :: fl,es,f,v,r,e =>by
  unfold bR at r
  refine bc fun hN =>?_
  obtain ⟨hs,t,u,r',rfl,h1,h2⟩:=r
  refine hN ?_; clear hN
  rw [List.lookup_cons] at e
  unfold getL
  rw [List.find?_cons]
  cases hx : f == x with
  | true =>
   rw [hx] at e; obtain rfl:=oj e
   have : x = f:=(beq_iff_eq.mp hx).symm
   subst this
   simp only [f7,beq_self_eq_true]
   exact ⟨u,rfl,h1⟩
  | false =>
   rw [hx] at e
   have hx' : (x == f) = false:=by
    cases q : x == f with
    | false =>rfl
    | true =>rw [beq_iff_eq.mp q] at hx; simp at hx
   simp only [f7,hx']
   refine bc fun hN =>?_
   obtain ⟨u',g1,g2⟩:=flds_get h2 e
   refine hN ?_; clear hN
   refine ⟨u',?_,g2⟩
   unfold getL at g1
   rw [List.any_cons]
   have : (DictEntry.refKey ⟨hs,.str x t,u⟩) = false:=by rfl
   rw [this,Bool.false_or]
   exact g1
theorem fX {h : Heap} : ∀ {fl : List (Str × V)} {es : List DictEntry} {f : Str},bR h fl es → fl.lookup f = none → getL f es = some none
 | [],_,f,r,_ =>by unfold bR at r; subst r; rfl
 | (x,w) :: fl,es,f,r,e =>by
  unfold bR at r
  obtain ⟨hs,t,u,r',rfl,h1,h2⟩:=r
  rw [List.lookup_cons] at e
  unfold getL
  rw [List.find?_cons]
  cases hx : f == x with
  | true =>rw [hx] at e; cases e
  | false =>
   rw [hx] at e
   have hx' : (x == f) = false:=by
    cases q : x == f with
    | false =>rfl
    | true =>rw [beq_iff_eq.mp q] at hx; simp at hx
   simp only [f7,hx']
   have g1:=fX h2 e
   unfold getL at g1
   rw [List.any_cons]
   have : (DictEntry.refKey ⟨hs,.str x t,u⟩) = false:=by rfl
   simp only [this,Bool.false_or]
   exact g1
theorem handedIn_rep {h : Heap} {v : V} {u : Value} (r : Rep h v u) : handedIn u = true:=by
 cases v <;> unfold Rep at r
 ·subst r; rfl
 ·subst r; rfl
 ·obtain ⟨t,rfl⟩:=r; rfl
 ·obtain ⟨t,rfl⟩:=r; rfl
 ·obtain ⟨b,t,rfl,_⟩:=r; rfl
 ·obtain ⟨a,us,rfl,_⟩:=r; rfl
 ·obtain ⟨a,us,rfl,_⟩:=r; rfl
section
variable {X : Gx} {G : Ge} {N n : Nat} {sc : Scope} {env : Env} {H Mu : List Addr} {g : Gam} {s : Shared} {A : Around} {E Q : Value → Shared → Prop}
theorem inst_at {h : Heap} {ix dx Ca : Addr} {es : List DictEntry} {k : Nat} (h1 : h.get? ix = some (instObj Ca dx)) (h2 : h.get? dx = some (dictOf es k)) : InstAt h ix (instObj Ca dx) Ca (some (dictOf es k)):=⟨h1,rfl,rfl,h2⟩
theorem cC {h : Heap} (S : Sub X.B0 h) : X.K.In h:=X.kin.keeps S
theorem attr_ok (hG : GOk X G N) {x f : Str} {p pa : Pos} {C : Str} {fl : List (Str × V)} {v : V} (S : St X sc env H Mu g s) (hx : ax sc x = true) (hl : g.lookup x = some (.inst C fl)) (hf : fl.lookup f = some v) (hF : f ∈ G.flds C) (q : bo H s v Q) :
  wpAny (model X.prog X.w) A (eval (.Attribute (.Name x p) f pa) env) Q E s:=by
 refine bc fun hN =>?_
 obtain ⟨m,ad,n,hd,_⟩:=S.held
 obtain ⟨ix,Ca,es,k,a,e2,e3,e4,_,_,_,_,r⟩:=hd x _ hx hl
 obtain ⟨u,e5,ru⟩:=flds_get r hf
 refine hN ?_; clear hN
 have F:=hG.flds C f Ca hF e2
 refine Attribute_name (ga S.kind (du hx) n a (get_value (cC S.base) (inst_at e3 e4) (plainGet_of F.get).1 (findObj_own F.has F.find rfl (by rw [lookIn_dict]; exact e5)) (handedIn_rep ru) (q u _ (Kp.toks _) ru)))
theorem cU {i : Expr} {o v : Value} (h : ∀ a b c p,i ≠ .Slice a b c p) : subscripted i false o v = operate [o,v] (getItem o v):=by
 cases i <;> first | rfl | exact absurd rfl (h _ _ _ _)
theorem gC {i : Expr} {v : V} (h : ev n G sc g i = some v) : ∀ a b c p,i ≠ .Slice a b c p:=by
 intro a b c p e
 subst e
 cases n <;> exact nomatch (show (Option.none : Option V) = some v from h)
theorem itemV_int {x j z : V} (e : al x j = some z) : ∃ i,j = .int i:=by
 exact aa e fun i h _ =>⟨i,bd h⟩
theorem sub_ok (I : cv X G N n) {a i : Expr} {p : Pos} {x j z : V} (S : St X sc env H Mu g s) (hA : Room A (N + n)) (hx : ev n G sc g a = some x) (hi : ev n G sc g i = some j) (e : al x j = some z) (q : bo H s z Q) :
  wpAny (model X.prog X.w) A (eval (.Subscript a i p) env) Q E s:=by
 refine bc fun hN =>?_
 obtain ⟨j,rfl⟩:=itemV_int e
 refine hN ?_; clear hN
 refine Subscript_ (I _ _ _ _ _ _ _ _ _ _ _ S hA hx fun u s₁ k₁ r₁ =>I _ _ _ _ _ _ _ _ _ _ _ (S.kp k₁) hA hi fun v s₂ k₂ r₂ =>?_)
 unfold Rep at r₂; obtain ⟨t,rfl⟩:=r₂
 exact itemV_ok e (r₁.kp k₂) (cU (gC hi)) (q.after (k₁.trans k₂))
theorem own_item {value slice : Expr} {xs : List V} {z : V} {i : Int} {l : Addr} {us : List Value} {t : Tok} {prog : Program} {w : World} (e : al (.list xs) (.int i) = some z) (hl : s.heap.IsList l us.toArray) (hr : Reps (hideAll s.heap H) xs us)
  (hs : subscripted slice false (.ref l) (.int i t) = operate [.ref l,.int i t] (getItem (.ref l) (.int i t))) (q : bo H s z Q) :
  wpAny (model prog w) A (subscriptTail value slice (.ref l) (.int i t)) Q E s:=by
 have hl63 : lid ≤ 1099511627776:=by decide
 have e : (if xs.length ≤ lid then aH xs i else .none) = some z:=e
 split at e
 ·rename_i hz
  refine bc fun hN =>?_
  obtain ⟨j,ej,ex,h1,h2⟩:=gH e
  obtain ⟨v,ev,rv⟩:=hr.get ex
  refine hN ?_; clear hN
  have hn:=hr.length
  have qv : Q v s:=q _ _ (Kp.refl s) rv
  by_cases h0 : 0 ≤ i
  ·have : j = i.toNat:=by
    unfold seqIndex? at ej
    simp only [show ¬ i < 0 by lia,if_false] at ej
    simp at ej; lia
   refine tail_any hl.typeIs slot_list_getitem.lookup (wpAny_getItem_list hl h0 (by lia) ?_ qv) hs
   rw [← this]; simpa using ev
  ·refine tail_any hl.typeIs slot_list_getitem.lookup (kde_getNeg hl (by lia) (by lia) (by rw [hn]; exact ej) ev qv) hs
 ·exact nS e
theorem subOwn_ok (I : cv X G N n) {x : Str} {i : Expr} {p px : Pos} {xs : List V} {j z : V} (S : St X sc env H Mu g s) (hA : Room A (N + n)) (hx : ax sc x = true) (hl : g.lookup x = some (.own xs)) (hi : ev n G sc g i = some j) (e : al (.list xs) j = some z) (q : bo H s z Q) :
  wpAny (model X.prog X.w) A (eval (.Subscript (.Name x px) i p) env) Q E s:=by
 refine bc fun hN =>?_
 obtain ⟨j,rfl⟩:=itemV_int e
 refine hN ?_; clear hN
 refine Subscript_ (load_own S hx hl fun a us hla hr =>I _ _ _ _ _ _ _ _ _ _ _ S hA hi fun v s₂ k₂ r₂ =>?_)
 unfold Rep at r₂; obtain ⟨t,rfl⟩:=r₂
 exact own_item e (hla.at fun o e =>k₂.keep _ o e) (hr.kp k₂) (cU (gC hi)) (q.after k₂)
theorem slice_ok (I : cv X G N n) (IO : EvOOK X G N n) {a : Expr} {lo hi : Option Expr} {p ps : Pos} {x z : V} {l h : Option Int} (S : St X sc env H Mu g s) (hA : Room A (N + n)) (hx : ev n G sc g a = some x) (hlo : evO n G sc g lo = some l) (hhi : evO n G sc g hi = some h) (e : aq x l h = some z) (q : bo H s z Q) :
  wpAny (model X.prog X.w) A (eval (.Subscript a (.Slice lo hi .none ps) p) env) Q E s:=by
 refine Subscript_ (I _ _ _ _ _ _ _ _ _ _ _ S hA hx fun u s₁ k₁ r₁ =>wpAny_Slice (IO _ _ _ _ _ _ _ _ _ _ _ (S.kp k₁) hA hlo fun v s₂ k₂ p₂ =>IO _ _ _ _ _ _ _ _ _ _ _ (S.kp (k₁.trans k₂)) hA hhi fun w s₃ k₃ p₃ =>?_))
 rw [evalPart_none]
 have k:=k₁.trans (k₂.trans k₃)
 exact wpAny_pure (sliceV_ok e (S.ho.kp k) (r₁.kp (k₂.trans k₃)) p₂ p₃ rfl (q.after k))
theorem rev_ok (I : cv X G N n) {a : Expr} {p ps pu pc : Pos} {kk : Nat} {x z : V} (S : St X sc env H Mu g s) (hA : Room A (N + n)) (hx : ev n G sc g a = some x) (e : revV x = some z) (q : bo H s z Q) :
  wpAny (model X.prog X.w) A (eval (.Subscript a (.Slice .none .none (some (.UnaryOp .USub (.Constant (.int 1) kk pc) pu)) ps) p) env) Q E s:=by
 refine Subscript_ (I _ _ _ _ _ _ _ _ _ _ _ S hA hx fun u s₁ k₁ r₁ =>wpAny_Slice ?_)
 rw [evalPart_none]
 refine wpAny_pure (wpAny_pure ?_)
 rw [evalPart_some]
 refine wpAny_UnaryOp (wpAny_Constant_int (PyProof.Rows.neg_int ?_))
 have k : Kp s₁ { s₁ with toks:=s₁.toks + 1 + 1 }:=Kp.toks _
 exact revV_ok (s:={ s₁ with toks:=s₁.toks + 1 + 1 }) (ops:=_) e (S.ho.kp (k₁.trans k)) (r₁.kp k) rfl (q.after (k₁.trans k))
end
theorem dA {f : Str} (h : ∀ a,cy f ≠ .ref a) (M : Model) (hp : Heap) : ∃ k,(k = Keeper.frame ∨ k = Keeper.machine ∨ k = Keeper.boundFrame) ∧ Looks M hp (keeperOf (cy f)) k:=by
 refine ⟨.machine,.inr (.inl rfl),?_⟩
 generalize cy f = v at h
 cases v <;> first | exact Looks.of_pure rfl | exact absurd rfl (h _)
theorem eG (f : Str) : ∀ a,cy f ≠ .ref a:=by
 intro a
 unfold cy
 repeat (split; · intro h; cases h)
 intro h; cases h
theorem bltV_isBlt {f : Str} {vs : List V} {r : V} (e : aj f vs = some r) : isBlt f = true:=by
 unfold aj at e
 unfold isBlt
 repeat (split at e; · rename_i hf; rw [beq_iff_eq.mp hf]; decide)
 exact nS e
theorem iterV_isBlt {f : Str} {vs : List V} {r : List V} (e : bM f vs = some r) : isBlt f = true:=by
 unfold bM at e
 split at e
 ·rename_i hf; rw [beq_iff_eq.mp hf]; decide
 ·exact nS e
section
variable {X : Gx} {G : Ge} {N n : Nat} {sc : Scope} {env : Env} {H Mu : List Addr} {g : Gam} {s : Shared} {A : Around} {E Q : Value → Shared → Prop}
theorem kws_all {p : Pos} : ∀ {ks : List Keyword} {kes : List (Str × Expr)},kwV ks = some kes → (backToKw p (keywordEach ks env)).all (·.1.isSome) = true ∧ (backToKw p (keywordEach ks env)).filterMap (·.1) = kes.map (·.1) ∧ (backToKw p (keywordEach ks env)).any (·.1.isNone) = false
 | [],kes,e =>by
  obtain rfl:=oj e
  exact ⟨rfl,rfl,rfl⟩
 | ⟨none,v,q⟩ :: r,kes,e =>nS e
 | ⟨some x,v,q⟩ :: r,kes,e =>by
  refine bc fun hN =>?_
  refine au (show (kwV r).map ((x,v) :: ·) = some kes from e) fun ks' h1 h2 =>?_
  subst h2
  obtain ⟨a,b,c⟩:=kws_all (p:=p) h1
  refine hN ?_; clear hN
  refine ⟨?_,?_,?_⟩
  ·rw [arm_keywordEach_cons]; simpa [backToKw] using a
  ·rw [arm_keywordEach_cons]; simpa [backToKw] using b
  ·rw [arm_keywordEach_cons]; simpa [backToKw] using c
theorem kws_eval (I : cv X G N n) (hA : Room A (N + n)) {p : Pos} : ∀ {ks : List Keyword} {kes : List (Str × Expr)} {kvs : List (Str × V)} {s : Shared} {Q : List Value → Shared → Prop},St X sc env H Mu g s → kwV ks = some kes →
  az (fun (p : Str × Expr) =>(ev n G sc g p.2).map fun v =>(p.1,v)) kes = some kvs → (∀ us s',Kp s s' → Reps (hideAll s'.heap H) (kvs.map (·.2)) us → kes.map (·.1) = kvs.map (·.1) → Q us s') → wpAny (model X.prog X.w) A (evalAll ((backToKw p (keywordEach ks env)).map (·.2))) Q E s
 | [],kes,kvs,s,Q,S,e,h,q =>by
  obtain rfl:=oj e
  simp only [az,Option.some.injEq] at h; subst h
  exact wpAny_evalAll_nil (q [] s (Kp.refl s) .nil rfl)
 | ⟨none,v,q⟩ :: r,kes,kvs,s,Q,S,e,h,_ =>nS e
 | ⟨some x,v,q'⟩ :: r,kes,kvs,s,Q,S,e,h,q =>by
  refine bc fun hN =>?_
  refine au (show (kwV r).map ((x,v) :: ·) = some kes from e) fun ks' h1 h2 =>?_
  subst h2
  refine hN ?_; clear hN
  unfold az at h
  split at h
  ·rename_i b hb
   refine bc fun hN =>?_
   refine au hb fun w hw hEqq2 =>?_
   subst hEqq2
   refine au h fun ws hws hEqq2 =>?_
   subst hEqq2
   refine hN ?_; clear hN
   refine wpAny_evalAll_cons (x:=do let v ← eval v env; standAt p; pure v) (wpAny_bind (wpAny_mono (I _ _ _ _ _ _ _ _ _ _ _ S hA hw fun u s₁ k₁ r₁ =>?_) (fun _ _ h =>h) fun _ _ h =>h)) (Q:=Q) (rest:=(backToKw p (keywordEach r env)).map (·.2))
   refine wpAny_bind (wpAny_standAt (wpAny_pure (kws_eval I hA (S.kp k₁) h1 hws fun us s₂ k₂ r₂ hk =>?_)))
   exact q _ _ (k₁.trans k₂) (.cons (r₁.kp k₂) r₂) (by simp [hk])
  ·exact nS h
theorem evalArgsKw_ok (I : cv X G N n) (hA : Room A (N + n)) {p p' : Pos} {f : Value} {es : List Expr} {vs : List V} {ks : List Keyword} {kes : List (Str × Expr)} {kvs : List (Str × V)} {Q : Args → Shared → Prop} (S : St X sc env H Mu g s) (e : az (ev n G sc g) es = some vs)
  (hk : kwV ks = some kes) (hv : az (fun (p : Str × Expr) =>(ev n G sc g p.2).map fun v =>(p.1,v)) kes = some kvs)
  (q : ∀ us kus s',Kp s s' → Reps (hideAll s'.heap H) vs us → Reps (hideAll s'.heap H) (kvs.map (·.2)) kus → Q ⟨us,(kvs.map (·.1)).zip kus⟩ s') : wpAny (model X.prog X.w) A (evalArgs f true (backTo p (starEach es env)) (backToKw p' (keywordEach ks env))) Q E s:=by
 refine bc fun hN =>?_
 obtain ⟨h1,h2,_⟩:=kws_all (env:=env) (p:=p') hk
 refine hN ?_; clear hN
 have h:=dK (p:=p) (E:=E) I hA S e (Q:=fun us s₁ =>wpAny (model X.prog X.w) A (evalAll ((backToKw p' (keywordEach ks env)).map (·.2))) (fun kus s₂ =>Q ⟨us,((backToKw p' (keywordEach ks env)).filterMap (·.1)).zip kus⟩ s₂) E s₁) fun us s₁ k₁ r₁ =>
  kws_eval I hA (S.kp k₁) hk hv fun kus s₂ k₂ r₂ hn =>by simp only [h2,hn]; exact q us kus s₂ (k₁.trans k₂) (r₁.kp k₂) r₂
 cases es with
 | nil =>
  refine evalArgs_kw_nil h1 ?_
  simp only [az,Option.some.injEq] at e; subst e
  exact kws_eval I hA S hk hv fun kus s₂ k₂ r₂ hn =>by simp only [h2,hn]; exact q [] kus s₂ k₂ .nil r₂
 | cons e1 es =>
  unfold az at e
  split at e
  ·rename_i v hv1
   rw [bj hv1] at h ⊢
   exact evalArgs_kw h1 h
  ·exact nS e
theorem callFn_ok (hG : GOk X G N) (I : cv X G N n) (hA : Room A (N + n)) {f : Str} {pf p : Pos} {es : List Expr} {vs : List V} {ks : List Keyword} {kes : List (Str × Expr)} {kvs : List (Str × V)} {r : V} (S : St X sc env H Mu g s) (hf : br sc f = true)
  (e : az (ev n G sc g) es = some vs) (hk : kwV ks = some kes) (hv : az (fun (p : Str × Expr) =>(ev n G sc g p.2).map fun v =>(p.1,v)) kes = some kvs) (hr : G.fn f vs kvs = some r) (q : bo H s r Q) :
  wpAny (model X.prog X.w) A (eval (.Call (.Name f pf) es ks p) env) Q E s:=by
 refine bc fun hN =>?_
 obtain ⟨a,hm,hkp,F⟩:=hG.fn f vs kvs r hr
 obtain ⟨_,_,h3⟩:=kws_all (env:=env) (p:=p) hk
 refine hN ?_; clear hN
 refine wpAny_Call_Name_kw (load_glob S hf hm ?_)
 refine callWith_of (P:=fun h =>X.K.In h) (by simp only [bT e,h3]; rfl) (keeps_K hkp) (evalArgsKw_ok I hA S e hk hv fun us kus s' k r1 r2 =>⟨cC (S.kp k).base,?_⟩)
 exact F A s' H us kus Q E (hA.mono (by lia)) (S.kp k).base (S.kp k).ho r1 r2 (q.after k)
theorem callBlt_ok (I : cv X G N n) (hA : Room A (N + n)) {f : Str} {pf p : Pos} {es : List Expr} {vs : List V} {r : V} (S : St X sc env H Mu g s) (hf : br sc f = true)
  (e : az (ev n G sc g) es = some vs) (hr : aj f vs = some r) (q : bo H s r Q) :
  wpAny (model X.prog X.w) A (eval (.Call (.Name f pf) es [] p) env) Q E s:=by
 refine wpAny_Call_Name_kw (et S hf (bltV_isBlt hr) ?_)
 refine callWith_of (P:=fun _ =>True) (by rw [bT e]; rfl) (fun h _ =>dA (eG f) _ h) (dj I hA S e fun us s' k r1 =>⟨trivial,?_⟩)
 exact bltV_ok hr r1 (S.kp k).ho hA (q.after k)
theorem lenOwn_ok (hA : Room A (N + n)) {x : Str} {px pf p : Pos} {xs : List V} {k : Nat} (S : St X sc env H Mu g s) (hf : br sc "len" = true) (hx : ax sc x = true) (hl : g.lookup x = some (.own xs)) (e : gk (.list xs) = some k) (q : bo H s (.int k) Q) :
  wpAny (model X.prog X.w) A (eval (.Call (.Name "len" pf) [.Name x px] [] p) env) Q E s:=by
 refine wpAny_Call_Name_kw (et S hf (by decide) ?_)
 refine callWith_of (P:=fun _ =>True) rfl (fun h _ =>dA (eG _) _ h) ?_
 refine evalArgs_plain (x:=eval (.Name x px) env) (rest:=[]) (spliced_cons (load_own S hx hl fun a us hla hr =>spliced_nil ⟨trivial,?_⟩))
 simp only [gk] at e
 split at e
 ·obtain rfl:=oj e
  have hn:=hr.size
  have hl2 : (lid : Int) < 2 ^ 62:=by decide
  show wpAny _ _ (call (.builtin "len") [.ref a] []) _ _ _
  refine call_len_list hla (by rw [hn]; lia) ?_
  rw [hn]; exact q.int _ _
 ·exact nS e
theorem evI_ok (I : cv X G N n) : EvIOK X G N (n + 1):=by
 intro sc env H Mu g s A E Q e xs S hA hi q
 have plain : ∀ {e' : Expr},(ev n G sc g e').bind ao = some xs → wpAny (model X.prog X.w) A (eval e' env) (fun xv s₁ =>wpAny (model X.prog X.w) A (pyIter xv) Q E s₁) E s:=fun {e'} h =>by
  refine bc fun hN =>?_
  refine aa h fun v h1 h2 =>?_
  refine hN ?_; clear hN
  exact I _ _ _ _ _ _ _ _ _ _ _ S hA.up h1 fun u s₁ k₁ r₁ =>items_ok hA.hh h2 r₁ fun it s₂ k₂ IT =>q it s₁ s₂ k₁ k₂ IT
 have h2 : (match bI e with
  | some c =>if (br sc c.1 && c.1 == ("range" : Str)) = true then (az (ev n G sc g) c.2).bind (bM c.1) else (ev n G sc g e).bind ao
  | .none =>(ev n G sc g e).bind ao) = some xs:=hi
 cases hc : bI e with
 | none =>rw [hc] at h2; exact plain h2
 | some c =>
  rw [hc] at h2
  dsimp only at h2
  split at h2
  ·rename_i hf
   rw [Bool.and_eq_true] at hf
   refine bc fun hN =>?_
   obtain ⟨p,q',rfl⟩:=dg hc
   refine aa h2 fun vs hvs h2 =>?_
   refine hN ?_; clear hN
   have hb:=iterV_isBlt h2
   refine wpAny_Call_Name_kw (et S hf.1 hb ?_)
   refine callWith_of (P:=fun _ =>True) (by rw [bT hvs]; rfl) (fun h _ =>dA (eG _) _ h) (dj I hA.up S hvs fun us s' k r1 =>⟨trivial,?_⟩)
   exact iterV_ok hA.hh (Kp.refl s') h2 r1 fun it s₂ k₂ IT =>q it s' s₂ k k₂ IT
  ·exact plain h2
theorem noCall_base {x : Str} {px : Pos} {m : Str} {env : Env} : attributeBase (.Name x px) m env (eval (.Name x px) env) = eval (.Name x px) env:=rfl
theorem meth_call (I : cv X G N n) (hA : Room A (N + n)) {x m : Str} {px pa p : Pos} {es : List Expr} {vs : List V} {ix Ca dx f : Addr} {ds : List DictEntry} {k0 : Nat} {mm : Str → Option Value} {Q : Value → Shared → Prop}
  (S : St X sc env H Mu g s) (hx : ax sc x = true) (hn : s.heap.Ns env.locals mm) (ha : At env s.heap mm x (.ref ix)) (h3 : s.heap.get? ix = some (instObj Ca dx)) (h4 : s.heap.get? dx = some (dictOf ds k0)) (hg : getL m ds = some none)
  (M : MethAt X Ca m f) (hline : bJ pa p = true) (hsz : es.length < 20) (e : az (ev n G sc g) es = some vs)
  (q : ∀ us s',Kp s s' → Reps (hideAll s'.heap H) vs us → wpAny (model X.prog X.w) A (call (.ref f) (.ref ix :: us)) Q E s') :
  wpAny (model X.prog X.w) A (eval (.Call (.Attribute (.Name x px) m pa) es [] p) env) Q E s:=by
 have hpl:=bT (p:=p) (env:=env) e
 have hall : (backTo p (starEach es env)).all (fun x =>!x.1) = true:=by
  rw [List.all_eq_true]
  intro y hy
  rw [List.any_eq_false] at hpl
  simpa using hpl y hy
 have hform : methodCallForm (es.length + ([] : List Keyword).length) (backTo p (starEach es env)) (backToKw p (keywordEach [] env)) = true:=by
  unfold methodCallForm
  have : es.length < 30:=by lia
  rw [hall,arm_keywordEach_nil]; simp [backToKw,this]
 have hpos : methodCallPos true (.Name x px) env pa p = pure p:=by
  have : (pa.endLine == p.line) = true:=hline
  unfold methodCallPos; simp [this]
 simp only [arm_eval_Call,noCall_base]
 refine wpAny_bind (ga S.kind (du hx) hn ha (wpAny_bind (wpAny_standAt ?_)))
 unfold methodCall
 rw [hform]
 refine wpAny_bind (wpAny_holding (method_fn (cC S.base) (inst_at h3 h4) (plainGet_of M.get).1 (plainGet_of M.get).2 M.find (beq_iff_eq.mp M.fn) (by show (lookIn m (dictOf ds k0)).map _ = _; simp only [lookIn_dict,hg]; rfl) ?_))
 refine wpAny_bind (wpAny_of_eq hpos ?_)
 exact callWith_of (P:=fun h =>X.K.In h) (by rw [hpl]; rfl) (keeps_K M.keep) (dj I hA S e fun us s' k r1 =>⟨cC (S.kp k).base,q us s' k r1⟩)
theorem callPm_ok (hG : GOk X G N) (I : cv X G N n) (hA : Room A (N + n)) {x m : Str} {px pa p : Pos} {es : List Expr} {vs : List V} {C : Str} {fl : List (Str × V)} {r : V} (S : St X sc env H Mu g s) (hx : ax sc x = true) (hl : g.lookup x = some (.inst C fl))
  (hm : fl.lookup m = none) (hline : bJ pa p = true) (hsz : es.length < 20) (e : az (ev n G sc g) es = some vs) (hr : G.pm C m vs = some r) (q : bo H s r Q) :
  wpAny (model X.prog X.w) A (eval (.Call (.Attribute (.Name x px) m pa) es [] p) env) Q E s:=by
 refine bc fun hN =>?_
 obtain ⟨mm,ad,hn,hd,_⟩:=S.held
 obtain ⟨ix,Ca,ds,k0,a,e2,e3,e4,_,_,_,_,rf⟩:=hd x _ hx hl
 obtain ⟨f,M,F⟩:=hG.pm C m vs r Ca hr e2
 refine hN ?_; clear hN
 refine meth_call I hA S hx hn a e3 e4 (fX rf hm) M hline hsz e fun us s' k r1 =>?_
 exact F A s' H ix (ad x) us Q E (hA.mono (by lia)) (S.kp k).base (S.kp k).ho (k.keep _ _ e3) r1 (q.after k)
end
end Mine
end
section
namespace Mine
open PySem PySem.W PyProof.Rows PySem.Calls PySem.SeqAt
open Builtin
theorem fq : Slot "bytes" "join" "bytes.join" :=
 .of (owner:="bytes") (n:="join") (by rw [typeLookup_type,builtinLookup_eq_fast]; kernel_rfl) (by decide +kernel) (by decide +kernel) (by decide +kernel)
  (by first | exact .inl (by decide +kernel) | exact .inr (by decide +kernel)) (by rw [isSubtype_type]; kernel_rfl)
theorem type_bytes_join : typeOf (.builtin "bytes.join") = pure (.type "method_descriptor"):=by show builtinType _ = _; rw [builtinType_eq_fast]; kernel_rfl
theorem entry_bytes_join : entryFor table "bytes.join" = some Builtin.«bytes.join»:=entryFor_of_tree (by kernel_rfl)
theorem args_bytes_join_2 (a b : Value) : argsOk "bytes.join" ⟨[a,b],[]⟩:=by
 unfold argsOk; rw [signature?_of (id:="bytes.join") (n:=['n','i','o','j']) (o:=['s','e','t','y','b']) (by kernel_rfl) FB.owner_bytes]; kernel_rfl
theorem take_eq {id : String} {b : Array UInt8} {t : Tok} : Bytes.takeBufferQuiet? id (.bytes b t) 0 = pure (some (b,none)):=by
 unfold Bytes.takeBufferQuiet? Bytes.takeBuffer?
 rw [KBy.special_eq KBy.look_buffer]
 have e0 : ((0 : Int) == Bytes.fullReadOnly) = false:=by decide
 rw [e0]
 simp only [pure_bind,KBy.own_buffer,KBy.buffer_eq]
 rfl
noncomputable def AreB : List Value → List (Array UInt8) → Prop
 | [],[] =>True
 | u :: us,b :: bs =>(∃ t,u = .bytes b t) ∧ AreB us bs
 | _,_ =>False
theorem AreB.at : ∀ {us : List Value} {bs : List (Array UInt8)} {i : Nat},AreB us bs → i < us.length → ∃ b t,bs[i]? = some b ∧ us[i]? = some (.bytes b t)
 | [],_,_,_,h =>by simp at h
 | u :: us,[],_,a,_ =>by cases a
 | u :: us,b :: bs,0,⟨⟨t,e⟩,_⟩,_ =>⟨b,t,rfl,by rw [e]; rfl⟩
 | u :: us,b :: bs,i + 1,⟨_,a⟩,h =>by
  refine bc fun hN =>?_
  obtain ⟨b',t,e1,e2⟩:=AreB.at a (i:=i) (by simpa using h)
  refine hN ?_; clear hN
  exact ⟨b',t,by simpa using e1,by simpa using e2⟩
theorem AreB.length : ∀ {us : List Value} {bs : List (Array UInt8)},AreB us bs → us.length = bs.length
 | [],[],_ =>rfl
 | [],_ :: _,a =>by cases a
 | _ :: _,[],a =>by cases a
 | _ :: _,_ :: _,a =>by simp [AreB.length a.2]
theorem joined_fold : ∀ (bs : List (Array UInt8)) (k : Nat) (out : Array UInt8),((bs.zipIdx k).foldl (fun out (x : Array UInt8 × Nat) =>(if x.2 > 0 then out ++ #[] else out) ++ x.1) out).toList = out.toList ++ (bs.map Array.toList).flatten
 | [],k,out =>by simp
 | b :: bs,k,out =>by
  simp only [List.zipIdx_cons,List.foldl_cons,joined_fold bs (k + 1)]
  have : ((if k > 0 then out ++ #[] else out) ++ b).toList = out.toList ++ b.toList:=by split <;> simp
  rw [this]; simp
theorem joined_eq (bs : List (Array UInt8)) : (Bytes.joined #[] bs).toList = (bs.map Array.toList).flatten:=by
 have:=joined_fold bs 0 #[]
 simpa [Bytes.joined] using this
theorem sum_fold : ∀ (bs : List (Array UInt8)) (k : Nat),bs.foldl (fun a b =>a + b.size) k = k + ((bs.map Array.toList).flatten).length
 | [],k =>by simp
 | b :: bs,k =>by simp only [List.foldl_cons,sum_fold bs]; simp; lia
section
variable {prog : Program} {w : World} {A : Around} {E Q : Value → Shared → Prop} {s : Shared}
theorem letGo_join {taken : List (Value × Option Value)} {keep : List Value} {R : Unit → Shared → Prop} (h : ∀ p ∈ taken,p.2 = none) (q : R () s) : wpAny (model prog w) A (Bytes.joinLetGo taken keep) R E s:=by
 induction taken with
 | nil =>exact wpAny_pure q
 | cons p r ih =>
  obtain ⟨x,w'⟩:=p
  have:=h (x,w') (.head _)
  simp only at this; subst this
  rw [Bytes.joinLetGo]
  ·exact wpAny_bind (wpAny_letGo (ih fun p hp =>h p (.tail _ hp)))
  ·intro i e; exact nS e
inductive JI (us : List Value) (bs : List (Array UInt8)) (s : Shared) (l : List Nat) (a : Array (Array UInt8)) (b : List (Value × Option Value)) (s' : Shared) : Prop
 | mk (e : s' = s) (i : Nat) (hi : i ≤ us.length) (hl : l = List.range' i (us.length - i)) (hp : a = (bs.take i).toArray) (ht : ∀ p ∈ b,p.2 = none ∧ p.1.onHeap = false) : JI us bs s l a b s'
theorem join_run {l : Addr} {us : List Value} {bs : List (Array UInt8)} {t : Tok} (hl : s.heap.IsList l us.toArray) (hb : AreB us bs) (hsz : (bs.toArray.foldl (· + ·.size) 0) ≤ sizeLine)
  (q : ∀ t' k,Q (.bytes (Bytes.joined #[] bs) t') { s with toks:=k }) :
  wpAny (model prog w) A (Builtin.«bytes.join» ⟨[.bytes #[] t,.ref l],[]⟩) (fun fin s' =>∃ v,fin = .done (.ret v) ∧ Q v s') E s:=by
 refine bc fun hN =>?_
 obtain ⟨o,ho,hc,n,hd⟩:=id hl
 refine hN ?_; clear hN
 unfold Builtin.«bytes.join» Bytes.joinM
 show wpAny _ _ (Bytes.joinItems (.ref l) >>= fun seq =>_) _ _ s
 refine wpAny_bind ?_
 unfold Bytes.joinItems
 refine wpAny_bind (wpAny_typeOf (T:="list") ⟨o,ho,hc⟩ ?_)
 rw [if_pos (by decide)]
 refine wpAny_pure ?_
 refine wpAny_bind (wpAny_seqItems ho hd ?_)
 dsimp only
 rw [if_pos (by decide)]
 have hlen:=hb.length
 have fin : ∀ (taken : List (Value × Option Value)) (parts : Array (Array UInt8)),parts = bs.toArray → (∀ p ∈ taken,p.2 = none) → wpAny (model prog w) A (do
   let sep ← Bytes.payload (.bytes #[] t)
   if Bytes.tooLong (parts.foldl (· + ·.size) (sep.size * (parts.size - 1))) then unsupported s!"{s!"{Bytes.Kind.bytes.name}.join"}:memory"
   let result ← Bytes.Kind.bytes.new (Bytes.joined sep parts.toList)
   holding (result :: taken.flatMap fun (y,u) =>y :: u.toList) point
   Bytes.joinLetGo taken [result]
   ret result : Sem Fin) (fun fin s' =>∃ v,fin = .done (.ret v) ∧ Q v s') E s:=by
  rintro taken parts rfl hn
  refine wpAny_bind (wpAny_of_eq (a:=(#[] : Array UInt8)) rfl ?_)
  have htl : Bytes.tooLong (bs.toArray.foldl (· + ·.size) ((#[] : Array UInt8).size * (bs.toArray.size - 1))) = false:=by
   unfold Bytes.tooLong
   have : (#[] : Array UInt8).size * (bs.toArray.size - 1) = 0:=by simp
   rw [this]
   exact decide_eq_false (Nat.not_lt.mpr hsz)
  rw [htl]
  refine wpAny_ite (KBy.ite_no (by decide) ?_)
  show wpAny _ _ (mkBytes (Bytes.joined #[] bs.toArray.toList) >>= fun r =>_) _ _ s
  refine wpAny_bind (wpAny_mkBytes ?_ ?_)
  ·refine wpAny_bind (wpAny_holding (wpAny_point (wpAny_bind (letGo_join hn (wpAny_pure ⟨_,rfl,?_⟩)))))
   exact q _ _
  ·have h1:=joined_eq bs
   have h2:=sum_fold bs 0
   have h3:=congrArg List.length h1
   have h4 : (Bytes.joined #[] bs.toArray.toList).size = (Bytes.joined #[] bs).toList.length:=by simp
   have h5 : bs.toArray.foldl (fun a b =>a + b.size) 0 = bs.foldl (fun a b =>a + b.size) 0:=by simp
   exact Nat.le_trans (Nat.le_of_eq (h4.trans (h3.trans ((Nat.zero_add _).symm.trans (h2.symm.trans h5.symm))))) hsz
 rcases us with _ | ⟨x,_ | ⟨y,r⟩⟩
 ·show wpAny _ _ (forIn _ _ _ >>= _) _ _ _
  refine wpAny_bind ?_
  have hb0 : bs = []:=List.length_eq_zero_iff.mp hlen.symm
  rw [Std.Legacy.Range.forIn_eq_forIn_range']
  refine wpAny_pure ?_
  exact fin [] #[] (by rw [hb0]) (fun p hp =>by cases hp)
 ·show wpAny _ _ (typeOf x >>= _) _ _ _
  refine bc fun hN =>?_
  obtain ⟨b,t',e1,e2⟩:=hb.at (i:=0) (by simp)
  refine hN ?_; clear hN
  simp only [List.getElem?_cons_zero,Option.some.injEq] at e2
  subst e2
  refine wpAny_bind (wpAny_typeOf (typeIs_bytes s b t') ?_)
  rw [if_pos (by decide)]
  refine wpAny_bind (wpAny_rule (wpAny_pure ⟨_,rfl,?_⟩))
  cases bs with
  | nil =>simp at e1
  | cons b' bs =>
   have : bs = []:=List.length_eq_zero_iff.mp (by simpa using hlen.symm)
   subst this
   simp only [List.getElem?_cons_zero,Option.some.injEq] at e1
   subst e1
   have : Bytes.joined #[] [b'] = b':=by simp [Bytes.joined]
   have q':=q t' s.toks
   rw [this] at q'
   exact q'
 ·show wpAny _ _ (forIn _ _ _ >>= _) _ _ _
  refine wpAny_bind ?_
  generalize hus : x :: y :: r = us at *
  rw [Std.Legacy.Range.forIn_eq_forIn_range']
  refine wpAny_forIn_list _ (fun l st s' =>JI us bs s l st.1 st.2 s') _ ?_ ?_ _ _ ⟨rfl,0,Nat.zero_le _,?_,by simp,fun p hp =>by cases hp⟩
  ·rintro i0 rest st s' ⟨rfl,i,hi,hl0,hp,ht⟩
   have hlt : i < us.length:=by
    rcases Nat.lt_or_ge i us.length with h' | h'
    ·exact h'
    ·rw [Nat.sub_eq_zero_of_le h'] at hl0; simp at hl0
   obtain ⟨n',hn'⟩ : ∃ n',us.length - i = n' + 1:=Nat.exists_eq_succ_of_ne_zero (Nat.sub_ne_zero_of_lt hlt)
   simp only [hn',List.range'_succ] at hl0
   refine bc fun hN =>?_
   obtain ⟨rfl,rfl⟩:=List.cons.inj hl0
   refine hN ?_; clear hN
   refine wpAny_bind (wpAny_seqItems ho hd ?_)
   dsimp only
   refine bc fun hN =>?_
   obtain ⟨b,t',e1,e2⟩:=hb.at hlt
   refine hN ?_; clear hN
   have hx : us.toArray.getD i0 .none = .bytes b t':=by
    simp [Array.getD,hlt,List.getElem?_eq_getElem hlt] at e2 ⊢
    exact e2
   have hany : (st.2.any fun x =>x.1.onHeap) = false:=by
    rw [List.any_eq_false]; intro p hp; simp [(ht p hp).2]
   have hk : (Bytes.Kind.bytes == Bytes.Kind.bytearray) = false:=by decide
   simp only [hany,hk,Bool.or_false,Bool.false_eq_true,if_false]
   rw [hx]
   refine wpAny_bind (wpAny_holding (wpAny_of_eq take_eq ?_))
   refine wpAny_bind (wpAny_seqItems ho hd ?_)
   simp only [bne_self_eq_false,Bool.false_eq_true,if_false]
   refine wpAny_pure ⟨rfl,i0 + 1,hlt,by rw [← Nat.sub_sub,hn']; rfl,?_,?_⟩
   ·show (st.1.push b) = _
    simp only [hp,List.take_add_one,e1]; simp
   ·intro p hp'
    rcases List.mem_append.mp hp' with h | h
    ·exact ht p h
    ·rw [List.mem_singleton.mp h]; exact ⟨rfl,rfl⟩
  ·rintro st s' ⟨rfl,i,hi,hl0,hp,ht⟩
   have hie : i = us.length:=by
    rcases Nat.lt_or_ge i us.length with h' | h'
    ·obtain ⟨n',hn'⟩ : ∃ n',us.length - i = n' + 1:=Nat.exists_eq_succ_of_ne_zero (Nat.sub_ne_zero_of_lt h')
     simp only [hn',List.range'_succ] at hl0; simp at hl0
    ·exact Nat.le_antisymm hi h'
   subst hie
   exact fin st.2 st.1 (by simp only [hp,hlen,List.take_length]) fun p hp =>(ht p hp).1
  ·simp [Std.Legacy.Range.size]
theorem reps_bytes : ∀ {h : Heap} {xs : List V} {us : List Value} {bs : List (List Int)},Reps h xs us → eH xs = some bs → ∃ cs,AreB us cs ∧ cs.map KBw.bInts = bs
 | h,[],us,bs,r,e =>by
  unfold Reps at r; subst r
  obtain rfl:=oj e
  exact ⟨[],trivial,rfl⟩
 | h,x :: xs,us,bs,r,e =>by
  unfold Reps at r
  obtain ⟨v,r',rfl,h1,h2⟩:=r
  cases x with
  | bytes b =>
   unfold Rep at h1
   obtain ⟨c,t,rfl,hc⟩:=h1
   refine au e fun ms e1 e2 =>?_
   subst e2
   obtain ⟨cs,a,b'⟩:=reps_bytes h2 e1
   exact ⟨c :: cs,⟨⟨t,rfl⟩,a⟩,by rw [List.map_cons,hc,b']⟩
  | _ =>exact nS e
theorem bInts_flat : ∀ (cs : List (Array UInt8)),((cs.map Array.toList).flatten.map fun c =>(c.toNat : Int)) = (cs.map KBw.bInts).flatten
 | [] =>rfl
 | c :: cs =>by
  have:=bInts_flat cs
  simp only [List.map_cons,List.flatten_cons,List.map_append,this]
  rfl
theorem join_call {H : List Addr} {xs : List V} {u : Value} {bs : List (List Int)} {t : Tok} (hx : Rep (hideAll s.heap H) (.list xs) u) (e : eH xs = some bs) (hz : bs.flatten.length ≤ lid) (q : bo H s (.bytes bs.flatten) Q) :
  wpAny (model prog w) A (call (.builtin "bytes.join") [.bytes #[] t,u]) Q E s:=by
 unfold Rep at hx; obtain ⟨l,us,rfl,hl,hr⟩:=hx
 obtain ⟨cs,hc,rfl⟩:=reps_bytes hr e
 have hf:=bInts_flat cs
 have hlen:=congrArg List.length hf
 rw [List.length_map] at hlen
 refine wpAny_call_entry fq (typeIs_bytes s #[] t) entry_bytes_join (join_run (aK hl) hc ?_ fun t' k =>q.bytes ?_ t' k) (args_bytes_join_2 _ _)
 ·have h2:=sum_fold cs 0
  have h5 : cs.toArray.foldl (fun a b =>a + b.size) 0 = cs.foldl (fun a b =>a + b.size) 0:=by simp
  exact Nat.le_trans (Nat.le_of_eq (h5.trans (h2.trans ((Nat.zero_add _).trans hlen)))) (Nat.le_trans hz cL)
 ·simp only [← hf,← joined_eq]; rfl
end
end Mine
end
section
namespace Mine
open PySem PySem.W PyProof.Rows PySem.Calls PySem.SeqAt
section
variable {X : Gx} {G : Ge} {N n : Nat} {sc : Scope} {env : Env} {H Mu : List Addr} {g : Gam} {s : Shared} {A : Around} {E Q : Value → Shared → Prop}
theorem joinE_ok (I : cv X G N n) (hA : Room A (N + n)) {e : Expr} {k : Nat} {pc pa p : Pos} {xs : List V} {bs : List (List Int)} (S : St X sc env H Mu g s) (hline : bJ pa p = true) (he : ev n G sc g e = some (.list xs)) (hb : eH xs = some bs) (hz : bs.flatten.length ≤ lid) (q : bo H s (.bytes bs.flatten) Q) :
  wpAny (model X.prog X.w) A (eval (.Call (.Attribute (.Constant (.bytes []) k pc) "join" pa) [e] [] p) env) Q E s:=by
 have hs:=bj (env:=env) (es:=[]) he
 refine wpAny_Call_method_late rfl (by rw [hs]; rfl) hline rfl (Constant_bytes ⟨"bytes","bytes.join",FB.plainAttrs_bytes,fq,type_bytes_join,typeIs_bytes _ _ _,(fun _ h =>by cases h),?_⟩)
 have hpl : (backTo p (starEach [e] env)).any (·.1) = false:=by rw [hs]; rfl
 refine callWith_builtin hpl ?_
 rw [hs]
 have k0 : Kp s { s with toks:=s.toks + 1 }:=Kp.toks _
 refine evalArgs_plain (x:=eval e env) (rest:=[]) (spliced_cons (I _ _ _ _ _ _ _ _ _ _ _ (S.kp k0) hA he fun u s' k r =>spliced_nil ?_))
 exact join_call r hb hz (q.after (k0.trans k))
theorem pairs_ok (I : cv X G N n) (hA : Room A (N + n)) {p : Pos} : ∀ {ks : List (Option Expr)} {vs : List Expr} {kl : List Int} {vl : List V} {s : Shared} {Q : List (Value × Value) → Shared → Prop},St X sc env H Mu g s → az eR ks = some kl → az (ev n G sc g) vs = some vl → kl.length = vl.length →
  (∀ ps us s',Kp s s' → Reps (hideAll s'.heap H) vl us → allIntKeys ps = true → intKeyPairs ps = kl.zip us → Q ps s') → wpAny (model X.prog X.w) A (evalPairs (pairTrees ks vs env p)) Q E s
 | [],[],kl,vl,s,Q,S,hk,hv,_,q =>by
  simp only [az,Option.some.injEq] at hk hv; subst hk hv
  exact pairTrees_nil_walk (q [] [] s (Kp.refl s) .nil rfl rfl)
 | [],v :: vs,kl,vl,s,Q,S,hk,hv,hl,q =>by
  simp only [az,Option.some.injEq] at hk; subst hk
  have : vl = []:=List.length_eq_zero_iff.mp hl.symm
  subst this
  unfold az at hv
  split at hv
  ·simp at hv
  ·exact nS hv
 | o :: ks,[],kl,vl,s,Q,S,hk,hv,hl,q =>by
  simp only [az,Option.some.injEq] at hv; subst hv
  have : kl = []:=List.length_eq_zero_iff.mp hl
  subst this
  unfold az at hk
  split at hk
  ·simp at hk
  ·exact nS hk
 | o :: ks,v :: vs,kl,vl,s,Q,S,hk,hv,hl,q =>by
  unfold az at hk hv
  split at hk
  ·rename_i j hj
   refine bc fun hN =>?_
   refine au hk fun kl' hk' hEqq2 =>?_
   subst hEqq2
   refine hN ?_; clear hN
   split at hv
   ·rename_i x hx
    refine bc fun hN =>?_
    refine au hv fun vl' hv' hEqq2 =>?_
    subst hEqq2
    refine aa hj fun oe hEqq1 hj =>?_
    subst hEqq1
    obtain ⟨kk,pk,rfl⟩:=fF hj
    refine hN ?_; clear hN
    ·refine pairTrees_cons_walk (wpAny_Constant_int (I _ _ _ _ _ _ _ _ _ _ _ (S.kp (Kp.toks _)) hA hx fun u s' k r =>?_))
     refine pairs_ok I hA (S.kp ((Kp.toks _).trans k)) hk' hv' (by simpa using hl) fun ps us s'' k' rs h1 h2 =>?_
     exact q _ (u :: us) s'' (((Kp.toks _).trans k).trans k') (.cons (r.kp k') rs) h1 (by simp [intKeyPairs,h2])
   ·exact nS hv
  ·exact nS hk
theorem lookup_zip {h : Heap} {j : Int} {z : V} : ∀ {kl : List Int} {vl : List V} {us : List Value},Reps h vl us → (kl.zip vl).lookup j = some z → ∃ u,valueAt (kl.zip us) j = some u ∧ Rep h z u
 | [],_,_,_,e =>by simp at e
 | k :: kl,[],_,_,e =>by simp at e
 | k :: kl,v :: vl,us,r,e =>by
  unfold Reps at r
  obtain ⟨u,r',rfl,h1,h2⟩:=r
  simp only [List.zip_cons_cons,List.lookup_cons] at e
  rw [List.zip_cons_cons]
  unfold valueAt
  rw [List.find?_cons]
  cases hj : j == k with
  | true =>
   rw [hj] at e; obtain rfl:=oj e
   have : k = j:=(beq_iff_eq.mp hj).symm
   subst this
   exact ⟨u,by simp,h1⟩
  | false =>
   rw [hj] at e
   have hjk : ¬ k = j:=fun h =>by subst h; simp at hj
   obtain ⟨u',g1,g2⟩:=lookup_zip h2 e
   refine ⟨u',?_,g2⟩
   unfold valueAt at g1
   simpa [hjk] using g1
theorem dictSub_ok (I : cv X G N n) (hA : Room A (N + n)) {ks : List (Option Expr)} {vs : List Expr} {i : Expr} {pd p : Pos} {kl : List Int} {vl : List V} {j : Int} {z : V} (S : St X sc env H Mu g s)
  (hk : az eR ks = some kl) (hv : az (ev n G sc g) vs = some vl) (hi : ev n G sc g i = some (.int j)) (hl : kl.length = vl.length) (h1 : 1 ≤ kl.length) (h8 : kl.length ≤ 8) (hn : kl.Nodup) (e : (kl.zip vl).lookup j = some z) (q : bo H s z Q) :
  wpAny (model X.prog X.w) A (eval (.Subscript (.Dict ks vs pd) i p) env) Q E s:=by
 have lenO : ∀ {α β : Type} {f : α → Option β} {l : List α} {r : List β},az f l = some r → l.length = r.length:=by
  intro α β f l
  induction l with
  | nil =>intro r h; simp only [az,Option.some.injEq] at h; subst h; rfl
  | cons a l ih =>
   intro r h
   unfold az at h
   split at h
   ·refine bc fun hN =>?_
    refine au h fun r' h' hEqq2 =>?_
    subst hEqq2
    refine hN ?_; clear hN
    simp [ih h']
   ·exact nS h
 have allK : ∀ {ks : List (Option Expr)} {kl : List Int},az eR ks = some kl → ks.all (·.isSome) = true:=by
  intro ks
  induction ks with
  | nil =>intros; rfl
  | cons a l ih =>
   intro r h
   unfold az at h
   split at h
   ·rename_i b hb
    refine bc fun hN =>?_
    refine au h fun r' h' hEqq2 =>?_
    subst hEqq2
    refine hN ?_; clear hN
    simp only [List.all_cons,ih h']
    cases a with
    | none =>simp [eR] at hb
    | some a =>rfl
   ·exact nS h
 have l1:=lenO hk
 have l2:=lenO hv
 let s0 : Shared:={ s with heap:=s.heap.push { cls:=.type "dict",data:=.dict #[] } }
 have k0 : Kp s s0:=Kp.push _
 refine Subscript_ (wpAny_Dict_walk (knd:=intKind X.prog X.w) (allK hk) (by lia) (fun h =>by rw [h] at l1; simp at l1; lia) (by lia) (pairs_ok I hA (S.kp k0) hk hv hl fun ps us s₁ k₁ r₁ a1 a2 =>?_))
 have hsz : s0.heap.objs.size ≤ s₁.heap.objs.size ∨ True:=.inr trivial
 have hd0 : s₁.heap.DictOf (intKind X.prog X.w) s.heap.objs.size []:=(Heap.DictOf.new (knd:=intKind X.prog X.w) s.heap).keep k₁.keep
 refine display_done_int a1 (by rw [a2,List.map_fst_zip (by rw [r₁.length]; lia)]; exact hn) hd0 fun h' hd' hs' =>?_
 have hd'':=hd'
 rw [a2] at hd'
 have kd : Kp s { s₁ with heap:=h',toks:=s₁.toks + ps.length }:=by
  refine bc fun hN =>?_
  obtain ⟨ha,ta,ea,ka⟩:=k0.trans k₁
  refine hN ?_; clear hN
  refine ⟨h',s₁.toks + ps.length,by rw [ea],fun b o e =>hs'.extBut b o (fun hb =>?_) ?_⟩
  ·subst hb; exact absurd (Heap.lt_size e) (Nat.lt_irrefl _)
  ·have:=ka b o e
   rw [ea]; exact this
 have rd : Reps (hideAll h' H) vl us:=r₁.mono fun b o e hq =>by
  refine hideAll_get H (hs'.extBut b o (fun hb =>?_) (of_hideAll H e)) (bq e)
  subst hb
  refine bc fun hN =>?_
  obtain ⟨o',es,ep,ho',_,hdat,_⟩:=hd0
  rw [of_hideAll H e] at ho'; obtain rfl:=oj ho'
  obtain ⟨_,_,hq⟩:=hq
  refine hN ?_; clear hN
  rw [hdat] at hq; cases hq
 refine I _ _ _ _ _ _ _ _ _ _ _ (S.kp kd) hA hi fun v s₂ k₂ r₂ =>?_
 unfold Rep at r₂; obtain ⟨t,rfl⟩:=r₂
 have hd2:=hd'.keep k₂.keep
 refine bc fun hN =>?_
 obtain ⟨u,g1,g2⟩:=lookup_zip (rd.kp k₂) e
 refine hN ?_; clear hN
 refine tail_any hd2.typeIs slot_dict_getitem.lookup (wpAny_getItem_of (intKind_is _ _ _ _) hd2.mapOf g1 ?_) (cU (gC hi))
 exact q _ _ ((kd.trans k₂).trans (Kp.toks _)) g2
end
section
variable {X : Gx} {G : Ge} {N n : Nat}
theorem evT_ok (I : cv X G N n) (IT : EvTOK X G N n) (IA : EvAOK X G N n) (IC : EvCOK X G N n) : EvTOK X G N (n + 1):=by
 intro sc env H Mu g s A E Q e b S hA h q
 have dflt : ∀ {e : Expr},(ev n G sc g e).bind V.tru = some b → isTrue e env (eval e env) = (do let v ← eval e env; standAt e.pos; holding [v] (truthy v)) → wpAny (model X.prog X.w) A (isTrue e env (eval e env)) Q E s:=fun {e} h he =>by
  refine bc fun hN =>?_
  refine aa h fun v hv ht =>?_
  refine hN ?_; clear hN
  exact wpAny_isTrue_value (I _ _ _ _ _ _ _ _ _ _ _ S hA.up hv fun u s' k r =>tru_ok ht r (q s' k)) he
 cases e with
 | UnaryOp op a p =>
  cases op with
  | Not =>
   refine bc fun hN =>?_
   refine au (show (evT n G sc g a).map (!·) = some b from h) fun c hc hEqq2 =>?_
   subst hEqq2
   refine hN ?_; clear hN
   exact wpAny_isTrue_Not (IT _ _ _ _ _ _ _ _ _ _ _ S hA.up hc q)
  | _ =>exact dflt h rfl
 | BoolOp op es p =>exact wpAny_isTrue_BoolOp (IA _ _ _ _ _ _ _ _ _ _ _ _ S hA.up h q)
 | IfExp t a c p =>
  refine bc fun hN =>?_
  obtain ⟨d,ht,h⟩:=gG (show iteO (evT n G sc g t) (evT n G sc g a) (evT n G sc g c) = some b from h)
  refine hN ?_; clear hN
  rw [arm_isTrue_IfExp]
  refine wpAny_bind (IT _ _ _ _ _ _ _ _ _ _ _ S hA.up ht fun s' k =>?_)
  cases d with
  | true =>exact IT _ _ _ _ _ _ _ _ _ _ _ (S.kp k) hA.up h fun s'' k' =>q s'' (k.trans k')
  | false =>exact IT _ _ _ _ _ _ _ _ _ _ _ (S.kp k) hA.up h fun s'' k' =>q s'' (k.trans k')
 | Compare a ops es p =>
  refine bc fun hN =>?_
  refine aa (show (if lastMarks ops es = true then .none else ev n G sc g a).bind (fun x =>evC n G sc g x ops es) = some b from h) fun x hx h =>?_
  refine hN ?_; clear hN
  split at hx
  ·exact nS hx
  ·rename_i hm
   simp only [arm_isTrue_Compare,markedEach_of_false _ _ _ (Bool.eq_false_iff.mpr hm)]
   refine wpAny_bind (I _ _ _ _ _ _ _ _ _ _ _ S hA.up hx fun u s' k r =>?_)
   exact (IC _ _ _ _ _ _ _ E _ _ _ _ _ p (S.kp k) hA.up h r).2 Q fun s'' k' =>q s'' (k.trans k')
 | _ =>exact dflt h rfl
theorem mapO_nil {α β : Type} {f : α → Option β} {l : List α} (h : az f l = some []) : l = []:=by
 cases l with
 | nil =>rfl
 | cons a b =>
  unfold az at h
  split at h
  ·simp at h
  ·exact nS h
theorem kwV_nil {l : List Keyword} (h : kwV l = some []) : l = []:=by
 cases l with
 | nil =>rfl
 | cons a b =>
  exact aa h fun _ _ h =>au h fun _ _ h =>nomatch h
theorem ev_call (hG : GOk X G N) (I : cv X G N n) {sc : Scope} {env : Env} {H Mu : List Addr} {g : Gam} {s : Shared} {A : Around} {E Q : Value → Shared → Prop} {f : Str} {es : List Expr} {ks : List Keyword} {pf p : Pos} {v : V} (S : St X sc env H Mu g s) (hA : Room A (N + n)) (hf : br sc f = true)
  (h : (match az (ev n G sc g) es with
    | some vs =>(kwV ks).bind fun kes =>(az (fun (p : Str × Expr) =>(ev n G sc g p.2).map fun v =>(p.1,v)) kes).bind fun kvs =>callG G f vs kvs
    | .none =>if ks.isEmpty = true then lenOwn f sc g es else .none) = some v) (q : bo H s v Q) : wpAny (model X.prog X.w) A (eval (.Call (.Name f pf) es ks p) env) Q E s:=by
 cases hvs : az (ev n G sc g) es with
 | some vs =>
  rw [hvs] at h
  refine bc fun hN =>?_
  refine aa h fun kes hkes h2 =>?_
  refine aa h2 fun kvs hkvs h3 =>?_
  refine hN ?_; clear hN
  clear h h2
  unfold callG orO at h3
  split at h3
  ·rename_i r hr
   obtain rfl:=oj h3
   exact callFn_ok hG I hA S hf hvs hkes hkvs hr q
  ·refine bc fun hN =>?_
   refine aE h3 fun hk0 h4 =>?_
   refine hN ?_; clear hN
   clear h3
   cases List.isEmpty_iff.mp hk0
   cases mapO_nil hkvs
   cases kwV_nil hkes
   exact callBlt_ok I hA S hf hvs h4 q
 | none =>
  rw [hvs] at h
  refine bc fun hN =>?_
  refine aE h fun hk h2 =>?_
  refine aE h2 fun hlen h3 =>?_
  refine aa h3 fun e he h4 =>?_
  refine aa h4 fun xs hl h5 =>?_
  refine aa hl fun x hn hl2 =>?_
  refine aE hl2 fun hx hl3 =>?_
  refine au h5 fun k hk2 hEqq2 =>?_
  subst hEqq2
  obtain ⟨px,rfl⟩:=aT hn
  refine hN ?_; clear hN
  clear h h2 h3 h4 h5 hl hl2 hn
  cases List.isEmpty_iff.mp hk
  cases beq_iff_eq.mp hlen
  cases bh he
  exact lenOwn_ok hA S hf hx (eW hl3) hk2 q
theorem ev_sub (I : cv X G N n) (IO : EvOOK X G N n) {sc : Scope} {env : Env} {H Mu : List Addr} {g : Gam} {s : Shared} {A : Around} {E Q : Value → Shared → Prop} {a i : Expr} {p : Pos} {v : V} (S : St X sc env H Mu g s) (hA : Room A (N + n))
  (h : (match dctOf a with
   | some kv =>(az eR kv.1).bind fun kl =>(az (ev n G sc g) kv.2).bind fun vl =>(ev n G sc g i).bind fun j =>dictG kl vl j
   | .none =>(match dT i with
    | some s =>(match s.2.2 with
     | .none =>(ev n G sc g a).bind fun x =>(evO n G sc g s.1).bind fun l =>(evO n G sc g s.2.1).bind fun h =>aq x l h
     | some st =>if isRev s.1 s.2.1 st = true then (ev n G sc g a).bind revV else .none)
    | .none =>(ev n G sc g i).bind fun j =>subK (eS sc g a) (ev n G sc g a) j)) = some v) (q : bo H s v Q) : wpAny (model X.prog X.w) A (eval (.Subscript a i p) env) Q E s:=by
 cases hd : dctOf a with
 | some kv =>
  rw [hd] at h
  refine bc fun hN =>?_
  obtain ⟨pd,rfl⟩:=dctOf_some hd
  refine aa h fun kl hk h =>?_
  refine aa h fun vl hv h =>?_
  refine aa h fun j hi h =>?_
  refine aa h fun j hj h =>?_
  refine hN ?_; clear hN
  cases bd hj
  refine bc fun hN =>?_
  refine aL h fun hz h =>?_
  refine hN ?_; clear hN
  exact dictSub_ok I hA S hk hv hi hz.1 hz.2.1 hz.2.2.1 hz.2.2.2 h q
 | none =>
  rw [hd] at h
  dsimp only at h
  cases hs : dT i with
  | some sl =>
   refine bc fun hN =>?_
   obtain ⟨lo,hi,st⟩:=sl
   rw [hs] at h
   obtain ⟨ps,rfl⟩:=sliceOf_some hs
   refine hN ?_; clear hN
   cases st with
   | none =>
    refine bc fun hN =>?_
    refine aa h fun x hx h =>?_
    refine aa h fun l hl h =>?_
    refine aa h fun r hr h =>?_
    refine hN ?_; clear hN
    exact slice_ok I IO S hA hx hl hr h q
   | some st =>
    refine bc fun hN =>?_
    refine aE h fun hr h =>?_
    obtain ⟨rfl,rfl,k,p1,p2,rfl⟩:=isRev_true hr
    refine aa h fun x hx h =>?_
    refine hN ?_; clear hN
    exact rev_ok I S hA hx h q
  | none =>
   rw [hs] at h
   refine bc fun hN =>?_
   refine aa h fun j hj h =>?_
   refine hN ?_; clear hN
   cases hl : eS sc g a with
   | some xs =>
    rw [hl] at h
    refine bc fun hN =>?_
    refine aa hl fun x hn hl =>?_
    obtain ⟨px,rfl⟩:=aT hn
    refine aE hl fun hx hl =>?_
    refine hN ?_; clear hN
    exact subOwn_ok I S hA hx (eW hl) hj h q
   | none =>
    rw [hl] at h
    refine bc fun hN =>?_
    refine aa h fun w hw h =>?_
    refine hN ?_; clear hN
    exact sub_ok I S hA hw hj h q
theorem ev_meth (hG : GOk X G N) (I : cv X G N n) {sc : Scope} {env : Env} {H Mu : List Addr} {g : Gam} {s : Shared} {A : Around} {E Q : Value → Shared → Prop} {b : Expr} {m : Str} {es : List Expr} {pa p : Pos} {v : V} (S : St X sc env H Mu g s) (hA : Room A (N + n))
  (h : (match aN b with
    | some x =>if (ax sc x && bJ pa p && decide (es.length < 20)) = true then (cz (g.lookup x)).bind fun cf =>(az (ev n G sc g) es).bind fun vs =>if (cf.2.lookup m).isNone = true then G.pm cf.1 m vs else .none else .none
    | .none =>if (isEBE b && (m == ("join" : Str) && bJ pa p)) = true then (one es).bind fun e =>((ev n G sc g e).bind aW).bind joinV else .none) = some v) (q : bo H s v Q) : wpAny (model X.prog X.w) A (eval (.Call (.Attribute b m pa) es [] p) env) Q E s:=by
 cases hn : aN b with
 | some x =>
  rw [hn] at h
  refine bc fun hN =>?_
  obtain ⟨px,rfl⟩:=aT hn
  refine aE h fun hx h =>?_
  simp only [Bool.and_eq_true,Bool.and_eq_true] at hx
  refine aa h fun cf hl h =>?_
  refine aa h fun vs hvs h =>?_
  refine aE h fun hm h =>?_
  refine hN ?_; clear hN
  exact callPm_ok hG I hA S hx.1.1 (dP hl) (Option.isNone_iff_eq_none.mp hm) hx.1.2 (of_decide_eq_true hx.2) hvs h q
 | none =>
  rw [hn] at h
  refine bc fun hN =>?_
  refine aE h fun hm h2 =>?_
  simp only [Bool.and_eq_true,Bool.and_eq_true] at hm
  refine aa h2 fun e he h3 =>?_
  refine aa h3 fun w hw h4 =>?_
  refine aa hw fun x hx hw2 =>?_
  refine aa h4 fun bs hb h5 =>?_
  refine aL h5 fun hz h6 =>?_
  refine hN ?_; clear hN
  obtain rfl:=oj h6
  refine bc fun hN =>?_
  obtain ⟨k,pc,rfl⟩:=isEBE_true hm.1
  refine hN ?_; clear hN
  clear h h2 h3 h4 h5 hw hn
  cases beq_iff_eq.mp hm.2.1
  cases bh he
  cases bp hw2
  exact joinE_ok I hA S hm.2.2 hx hb hz.1 q
theorem bound_some {l : List V} {v w : V} (h : boundO l v = some w) : l.length ≤ lid ∧ v = w:=by
 refine aL h fun h1 h2 =>?_
 obtain rfl:=oj h2
 exact ⟨h1,rfl⟩
theorem ev_ok (hG : GOk X G N) (I : cv X G N n) (IT : EvTOK X G N n) (IB : EvBOK X G N n) (IC : EvCOK X G N n) (IO : EvOOK X G N n) (II : EvIOK X G N n) (IF : EvFOK X G N n) : cv X G N (n + 1):=by
 intro sc env H Mu g s A E Q e v S hA h q
 cases e with
 | Constant c k p =>exact const_ok h q
 | Name x p =>
  have h : (if ax sc x = true then ah (g.lookup x) else if br sc x = true then G.cst x else .none) = some v:=h
  split at h
  ·rename_i hx
   exact load_ok S hx (valOf_some h) q
  ·refine bc fun hN =>?_
   refine aE h fun hx h =>?_
   obtain ⟨u,hm,hr⟩:=hG.cst _ _ h
   refine hN ?_; clear hN
   exact load_glob S hx hm (q u s (Kp.refl s) (hr _))
 | BinOp a op b p =>
  refine bc fun hN =>?_
  refine aa (show ((ev n G sc g a).bind fun x =>(ev n G sc g b).bind fun y =>ag op x y) = some v from h) fun x hx h =>?_
  refine aa h fun y hy h =>?_
  refine hN ?_; clear hN
  exact wpAny_BinOp (I _ _ _ _ _ _ _ _ _ _ _ S hA.up hx fun u s₁ k₁ r₁ =>I _ _ _ _ _ _ _ _ _ _ _ (S.kp k₁) hA.up hy fun w s₂ k₂ r₂ =>binV_ok h (S.ho.kp (k₁.trans k₂)) (r₁.kp k₂) r₂ (q.after (k₁.trans k₂)))
 | UnaryOp op a p =>
  cases op with
  | USub =>
   refine bc fun hN =>?_
   refine au (show (intLit a).map (fun i =>V.int (-i)) = some v from h) fun i hi hEqq2 =>?_
   subst hEqq2
   obtain ⟨k,p1,rfl⟩:=fF hi
   refine hN ?_; clear hN
   exact wpAny_UnaryOp (wpAny_Constant_int (PyProof.Rows.neg_int ((q.after (Kp.toks _)).int _ _)))
  | Not =>
   refine bc fun hN =>?_
   refine aa (show ((ev n G sc g a).bind fun x =>x.tru.map fun b =>V.bool !b) = some v from h) fun x hx h =>?_
   refine au h fun b hb hEqq2 =>?_
   subst hEqq2
   refine hN ?_; clear hN
   exact wpAny_UnaryOp (I _ _ _ _ _ _ _ _ _ _ _ S hA.up hx fun u s₁ k₁ r₁ =>not_value (tru_ok hb r₁ (q.after k₁).bool))
  | _ =>exact nomatch (show (Option.none : Option V) = some v from h)
 | BoolOp op es p =>exact IB _ _ _ _ _ _ _ _ _ _ _ _ _ S hA.up h q
 | Compare a ops es p =>
  refine bc fun hN =>?_
  refine aa (show (if lastMarks ops es = true then .none else ev n G sc g a).bind (fun x =>(evC n G sc g x ops es).map .bool) = some v from h) fun x hx h =>?_
  refine hN ?_; clear hN
  split at hx
  ·exact nS hx
  ·rename_i hm
   refine bc fun hN =>?_
   refine au h fun b hb hEqq2 =>?_
   subst hEqq2
   refine hN ?_; clear hN
   simp only [arm_eval_Compare,markedEach_of_false _ _ _ (Bool.eq_false_iff.mpr hm)]
   refine wpAny_bind (I _ _ _ _ _ _ _ _ _ _ _ S hA.up hx fun u s' k r =>?_)
   exact (IC _ _ _ _ _ _ _ E _ _ _ _ _ p (S.kp k) hA.up hb r).1 Q (q.after k)
 | IfExp t a b p =>
  refine bc fun hN =>?_
  obtain ⟨c,ht,h⟩:=gG (show iteO (evT n G sc g t) (ev n G sc g a) (ev n G sc g b) = some v from h)
  refine hN ?_; clear hN
  refine IfExp_ (IT _ _ _ _ _ _ _ _ _ _ _ S hA.up ht fun s' k =>?_)
  cases c with
  | true =>exact I _ _ _ _ _ _ _ _ _ _ _ (S.kp k) hA.up h (q.after k)
  | false =>exact I _ _ _ _ _ _ _ _ _ _ _ (S.kp k) hA.up h (q.after k)
 | List es p =>
  refine bc fun hN =>?_
  refine aa (show ((az (ev n G sc g) es).bind fun vs =>boundO vs (.list vs)) = some v from h) fun vs hvs h =>?_
  obtain ⟨hz,rfl⟩:=bound_some h
  refine hN ?_; clear hN
  refine List_ (dK I hA.up S hvs fun us s' k r =>wpAny_newObj_type (q _ _ (k.trans (Kp.push _)) (cM (S.ho.kp k) r)) ?_)
  show us.toArray.size ≤ sizeLine
  simp only [List.size_toArray,r.length]; exact Nat.le_trans hz cL
 | Tuple es k p =>
  refine bc fun hN =>?_
  refine aa (show ((az (ev n G sc g) es).bind fun vs =>boundO vs (.tup vs)) = some v from h) fun vs hvs h =>?_
  obtain ⟨hz,rfl⟩:=bound_some h
  refine hN ?_; clear hN
  refine Tuple_ (dK I hA.up S hvs fun us s' k r =>wpAny_newObj_type (q _ _ (k.trans (Kp.push _)) (rep_new_tup (S.ho.kp k) r)) ?_)
  show us.toArray.size ≤ sizeLine
  simp only [List.size_toArray,r.length]; exact Nat.le_trans hz cL
 | Attribute b f p =>
  refine bc fun hN =>?_
  refine aa (show ((aN b).bind fun x =>if ax sc x = true then fldO G f (g.lookup x) else .none) = some v from h) fun x hn h =>?_
  obtain ⟨px,rfl⟩:=aT hn
  refine aE h fun hx h =>?_
  refine aa h fun cf hl h =>?_
  refine aE h fun hF h =>?_
  refine hN ?_; clear hN
  exact attr_ok hG S hx (dP hl) h (List.contains_iff_mem.mp hF) q
 | Subscript a i p =>exact ev_sub I IO S hA.up h q
 | Call f es ks p =>
  cases f with
  | Name f pf =>
   refine bc fun hN =>?_
   refine aE (show (if br sc f = true then _ else .none) = some v from h) fun hf h =>?_
   refine hN ?_; clear hN
   exact ev_call hG I S hA.up hf h q
  | Attribute b m pa =>
   refine bc fun hN =>?_
   refine aE (show (if ks.isEmpty = true then _ else .none) = some v from h) fun hk h =>?_
   refine hN ?_; clear hN
   cases List.isEmpty_iff.mp hk
   exact ev_meth hG I S hA.up h q
  | _ =>exact nomatch (show (Option.none : Option V) = some v from h)
 | ListComp elt gens csc p =>
  refine bc fun hN =>?_
  refine aa (show ((compOf gens).bind fun c =>if compOk sc csc c.1 = true then (evI n G sc g c.2.1).bind fun xs =>if xs.length ≤ lid then (aR (compF n G csc g c.1 c.2.2 elt) xs).map .list else .none else .none) = some v from h) fun c hc h =>?_
  obtain ⟨pc,rfl⟩:=compOf_some hc
  refine aE h fun hc h =>?_
  refine aa h fun xs hxs h =>?_
  refine aL h fun hz h =>?_
  refine au h fun tot ht hEqq2 =>?_
  subst hEqq2
  refine hN ?_; clear hN
  exact listComp_ok I II IF S hA.up (compOk_of hc) hxs hz ht (folded_of hxs) q
 | _ =>exact nomatch (show (Option.none : Option V) = some v from h)
structure Sound (X : Gx) (G : Ge) (N n : Nat) : Prop where
 e : cv X G N n
 t : EvTOK X G N n
 b : EvBOK X G N n
 a : EvAOK X G N n
 c : EvCOK X G N n
 o : EvOOK X G N n
 i : EvIOK X G N n
 f : EvFOK X G N n
theorem fL (hG : GOk X G N) : ∀ n,Sound X G N n
 | 0 =>⟨fun _ _ _ _ _ _ _ _ _ _ v _ _ h =>(nomatch (show (Option.none : Option V) = some v from h)),fun _ _ _ _ _ _ _ _ _ _ b _ _ h =>(nomatch (show (Option.none : Option Bool) = some b from h)),fun _ _ _ _ _ _ _ _ _ _ _ _ v _ _ h =>(nomatch (show (Option.none : Option V) = some v from h)),fun _ _ _ _ _ _ _ _ _ _ _ b _ _ h =>(nomatch (show (Option.none : Option Bool) = some b from h)),
   fun _ _ _ _ _ _ _ _ _ _ _ _ b _ _ _ h =>(nomatch (show (Option.none : Option Bool) = some b from h)),fun _ _ _ _ _ _ _ _ _ _ r _ _ h =>(nomatch (show (Option.none : Option (Option Int)) = some r from h)),fun _ _ _ _ _ _ _ _ _ _ xs _ _ h =>(nomatch (show (Option.none : Option (List V)) = some xs from h)),fun _ _ _ _ _ _ _ _ _ _ b _ _ h =>(nomatch (show (Option.none : Option Bool) = some b from h))⟩
 | n + 1 =>let S:=fL hG n
  ⟨ev_ok hG S.e S.t S.b S.c S.o S.i S.f,evT_ok S.e S.t S.a S.c,evB_ok S.e S.b,evA_ok S.t S.a,evC_ok S.e S.c,evO_ok S.e,evI_ok S.e,evF_ok S.t⟩
end
structure Fm (X : Gx) (B : Heap) (Hc H Mu : List Addr) (env : Env) (s : Shared) : Prop where
 b0 : Sub X.B0 B
 keep : Sub B s.heap
 mu : ∀ a ∈ Mu,B.get? a = none
 live : HOk Mu s.heap
 hmu : ∀ a ∈ H,a ∈ Hc ∨ a ∈ Mu
 hc : ∀ a ∈ Hc,a ∈ H
 hcb : HOk Hc B
 ns : ∀ a ∈ Mu,a ∉ H → ∀ o,s.heap.get? a = some o → ¬ cV o
 loc : env.locals ∈ Mu ∧ env.locals ∉ H
 cell : ∀ x c,env.cells.lookup x = some c → c ∈ Mu ∧ ∃ v,s.heap.IsCell c v
 cinj : ∀ x y c,env.cells.lookup x = some c → env.cells.lookup y = some c → x = y
inductive Mv (Mu : List Addr) (s s' : Shared) : Prop
 | mk (h' : Heap) (t : Nat) (e : s' = { s with heap:=h',toks:=t }) (k : ∀ b o,b ∉ Mu → s.heap.get? b = some o → h'.get? b = some o) : Mv Mu s s'
theorem Mv.of_kp {Mu : List Addr} {s s' : Shared} (k : Kp s s') : Mv Mu s s':=let ⟨h,t,e,k⟩:=k; ⟨h,t,e,fun b o _ e =>k b o e⟩
theorem Mv.keep {Mu : List Addr} {s s' : Shared} (k : Mv Mu s s') : ∀ b o,b ∉ Mu → s.heap.get? b = some o → s'.heap.get? b = some o:=by
 obtain ⟨h,t,rfl,k⟩:=k
 exact k
theorem Mv.trans {Mu Mu' : List Addr} {s s' s'' : Shared} (a : Mv Mu s s') (b : Mv Mu' s' s'') (m : ∀ x ∈ Mu',x ∈ Mu ∨ s.heap.get? x = none) : Mv Mu s s'':=by
 obtain ⟨h,t,rfl,k⟩:=a
 obtain ⟨h',t',rfl,k'⟩:=b
 refine ⟨h',t',rfl,fun x o hx e =>k' x o (fun hm =>?_) (k x o hx e)⟩
 rcases m x hm with a | a
 ·exact hx a
 ·rw [a] at e; exact nS e
inductive Nx (X : Gx) (B : Heap) (Hc : List Addr) (sc : Scope) (env : Env) (Mu : List Addr) (g' : Gam) (s s' : Shared) : Prop
 | mk (H' Mu' : List Addr) (S : St X sc env H' Mu' g' s') (F : Fm X B Hc H' Mu' env s') (m : Mv Mu s s') (hm : ∀ a ∈ Mu',a ∈ Mu ∨ s.heap.get? a = none) : Nx X B Hc sc env Mu g' s s'
noncomputable def Nw (X : Gx) (B : Heap) (Hc : List Addr) (sc : Scope) (env : Env) (H Mu : List Addr) (g' : Gam) (s s' : Shared) : Prop :=
 St X sc env H Mu g' s' ∧ Fm X B Hc H Mu env s' ∧ Mv Mu s s' ∧ aI (hideAll s.heap H) (hideAll s'.heap H)
theorem Nw.nx {X : Gx} {B : Heap} {Hc H Mu : List Addr} {sc : Scope} {env : Env} {g' : Gam} {s s' : Shared} (n : Nw X B Hc sc env H Mu g' s s') : Nx X B Hc sc env Mu g' s s':=⟨H,Mu,n.1,n.2.1,n.2.2.1,fun _ h =>.inl h⟩
theorem Fm.kp {X : Gx} {B : Heap} {Hc H Mu : List Addr} {env : Env} {s s' : Shared} (F : Fm X B Hc H Mu env s) (k : Kp s s') : Fm X B Hc H Mu env s' where
 b0:=F.b0
 keep b o e:=k.keep b o (F.keep b o e)
 mu:=F.mu
 live:=F.live.kp k
 hmu:=F.hmu
 hc:=F.hc
 hcb:=F.hcb
 ns a ha hH o e:=by
  obtain ⟨o',e'⟩:=F.live a ha
  have:=k.keep a o' e'
  rw [this] at e; obtain rfl:=oj e
  exact F.ns a ha hH _ e'
 loc:=F.loc
 cell x c h2:=let ⟨a,v,b⟩:=F.cell x c h2; ⟨a,v,b.keeps k.keep⟩
 cinj:=F.cinj
theorem Nx.trans {X : Gx} {B : Heap} {Hc : List Addr} {sc : Scope} {env : Env} {Mu Mu' : List Addr} {g : Gam} {s s' s'' : Shared} (m : Mv Mu s s') (hm : ∀ a ∈ Mu',a ∈ Mu ∨ s.heap.get? a = none) (n : Nx X B Hc sc env Mu' g s' s'') : Nx X B Hc sc env Mu g s s'':=by
 refine bc fun hN =>?_
 obtain ⟨H2,Mu2,S,F,m2,h2⟩:=n
 refine hN ?_; clear hN
 refine ⟨H2,Mu2,S,F,m.trans m2 hm,fun a ha =>?_⟩
 rcases h2 a ha with h | h
 ·exact hm a h
 ·by_cases hx : a ∈ Mu
  ·exact .inl hx
  ·cases e : s.heap.get? a with
   | none =>exact .inr rfl
   | some o =>rw [m.keep a o hx e] at h; cases h
theorem Nx.kp {X : Gx} {B : Heap} {Hc : List Addr} {sc : Scope} {env : Env} {Mu : List Addr} {g : Gam} {s s' s'' : Shared} (k : Kp s s') (n : Nx X B Hc sc env Mu g s' s'') : Nx X B Hc sc env Mu g s s'' :=
 n.trans (Mv.of_kp k) (fun _ h =>.inl h)
theorem cD.toP {X : Gx} {env : Env} {H H' Mu Mu' : List Addr} {h h' : Heap} {m m' : Str → Option Value} {c : Addr → Prop} {a : Addr} {x : Str} (kb : ∀ b o,¬ c b → h.get? b = some o → h'.get? b = some o) (kr : aI (hideAll h H) (hideAll h' H'))
  (km : env.kindOf x = some .local → m' x = m x) (kc : ∀ c' v,env.cells.lookup x = some c' → h.IsCell c' v → ¬ c c') (ki : ∀ ix o,h.get? ix = some o → ix ∉ Mu → o.data = .plain → ¬ c ix)
  (kH : ∀ a ∈ H,a ∈ H') (kH' : ∀ a ∈ H',a ∈ H ∨ h.get? a = none) (kM : ∀ a ∈ Mu,a ∈ Mu') (kM' : ∀ a ∈ Mu',a ∈ Mu ∨ h.get? a = none) : ∀ {av : AV},(aV (some av) → ¬ c a) → cD X env H Mu h m a x av → cD X env H' Mu' h' m' a x av:=by
 have at' : ∀ {u : Value},At env h m x u → At env h' m' x u:=fun {u} a =>by
  rcases a with ⟨e1,e2⟩ | ⟨e1,c',e2,o,ho,hd⟩
  ·exact .inl ⟨e1,(km e1).trans e2⟩
  ·exact .inr ⟨e1,c',e2,o,kb c' o (kc c' _ e2 ⟨o,ho,hd⟩) ho,hd⟩
 intro av ka hd
 cases av with
 | val v =>obtain ⟨u,b,r⟩:=hd; exact ⟨u,at' b,r.mono kr⟩
 | own xs =>obtain ⟨us,e1,e2,⟨o,ho,r1⟩,e4,e5,r⟩:=hd; exact ⟨us,e1,(km e1).trans e2,⟨o,kb _ _ (ka trivial) ho,r1⟩,kH _ e4,kM _ e5,r.mono kr⟩
 | inst C fl =>
  refine bc fun hN =>?_
  obtain ⟨ix,Ca,es,n,e1,e2,e3,e4,e5,e6,e7,e8,r⟩:=hd
  refine hN ?_; clear hN
  refine ⟨ix,Ca,es,n,at' e1,e2,kb _ _ (ki ix _ e3 e7 rfl) e3,kb _ _ (ka trivial) e4,kM _ e5,fun hm =>?_,fun hm =>?_,e8,r.mono kr⟩
  ·rcases kH' _ hm with b | b
   ·exact e6 b
   ·rw [e4] at b; cases b
  ·rcases kM' _ hm with b | b
   ·exact e7 b
   ·rw [e3] at b; cases b
theorem cD.to {X : Gx} {env : Env} {H H' Mu Mu' : List Addr} {h h' : Heap} {m m' : Str → Option Value} {c a : Addr} {x : Str} (kb : ∀ b o,b ≠ c → h.get? b = some o → h'.get? b = some o) (kr : aI (hideAll h H) (hideAll h' H'))
  (km : env.kindOf x = some .local → m' x = m x) (kc : ∀ c' v,env.cells.lookup x = some c' → h.IsCell c' v → c' ≠ c) (ki : ∀ ix o,h.get? ix = some o → ix ∉ Mu → o.data = .plain → ix ≠ c)
  (kH : ∀ a ∈ H,a ∈ H') (kH' : ∀ a ∈ H',a ∈ H ∨ h.get? a = none) (kM : ∀ a ∈ Mu,a ∈ Mu') (kM' : ∀ a ∈ Mu',a ∈ Mu ∨ h.get? a = none) {av : AV} (ka : aV (some av) → a ≠ c) (hd : cD X env H Mu h m a x av) : cD X env H' Mu' h' m' a x av :=
 cD.toP (c:=fun b =>b = c) kb kr km kc ki kH kH' kM kM' ka hd
section
variable {X : Gx} {B : Heap} {Hc H Mu : List Addr} {sc : Scope} {env : Env} {g : Gam} {s : Shared}
theorem dS {h h' : Heap} {c : Addr} (kb : ∀ b o,b ≠ c → h.get? b = some o → h'.get? b = some o) (hc : c ∈ H ∨ ∀ o,h.get? c = some o → ¬ cV o) : aI (hideAll h H) (hideAll h' H):=fun b o e hq =>by
 refine hideAll_get H (kb b o (fun hb =>?_) (of_hideAll H e)) (bq e)
 subst hb
 rcases hc with a | a
 ·exact bq e a
 ·exact a o (of_hideAll H e) hq
theorem gF {x : Str} (h : fk sc x = true) : ax sc x = true ∧ x ≠ ("self" : Str) ∧ (sc.names.lookup x = some .local ∨ sc.names.lookup x = some .cell):=by
 unfold fk at h
 unfold ax
 simp only [Bool.and_eq_true,Bool.or_eq_true,beq_iff_eq,bne_iff_ne] at h ⊢
 exact ⟨⟨h.1.1,.inl h.2⟩,h.1.2,h.2⟩
theorem c9 {h : Heap} {a : Addr} {m : Str → Option Value} {v : Option Value} (n : h.Ns a m) (c : h.IsCell a v) : False:=by
 obtain ⟨o',es,ep,ho,hd,_⟩:=n
 obtain ⟨o,e,hd'⟩:=c
 rw [e] at ho; obtain rfl:=oj ho
 rw [hd'] at hd; cases hd
theorem ns_notList {h : Heap} {a : Addr} {m : Str → Option Value} {us : Array Value} (n : h.Ns a m) (c : h.IsList a us) : False:=by
 obtain ⟨o',es,ep,ho,hd,_⟩:=n
 obtain ⟨o,e,_,k,hd'⟩:=c
 rw [e] at ho; obtain rfl:=oj ho
 rw [hd'] at hd; cases hd
theorem Fm.upd2 {s' : Shared} {c : Addr} {m m' : Str → Option Value} (F : Fm X B Hc H Mu env s) (hc : c ∈ Mu) (hn : s.heap.Ns env.locals m) (hn' : s'.heap.Ns env.locals m') (kb : ∀ b o,b ≠ c → b ≠ env.locals → s.heap.get? b = some o → s'.heap.get? b = some o) (hl : ∃ o,s'.heap.get? c = some o ∧ (c ∉ H → ¬ cV o))
  (hcell : (∃ v,s.heap.IsCell c v) → ∃ v,s'.heap.IsCell c v) : Fm X B Hc H Mu env s' where
 b0:=F.b0
 keep b o e:=kb b o (fun hb =>by subst hb; rw [F.mu _ hc] at e; exact nS e) (fun hb =>by subst hb; rw [F.mu _ F.loc.1] at e; exact nS e) (F.keep b o e)
 mu:=F.mu
 live a ha:=by
  by_cases h : a = c
  ·subst h; obtain ⟨o,e,_⟩:=hl; exact ⟨o,e⟩
  ·by_cases h2 : a = env.locals
   ·subst h2; obtain ⟨o,_,_,ho,_⟩:=hn'; exact ⟨o,ho⟩
   ·obtain ⟨o,e⟩:=F.live a ha; exact ⟨o,kb a o h h2 e⟩
 hmu:=F.hmu
 hc:=F.hc
 hcb:=F.hcb
 ns a ha hH o e:=by
  by_cases h : a = c
  ·subst h; obtain ⟨o',e',hn⟩:=hl; rw [e'] at e; obtain rfl:=oj e; exact hn hH
  ·by_cases h2 : a = env.locals
   ·subst h2; exact ce hn' e
   ·refine bc fun hN =>?_
    obtain ⟨o',e'⟩:=F.live a ha
    refine hN ?_; clear hN
    rw [kb a o' h h2 e'] at e; obtain rfl:=oj e
    exact F.ns a ha hH _ e'
 loc:=F.loc
 cell x d h2:=by
  refine bc fun hN =>?_
  obtain ⟨a,v,hv⟩:=F.cell x d h2
  refine hN ?_; clear hN
  refine ⟨a,?_⟩
  by_cases h : d = c
  ·subst h; exact hcell ⟨v,hv⟩
  ·refine bc fun hN =>?_
   obtain ⟨o,ho,hd⟩:=id hv
   refine hN ?_; clear hN
   exact ⟨v,o,kb d o h (fun h3 =>by subst h3; exact c9 hn hv) ho,hd⟩
 cinj:=F.cinj
theorem Fm.upd {s' : Shared} {c : Addr} (F : Fm X B Hc H Mu env s) (hc : c ∈ Mu) (kb : ∀ b o,b ≠ c → s.heap.get? b = some o → s'.heap.get? b = some o) (hl : ∃ o,s'.heap.get? c = some o ∧ (c ∉ H → ¬ cV o))
  (hcell : (∃ v,s.heap.IsCell c v) → ∃ v,s'.heap.IsCell c v) : Fm X B Hc H Mu env s' where
 b0:=F.b0
 keep b o e:=kb b o (fun hb =>by subst hb; rw [F.mu _ hc] at e; exact nS e) (F.keep b o e)
 mu:=F.mu
 live a ha:=by
  by_cases h : a = c
  ·subst h; obtain ⟨o,e,_⟩:=hl; exact ⟨o,e⟩
  ·obtain ⟨o,e⟩:=F.live a ha; exact ⟨o,kb a o h e⟩
 hmu:=F.hmu
 hc:=F.hc
 hcb:=F.hcb
 ns a ha hH o e:=by
  by_cases h : a = c
  ·subst h; obtain ⟨o',e',hn⟩:=hl; rw [e'] at e; obtain rfl:=oj e; exact hn hH
  ·obtain ⟨o',e'⟩:=F.live a ha
   rw [kb a o' h e'] at e; obtain rfl:=oj e
   exact F.ns a ha hH _ e'
 loc:=F.loc
 cell x d h2:=by
  obtain ⟨a,v,o,ho,hd⟩:=F.cell x d h2
  refine ⟨a,?_⟩
  by_cases h : d = c
  ·subst h; exact hcell ⟨v,o,ho,hd⟩
  ·exact ⟨v,o,kb d o h ho,hd⟩
 cinj:=F.cinj
theorem store_local {x : Str} {av : AV} {u : Value} {h' : Heap} {t : Nat} {m : Str → Option Value} {ad : Str → Addr} {a' : Addr} (S : St X sc env H Mu g s) (F : Fm X B Hc H Mu env s) (hx : fk sc x = true)
  (hn : s.heap.Ns env.locals m) (hd : ∀ x av,ax sc x = true → g.lookup x = some av → cD X env H Mu s.heap m (ad x) x av) (inj : ∀ x y,ax sc x = true → ax sc y = true → aV (g.lookup x) → aV (g.lookup y) → ad x = ad y → x = y)
  (hself : Side X sc g m ad)
  (hn' : h'.Ns env.locals (fun y =>if y = x then some u else m y)) (hs : Heap.SameBut env.locals s.heap h')
  (hv : aI (hideAll s.heap H) (hideAll h' H) → (∀ b o,b ≠ env.locals → s.heap.get? b = some o → h'.get? b = some o) → cD X env H Mu h' (fun y =>if y = x then some u else m y) a' x av) (hinj : aV (some av) → a' ∉ X.pn ∧ ∀ y,ax sc y = true → aV (g.lookup y) → ad y ≠ a') :
  Nw X B Hc sc env H Mu (ae x av g) s { s with heap:=h',toks:=t }:=by
 have kb : ∀ b o,b ≠ env.locals → s.heap.get? b = some o → h'.get? b = some o:=fun b o hb e =>hs.extBut b o hb e
 have kr : aI (hideAll s.heap H) (hideAll h' H):=dS kb (.inr fun o e =>ce hn e)
 refine bc fun hN =>?_
 obtain ⟨h1,h2,_⟩:=gF hx
 refine hN ?_; clear hN
 refine ⟨⟨fun b o e =>?_,S.kind,S.glob,S.blt,S.kinds,fun a ha =>?_,_,fun y =>if y = x then a' else ad y,hn',fun y av' hy hl =>?_,fun y z hy hz c1 c2 e =>?_,fun hsl ix dx e =>?_,fun y hy c1 =>?_⟩,F.upd (s':={ s with heap:=h',toks:=t }) F.loc.1 kb ?_ ?_,⟨h',t,rfl,fun b o hb e =>kb b o (fun h =>hb (h ▸ F.loc.1)) e⟩,kr⟩
 ·exact kb b o (fun h =>by have:=F.b0 b o e; simp only [h,F.mu _ F.loc.1] at this; exact nS this) (S.base b o e)
 ·obtain ⟨o,e⟩:=S.ho a ha
  exact ⟨o,kb a o (fun h =>F.loc.2 (h ▸ ha)) e⟩
 ·rw [aY] at hl
  by_cases hyx : y = x
  ·subst hyx
   rw [if_pos rfl] at hl; obtain rfl:=oj hl
   have:=hv kr kb
   simpa using this
  ·rw [if_neg hyx] at hl
   show cD X env H Mu h' _ (if y = x then a' else ad y) y av'
   rw [if_neg hyx]
   refine cD.to kb kr (fun _ =>by simp [hyx]) (fun c' v' _ hc' h =>?_) (fun ix o e hix hpl h =>?_) (fun _ h =>h) (fun _ h =>.inl h) (fun _ h =>h) (fun _ h =>.inl h) (fun hcore h =>?_) (hd y av' hy hl)
   ·subst h; exact c9 hn hc'
   ·subst h; exact hix F.loc.1
   ·have hh:=hd y av' hy hl
    cases av' with
    | val v =>exact hcore
    | own xs =>obtain ⟨us,_,_,hli,_⟩:=hh; rw [h] at hli; exact ns_notList hn hli.isList
    | inst C fl =>obtain ⟨_,_,_,_,_,_,_,_,_,_,_,e8,_⟩:=hh; exact e8 h
 ·rw [aY] at c1 c2
  replace e : (if y = x then a' else ad y) = (if z = x then a' else ad z):=e
  by_cases hyx : y = x
  ·by_cases hzx : z = x
   ·simp only [hyx,hzx]
   ·rw [if_pos hyx] at c1; rw [if_neg hzx] at c2
    simp only [if_pos hyx,if_neg hzx] at e
    exact absurd e.symm ((hinj c1).2 z hz c2)
  ·by_cases hzx : z = x
   ·rw [if_neg hyx] at c1; rw [if_pos hzx] at c2
    simp only [if_neg hyx,if_pos hzx] at e
    exact absurd e ((hinj c2).2 y hy c1)
   ·rw [if_neg hyx] at c1; rw [if_neg hzx] at c2
    simp only [if_neg hyx,if_neg hzx] at e
    exact inj y z hy hz c1 c2 e
 ·obtain ⟨a,b⟩:=hself.1 hsl ix dx e
  exact ⟨by simp [Ne.symm h2,a],by simp [Ne.symm h2,b]⟩
 ·rw [aY] at c1
  show (if y = x then a' else ad y) ∉ X.pn
  by_cases hyx : y = x
  ·rw [if_pos hyx] at c1 ⊢; exact (hinj c1).1
  ·rw [if_neg hyx] at c1 ⊢; exact hself.2 y hy c1
 ·obtain ⟨o,es,ep,ho,hdt,_⟩:=hn'
  exact ⟨o,ho,fun _ ⟨_,_,hq⟩ =>by rw [hdt] at hq; cases hq⟩
 ·rintro ⟨v,hv⟩; exact (c9 hn hv).elim
theorem store_cell {x : Str} {v : V} {u : Value} {h' : Heap} {t : Nat} {c : Addr} (S : St X sc env H Mu g s) (F : Fm X B Hc H Mu env s) (hx : fk sc x = true) (hk : env.kindOf x = some .cell) (hcx : env.cells.lookup x = some c)
  (hn' : h'.IsCell c (some u)) (hs : Heap.SameBut c s.heap h') (r : Rep (hideAll s.heap H) v u) :
  Nw X B Hc sc env H Mu (ae x (.val v) g) s { s with heap:=h',toks:=t }:=by
 refine bc fun hN =>?_
 obtain ⟨m,ad,hn,hd,inj,hself⟩:=S.held
 obtain ⟨hcM,v0,hv0⟩:=F.cell x c hcx
 have kb : ∀ b o,b ≠ c → s.heap.get? b = some o → h'.get? b = some o:=fun b o hb e =>hs.extBut b o hb e
 have hcns : ∀ o,s.heap.get? c = some o → ¬ cV o:=fun o e ⟨_,_,hq⟩ =>by
  refine bc fun hN =>?_
  obtain ⟨o',e',hd'⟩:=hv0
  refine hN ?_; clear hN
  rw [e'] at e; cases e
  rw [hd'] at hq; cases hq
 have kr : aI (hideAll s.heap H) (hideAll h' H):=dS kb (.inr hcns)
 have hcL : c ≠ env.locals:=fun h =>by subst h; exact c9 hn hv0
 obtain ⟨h1,h2,_⟩:=gF hx
 refine hN ?_; clear hN
 have hcH : ∀ a ∈ H,a ≠ c → True:=fun _ _ _ =>trivial
 refine ⟨⟨fun b o e =>?_,S.kind,S.glob,S.blt,S.kinds,fun a ha =>?_,m,ad,hn.at' fun o e =>kb _ o hcL.symm e,fun y av' hy hl =>?_,fun y z hy hz c1 c2 e =>?_,hself.1,fun y hy c1 =>?_⟩,F.upd (s':={ s with heap:=h',toks:=t }) hcM kb ?_ (fun _ =>⟨_,hn'⟩),⟨h',t,rfl,fun b o hb e =>kb b o (fun h =>hb (h ▸ hcM)) e⟩,kr⟩
 ·exact kb b o (fun h =>by have:=F.b0 b o e; simp only [h,F.mu _ hcM] at this; exact nS this) (S.base b o e)
 ·refine bc fun hN =>?_
  obtain ⟨o,e⟩:=S.ho a ha
  refine hN ?_; clear hN
  by_cases hac : a = c
  ·obtain ⟨o',e',_⟩:=hn'; exact ⟨o',hac ▸ e'⟩
  ·exact ⟨o,kb a o hac e⟩
 ·rw [aY] at hl
  by_cases hyx : y = x
  ·subst hyx
   rw [if_pos rfl] at hl; obtain rfl:=oj hl
   exact ⟨u,.inr ⟨.inl hk,c,hcx,hn'⟩,r.mono kr⟩
  ·rw [if_neg hyx] at hl
   refine cD.to kb kr (fun _ =>rfl) (fun c' v' hc1 hc' h =>?_) (fun ix o e hix hpl h =>?_) (fun _ h =>h) (fun _ h =>.inl h) (fun _ h =>h) (fun _ h =>.inl h) (fun hcore h =>?_) (hd y av' hy hl)
   ·exact hyx (F.cinj y x c (h ▸ hc1) hcx)
   ·subst h; exact hix hcM
   ·have hh:=hd y av' hy hl
    cases av' with
    | val v =>exact hcore
    | own xs =>
     refine bc fun hN =>?_
     obtain ⟨us,_,_,⟨o,ho,_,_,k,hdt⟩,_⟩:=hh
     refine hN ?_; clear hN
     rw [h] at ho; exact hcns o ho ⟨_,_,hdt⟩
    | inst C fl =>
     obtain ⟨_,_,es,k,_,_,_,e4,_⟩:=hh
     rw [h] at e4
     refine bc fun hN =>?_
     obtain ⟨o',e',hd'⟩:=hv0
     refine hN ?_; clear hN
     rw [e'] at e4; obtain rfl:=oj e4; cases hd'
 ·rw [aY] at c1 c2
  by_cases hyx : y = x
  ·rw [if_pos hyx] at c1; exact c1.elim
  ·by_cases hzx : z = x
   ·rw [if_pos hzx] at c2; exact c2.elim
   ·rw [if_neg hyx] at c1; rw [if_neg hzx] at c2
    exact inj y z hy hz c1 c2 e
 ·rw [aY] at c1
  by_cases hyx : y = x
  ·rw [if_pos hyx] at c1; exact c1.elim
  ·rw [if_neg hyx] at c1; exact hself.2 y hy c1
 ·refine bc fun hN =>?_
  obtain ⟨o,ho,hdt⟩:=hn'
  refine hN ?_; clear hN
  exact ⟨o,ho,fun _ ⟨_,_,hq⟩ =>by rw [hdt] at hq; cases hq⟩
theorem sto_cases {x : Str} (S : St X sc env H Mu g s) (hx : fk sc x = true) : env.kindOf x = some .local ∨ (env.kindOf x = some .cell ∧ ∃ c,env.cells.lookup x = some c):=by
 refine bc fun hN =>?_
 obtain ⟨_,_,h⟩:=gF hx
 refine hN ?_; clear hN
 rcases h with h | h
 ·exact .inl (S.kinds.loc x h)
 ·exact .inr ⟨S.kinds.cel x h,Option.isSome_iff_exists.mp (S.kinds.has x (.inl h))⟩
theorem gh {A : Around} {E : Value → Shared → Prop} {Q : Unit → Shared → Prop} {x : Str} {v : V} {u : Value} (S : St X sc env H Mu g s) (F : Fm X B Hc H Mu env s) (hx : fk sc x = true) (r : Rep (hideAll s.heap H) v u)
  (q : ∀ s',Nw X B Hc sc env H Mu (ae x (.val v) g) s s' → Q () s') : wpAny (model X.prog X.w) A (storeName env x u) Q E s:=by
 rcases sto_cases S hx with h | ⟨h,c,hc⟩
 ·refine bc fun hN =>?_
  obtain ⟨m,ad,hn,hd,inj,hself⟩:=S.held
  refine hN ?_; clear hN
  refine wpAny_storeName_local h hn (fun h' hn' hs =>q _ (store_local (a':=0) S F hx hn hd inj hself hn' hs (fun kr _ =>⟨u,.inl ⟨h,by simp⟩,r.mono kr⟩) fun h =>h.elim)) ?_
  rw [S.kind]; rfl
 ·refine bc fun hN =>?_
  obtain ⟨_,v0,hv0⟩:=F.cell x c hc
  refine hN ?_; clear hN
  exact wpAny_storeName_cell S.kind h hc hv0 fun h' hn' hs =>q _ (store_cell S F hx h hc hn' hs r)
end
section
variable {X : Gx} {B : Heap} {Hc H Mu : List Addr} {sc : Scope} {env : Env} {g : Gam} {s s0 : Shared}
noncomputable def bV (own : Bool) (a : Addr) (H : List Addr) : List Addr:=if own then a :: H else H
theorem eK {own : Bool} {a : Addr} {H : List Addr} : ∀ b ∈ H,b ∈ bV own a H:=fun b hb =>by
 unfold bV; split
 ·exact .tail _ hb
 ·exact hb
theorem cK {own : Bool} {a : Addr} {H : List Addr} : ∀ b ∈ bV own a H,b ∈ H ∨ b = a:=fun b hb =>by
 unfold bV at hb; split at hb
 ·rcases List.mem_cons.mp hb with h | h
  ·exact .inr h
  ·exact .inl h
 ·exact .inl hb
theorem enlarge {a : Addr} {own : Bool} (S : St X sc env H Mu g s0) (F : Fm X B Hc H Mu env s0) (k : Kp s0 s) (ha : s0.heap.get? a = none) (hl : ∃ o,s.heap.get? a = some o ∧ (own = false → ¬ cV o)) :
  St X sc env (bV own a H) (a :: Mu) g s ∧ Fm X B Hc (bV own a H) (a :: Mu) env s ∧ aI (hideAll s0.heap H) (hideAll s.heap (bV own a H)) ∧
  ∃ (m : Str → Option Value) (ad : Str → Addr),s.heap.Ns env.locals m ∧ (∀ x av,ax sc x = true → g.lookup x = some av → cD X env (bV own a H) (a :: Mu) s.heap m (ad x) x av) ∧
   (∀ x y,ax sc x = true → ax sc y = true → aV (g.lookup x) → aV (g.lookup y) → ad x = ad y → x = y) ∧
   Side X sc g m ad ∧
   (∀ y,ax sc y = true → aV (g.lookup y) → ad y ≠ a):=by
 refine bc fun hN =>?_
 obtain ⟨m,ad,hn,hd,inj,hself⟩:=S.held
 refine hN ?_; clear hN
 have kH' : ∀ b ∈ bV own a H,b ∈ H ∨ s0.heap.get? b = none:=fun b hb =>by
  rcases cK b hb with h | h
  ·exact .inl h
  ·exact .inr (h ▸ ha)
 have kM' : ∀ b ∈ a :: Mu,b ∈ Mu ∨ s0.heap.get? b = none:=fun b hb =>by
  rcases List.mem_cons.mp hb with h | h
  ·exact .inr (h ▸ ha)
  ·exact .inl h
 have kr : aI (hideAll s0.heap H) (hideAll s.heap (bV own a H)):=.of (gE kH' k.keep)
 have hne : ∀ y av,ax sc y = true → g.lookup y = some av → aV (some av) → ad y ≠ a:=fun y av hy hl hc h =>by
  have hh:=hd y av hy hl
  cases av with
  | val v =>exact hc
  | own xs =>obtain ⟨us,_,_,⟨o,ho,_⟩,_⟩:=hh; simp only [h,ha] at ho; exact nS ho
  | inst C fl =>obtain ⟨_,_,_,_,_,_,_,e4,_⟩:=hh; simp only [h,ha] at e4; exact nS e4
 have hd' : ∀ x av,ax sc x = true → g.lookup x = some av → cD X env (bV own a H) (a :: Mu) s.heap m (ad x) x av:=fun y av hy hl =>by
  refine cD.to (c:=a) (fun b o _ e =>k.keep b o e) kr (fun _ =>rfl) (fun c' v' _ hc' h =>?_) (fun ix o e _ hpl h =>?_) eK kH' (fun _ h =>.tail _ h) kM' (fun hcore =>hne y av hy hl hcore) (hd y av hy hl)
  ·subst h; obtain ⟨o,ho,_⟩:=hc'; rw [ha] at ho; exact nS ho
  ·subst h; rw [ha] at e; exact nS e
 have hne' : ∀ y,ax sc y = true → aV (g.lookup y) → ad y ≠ a:=fun y hy hc =>by
  cases hl : g.lookup y with
  | none =>rw [hl] at hc; exact hc.elim
  | some av =>rw [hl] at hc; exact hne y av hy hl hc
 have hoH : HOk (bV own a H) s.heap:=fun b hb =>by
  rcases cK b hb with h | h
  ·obtain ⟨o,e⟩:=S.ho b h; exact ⟨o,k.keep _ _ e⟩
  ·obtain ⟨o,e,_⟩:=hl; exact ⟨o,h ▸ e⟩
 have Fk:=F.kp k
 refine ⟨⟨fun b o e =>k.keep b o (S.base b o e),S.kind,S.glob,S.blt,S.kinds,hoH,m,ad,hn.keeps k.keep,hd',inj,hself⟩,⟨Fk.b0,Fk.keep,fun b hb =>?_,fun b hb =>?_,fun b hb =>?_,fun b hb =>eK b (F.hc b hb),F.hcb,fun b hb hbH o e =>?_,⟨.tail _ F.loc.1,fun hm =>?_⟩,fun x c h2 =>?_,F.cinj⟩,kr,m,ad,hn.keeps k.keep,hd',inj,hself,hne'⟩
 ·rcases List.mem_cons.mp hb with h | h
  ·cases e : B.get? b with
   | none =>rfl
   | some o =>have:=F.keep b o e; simp only [h,ha] at this; exact nS this
  ·exact F.mu b h
 ·rcases List.mem_cons.mp hb with h | h
  ·obtain ⟨o,e,_⟩:=hl; exact ⟨o,h ▸ e⟩
  ·exact Fk.live b h
 ·rcases cK b hb with h | h
  ·rcases F.hmu b h with h | h
   ·exact .inl h
   ·exact .inr (.tail _ h)
  ·exact .inr (h ▸ .head _)
 ·rcases List.mem_cons.mp hb with h | h
  ·obtain ⟨o',e',hs⟩:=hl
   simp only [h,e'] at e; obtain rfl:=oj e
   refine hs ?_
   cases own with
   | false =>rfl
   | true =>exact absurd (by unfold bV; simp only [if_pos rfl,h]; exact .head _) hbH
  ·exact Fk.ns b h (fun hh =>hbH (eK b hh)) o e
 ·rcases cK _ hm with h | h
  ·exact F.loc.2 h
  ·obtain ⟨o,es,ep,ho,_⟩:=hn
   simp only [h,ha] at ho; exact nS ho
 ·obtain ⟨p1,p2⟩:=Fk.cell x c h2
  exact ⟨.tail _ p1,p2⟩
end
section
variable {X : Gx} {B : Heap} {Hc H Mu : List Addr} {sc : Scope} {env : Env} {g : Gam} {s : Shared}
theorem upd_core {x : Str} {av av' : AV} {h' : Heap} {t : Nat} {m : Str → Option Value} {ad : Str → Addr} (S : St X sc env H Mu g s) (F : Fm X B Hc H Mu env s) (hx : ax sc x = true) (hl : g.lookup x = some av) (hcore : aV (some av)) (hcore' : aV (some av'))
  (hn : s.heap.Ns env.locals m) (hd : ∀ x av,ax sc x = true → g.lookup x = some av → cD X env H Mu s.heap m (ad x) x av) (inj : ∀ x y,ax sc x = true → ax sc y = true → aV (g.lookup x) → aV (g.lookup y) → ad x = ad y → x = y)
  (hself : Side X sc g m ad)
  (hcM : ad x ∈ Mu) (hcL : ad x ≠ env.locals) (hnc : ∀ v,¬ s.heap.IsCell (ad x) v) (kb : ∀ b o,b ≠ ad x → b ≠ env.locals → s.heap.get? b = some o → h'.get? b = some o) (hn' : h'.Ns env.locals m) (hcs : ad x ∈ H ∨ ∀ o,s.heap.get? (ad x) = some o → ¬ cV o)
  (ho : ∃ o,h'.get? (ad x) = some o ∧ (ad x ∉ H → ¬ cV o)) (hv : aI (hideAll s.heap H) (hideAll h' H) → cD X env H Mu h' m (ad x) x av') :
  Nw X B Hc sc env H Mu (ae x av' g) s { s with heap:=h',toks:=t }:=by
 have kr : aI (hideAll s.heap H) (hideAll h' H):=fun b o e hq =>by
  refine hideAll_get H (kb b o (fun hb =>?_) (fun hb =>?_) (of_hideAll H e)) (bq e)
  ·subst hb
   rcases hcs with a | a
   ·exact bq e a
   ·exact a o (of_hideAll H e) hq
  ·subst hb; exact ce hn (of_hideAll H e) hq
 have tr : ∀ z,aV ((ae x av' g).lookup z) → aV (g.lookup z):=fun z hz =>by
  rw [aY] at hz
  by_cases hzx : z = x
  ·simp only [hzx,hl]; exact hcore
  ·rw [if_neg hzx] at hz; exact hz
 refine ⟨⟨fun b o e =>?_,S.kind,S.glob,S.blt,S.kinds,fun a ha =>?_,m,ad,hn',fun y av2 hy hl2 =>?_,fun y z hy hz c1 c2 e =>?_,hself.1,fun y hy c1 =>hself.2 y hy (tr y c1)⟩,F.upd2 (s':={ s with heap:=h',toks:=t }) hcM hn hn' kb ho (fun ⟨v,hv⟩ =>(hnc v hv).elim),⟨h',t,rfl,fun b o hb e =>kb b o (fun h =>hb (h ▸ hcM)) (fun h =>hb (h ▸ F.loc.1)) e⟩,kr⟩
 ·exact kb b o (fun h =>by have:=F.b0 b o e; simp only [h,F.mu _ hcM] at this; exact nS this) (fun h =>by have:=F.b0 b o e; simp only [h,F.mu _ F.loc.1] at this; exact nS this) (S.base b o e)
 ·obtain ⟨o,e⟩:=S.ho a ha
  by_cases hac : a = ad x
  ·obtain ⟨o',e',_⟩:=ho; exact ⟨o',hac ▸ e'⟩
  ·exact ⟨o,kb a o hac (fun h =>F.loc.2 (h ▸ ha)) e⟩
 ·rw [aY] at hl2
  by_cases hyx : y = x
  ·subst hyx
   rw [if_pos rfl] at hl2; obtain rfl:=oj hl2
   exact hv kr
  ·rw [if_neg hyx] at hl2
   refine cD.toP (c:=fun b =>b = ad x ∨ b = env.locals) (fun b o hb e =>kb b o (fun h =>hb (.inl h)) (fun h =>hb (.inr h)) e) kr (fun _ =>rfl) (fun c' v' _ hc' h =>?_) (fun ix o e hix hpl h =>?_) (fun _ h =>h) (fun _ h =>.inl h) (fun _ h =>h) (fun _ h =>.inl h) (fun hc2 h =>?_) (hd y av2 hy hl2)
   ·rcases h with h | h
    ·subst h; exact hnc _ hc'
    ·subst h; exact c9 hn hc'
   ·rcases h with h | h
    ·subst h; exact hix hcM
    ·subst h; exact hix F.loc.1
   ·rcases h with h | h
    ·exact hyx (inj y x hy hx (by rw [hl2]; exact hc2) (by rw [hl]; exact hcore) h)
    ·have hh:=hd y av2 hy hl2
     cases av2 with
     | val v =>exact hc2
     | own xs =>obtain ⟨us,_,_,hli,_⟩:=hh; rw [h] at hli; exact ns_notList hn hli.isList
     | inst C fl =>obtain ⟨_,_,_,_,_,_,_,_,_,_,_,e8,_⟩:=hh; exact e8 h
 ·have tr : ∀ z,aV ((ae x av' g).lookup z) → aV (g.lookup z):=fun z hz =>by
   rw [aY] at hz
   by_cases hzx : z = x
   ·simp only [hzx,hl]; exact hcore
   ·rw [if_neg hzx] at hz; exact hz
  exact inj y z hy hz (tr y c1) (tr z c2) e
theorem upd_own {x : Str} {xs xs' : List V} {us' : List Value} {h' : Heap} {t : Nat} {m : Str → Option Value} {ad : Str → Addr} (S : St X sc env H Mu g s) (F : Fm X B Hc H Mu env s) (hx : ax sc x = true) (hl : g.lookup x = some (.own xs))
  (hn : s.heap.Ns env.locals m) (hd : ∀ x av,ax sc x = true → g.lookup x = some av → cD X env H Mu s.heap m (ad x) x av) (inj : ∀ x y,ax sc x = true → ax sc y = true → aV (g.lookup x) → aV (g.lookup y) → ad x = ad y → x = y)
  (hself : Side X sc g m ad)
  (hl' : db h' (ad x) us'.toArray) (kb : ∀ b o,b ≠ ad x → s.heap.get? b = some o → h'.get? b = some o) (r : Reps (hideAll s.heap H) xs' us') :
  Nw X B Hc sc env H Mu (ae x (.own xs') g) s { s with heap:=h',toks:=t }:=by
 refine bc fun hN =>?_
 obtain ⟨us,e1,e2,e3,e4,e5,e6⟩:=hd x _ hx hl
 obtain ⟨o,ho,hc,_,n,hdt⟩:=id e3
 obtain ⟨o',ho',_⟩:=id hl'
 refine hN ?_; clear hN
 have hcL : ad x ≠ env.locals:=fun h =>F.loc.2 (h ▸ e4)
 refine upd_core S F hx hl trivial trivial hn hd inj hself e5 hcL (fun v ⟨o2,h2,hd2⟩ =>?_) (fun b o h1 _ e =>kb b o h1 e) (hn.at' fun o e =>kb _ o hcL.symm e) (.inl e4) ⟨o',ho',fun h =>absurd e4 h⟩ fun kr =>⟨us',e1,e2,hl',e4,e5,r.mono kr⟩
 rw [ho] at h2; obtain rfl:=oj h2
 rw [hdt] at hd2; cases hd2
theorem upd_inst {x C : Str} {fl fl' : List (Str × V)} {h' : Heap} {t : Nat} {m : Str → Option Value} {ad : Str → Addr} {es' : List DictEntry} {n' : Nat} (S : St X sc env H Mu g s) (F : Fm X B Hc H Mu env s) (hx : ax sc x = true) (hl : g.lookup x = some (.inst C fl))
  (hn : s.heap.Ns env.locals m) (hd : ∀ x av,ax sc x = true → g.lookup x = some av → cD X env H Mu s.heap m (ad x) x av) (inj : ∀ x y,ax sc x = true → ax sc y = true → aV (g.lookup x) → aV (g.lookup y) → ad x = ad y → x = y)
  (hself : Side X sc g m ad)
  (hl' : h'.get? (ad x) = some (dictOf es' n')) (kb : ∀ b o,b ≠ ad x → b ≠ env.locals → s.heap.get? b = some o → h'.get? b = some o) (hn' : h'.Ns env.locals m) (r : bR (hideAll h' H) fl' es') :
  Nw X B Hc sc env H Mu (ae x (.inst C fl') g) s { s with heap:=h',toks:=t }:=by
 refine bc fun hN =>?_
 obtain ⟨ix,Ca,es,n,e1,e2,e3,e4,e5,e6,e7,e8,_⟩:=hd x _ hx hl
 refine hN ?_; clear hN
 have hix : ix ≠ ad x:=fun h =>e7 (h ▸ e5)
 have hiL : ix ≠ env.locals:=fun h =>e7 (h ▸ F.loc.1)
 refine upd_core S F hx hl trivial trivial hn hd inj hself e5 e8 (fun v ⟨o2,h2,hd2⟩ =>?_) kb hn' (.inr fun o e ⟨_,_,hq⟩ =>?_) ⟨_,hl',fun _ ⟨_,_,hq⟩ =>by cases hq⟩ fun kr =>⟨ix,Ca,es',n',?_,e2,kb _ _ hix hiL e3,hl',e5,e6,e7,e8,r⟩
 ·rw [e4] at h2; obtain rfl:=oj h2; cases hd2
 ·rw [e4] at e; obtain rfl:=oj e; cases hq
 ·rcases e1 with ⟨a,b⟩ | ⟨a,c,b,o,ho,hdt⟩
  ·exact .inl ⟨a,b⟩
  ·refine .inr ⟨a,c,b,o,kb c o (fun h =>?_) (fun h =>?_) ho,hdt⟩
   ·rw [h,e4] at ho; obtain rfl:=oj ho; cases hdt
   ·rw [h] at ho; exact c9 hn ⟨o,ho,hdt⟩
end
theorem list_extendW (l : Addr) (items : Array Value) (n : Nat) (b : Addr) (items2 : Array Value) (n2 : Nat) (dd dd2 : Option Addr) (sl sl2 : Array (Option Value)) (hc0 : ¬(!items.isEmpty && Builtin.List.listTooLong (items.size + items2.size)) = true) (hc1 : items.size ≤ sizeLine) (hs2 : items.size + items2.size ≤ sizeLine + 1) :
  Meets (Builtin.«list.extend» ⟨[.ref l,.ref b],[]⟩) (fun _ R s =>s.heap.get? l = some { cls:=.type "list",dict:=dd,data:=.seq items n,slots:=sl } ∧ s.heap.get? b = some { cls:=.type "list",dict:=dd2,data:=.seq items2 n2,slots:=sl2 } ∧ R (.ok (.ret Value.none)) { s with heap:=s.heap.update l (Obj.mapSeq fun x =>x ++ items2),toks:=s.toks }) :=
 .of_wp fun prog w A R s h =>by
  obtain ⟨hp,g,d,tk,os⟩:=s; obtain ⟨hl,hb,h⟩:=h; have f1:=AutoSeq1.idx_int; have f2:=AutoSeq1.sub_tuple_tuple; have f3:=AutoSeq1.sub_list_list; have f4:=AutoSeq1.sub_tuple_list; have f5:=AutoSeq1.sub_list_tuple
  have hz' : (items ++ items2).size ≤ sizeLine + 1:=by rw [Array.size_append]; exact hs2
  wp_walk using (wpAny_updateSeq hl rfl (hz:=hc1) (_hz':=hz')),wpAny_loadPart' hl,wpAny_loadPart' hb; exact ⟨_,rfl,h⟩
theorem list_reverseW (l : Addr) (items : Array Value) (n : Nat) (dd : Option Addr) (sl : Array (Option Value)) (hs1 : items.size ≤ sizeLine) :
  Meets (Builtin.«list.reverse» ⟨[.ref l],[]⟩) (fun _ R s =>s.heap.get? l = some { cls:=.type "list",dict:=dd,data:=.seq items n,slots:=sl } ∧ R (.ok (.ret Value.none)) { s with heap:=s.heap.update l (Obj.mapSeq fun x =>x.reverse),toks:=s.toks }) :=
 .of_wp fun prog w A R s h =>by
  obtain ⟨hp,g,d,tk,os⟩:=s; obtain ⟨hl,h⟩:=h; have f1:=AutoSeq1.idx_int; have f2:=AutoSeq1.sub_tuple_tuple; have f3:=AutoSeq1.sub_list_list; have f4:=AutoSeq1.sub_tuple_list; have f5:=AutoSeq1.sub_list_tuple
  have hz' : items.reverse.size ≤ sizeLine + 1:=by rw [Array.size_reverse]; lia
  wp_walk using (wpAny_updateSeq hl rfl (hz:=hs1) (_hz':=hz')),wpAny_loadPart' hl; exact ⟨_,rfl,h⟩
theorem own_upd {h : Heap} {a : Addr} {us : Array Value} (x : db h a us) (f : Array Value → Array Value) : db (h.update a (Obj.mapSeq f)) a (f us):=by
 refine bc fun hN =>?_
 obtain ⟨⟨c,d,dt,sl⟩,ho,hc,hd,n,hdt⟩:=x
 refine hN ?_; clear hN
 simp only at hc hd hdt
 subst hc hd hdt
 exact ⟨_,Heap.get?_update_self _ ho rfl,rfl,rfl,_,rfl⟩
section
variable {prog : Program} {w : World} {A : Around} {E Q : Value → Shared → Prop} {s : Shared} {H : List Addr}
theorem append_own {a : Addr} {us : List Value} {u : Value} (hl : db s.heap a us.toArray) (hz : us.length ≤ sizeLine) (q : ∀ h',db h' a (us ++ [u]).toArray → (∀ b o,b ≠ a → s.heap.get? b = some o → h'.get? b = some o) → Q .none { s with heap:=h' }) :
  wpAny (model prog w) A (call (.builtin "list.append") [.ref a,u]) Q E s:=by
 refine bc fun hN =>?_
 obtain ⟨⟨c,d,dt,sl⟩,ho,hc,hd,n,hdt⟩:=id hl
 refine hN ?_; clear hN
 refine wpAny_call_entry slot_list_append hl.isList.typeIs entry_list_append ?_ (args_list_append _ _)
 show wpAny _ _ (updateSeq a (·.push u) >>= fun _ =>ret .none) _ _ s
 refine wpAny_bind (wpAny_updateSeq (hz:=by rw [List.size_toArray]; exact hz) ho hdt (wpAny_pure ⟨.none,rfl,q _ ?_ fun b o hb e =>(Heap.SameBut.update ..).extBut b o hb e⟩))
 have:=own_upd hl (·.push u)
 simpa using this
theorem extend_own {a b : Addr} {us ws : List Value} (hl : db s.heap a us.toArray) (hb : s.heap.IsList b ws.toArray) (hz : us.length + ws.length ≤ sizeLine) (q : ∀ h',db h' a (us ++ ws).toArray → (∀ b o,b ≠ a → s.heap.get? b = some o → h'.get? b = some o) → Q .none { s with heap:=h' }) :
  wpAny (model prog w) A (call (.builtin "list.extend") [.ref a,.ref b]) Q E s:=by
 refine bc fun hN =>?_
 obtain ⟨⟨c,d,dt,sl⟩,ho,hc,hd,n,hdt⟩:=id hl
 obtain ⟨⟨c2,d2,dt2,sl2⟩,ho2,hc2,n2,hdt2⟩:=id hb
 refine hN ?_; clear hN
 simp only at hc hd hdt hc2 hdt2
 subst hc hd hdt hc2 hdt2
 have hz' : us.toArray.size + ws.toArray.size ≤ sizeLine:=by simpa using hz
 refine call_meets PySem.F.slot_list_extend ⟨_,ho,rfl⟩ PySem.F.entry_list_extend (PySem.F.args_list_extend_2 _ _) (list_extendW a us.toArray n b ws.toArray n2 none d2 sl sl2 (extend_door hz') (by lia) (by lia)) ⟨ho,ho2,?_⟩
 have:=own_upd hl (fun x =>x ++ ws.toArray)
 exact q _ (by simpa using this) fun b o hb e =>(Heap.SameBut.update ..).extBut b o hb e
theorem reverse_own {a : Addr} {us : List Value} (hl : db s.heap a us.toArray) (hz : us.length ≤ sizeLine) (q : ∀ h',db h' a us.reverse.toArray → (∀ b o,b ≠ a → s.heap.get? b = some o → h'.get? b = some o) → Q .none { s with heap:=h' }) :
  wpAny (model prog w) A (call (.builtin "list.reverse") [.ref a]) Q E s:=by
 refine bc fun hN =>?_
 obtain ⟨⟨c,d,dt,sl⟩,ho,hc,hd,n,hdt⟩:=id hl
 refine hN ?_; clear hN
 simp only at hc hd hdt
 subst hc hd hdt
 refine call_meets PySem.F.slot_list_reverse ⟨_,ho,rfl⟩ PySem.F.entry_list_reverse (PySem.F.args_list_reverse_1 _) (list_reverseW a us.toArray n none sl (by simpa using hz)) ⟨ho,?_⟩
 have:=own_upd hl (fun x =>x.reverse)
 exact q _ (by simpa using this) fun b o hb e =>(Heap.SameBut.update ..).extBut b o hb e
end
inductive FlR (X : Gx) (B : Heap) (Hc : List Addr) (sc : Scope) (env : Env) (Mu : List Addr) (s : Shared) (v : V) (g' : Gam) (f : Flow) (s' : Shared) : Prop
 | mk (u : Value) (Mu' : List Addr) (e : f = .ret u) (r : Rep (hideAll s'.heap Hc) v u) (S : St X sc env Hc Mu' g' s') (m : Mv Mu s s') (b : Sub B s'.heap) : FlR X B Hc sc env Mu s v g' f s'
noncomputable def FlP (X : Gx) (B : Heap) (Hc : List Addr) (sc : Scope) (env : Env) (Mu : List Addr) (s : Shared) : Fl → Flow → Shared → Prop
 | .next g',f,s' =>f = .next ∧ Nx X B Hc sc env Mu g' s s'
 | .brk g',f,s' =>f = .brk ∧ Nx X B Hc sc env Mu g' s s'
 | .ret v g',f,s' =>FlR X B Hc sc env Mu s v g' f s'
theorem FlP.trans {X : Gx} {B : Heap} {Hc : List Addr} {sc : Scope} {env : Env} {Mu Mu' : List Addr} {s s' s'' : Shared} {fl : Fl} {f : Flow} (m : Mv Mu s s') (hm : ∀ a ∈ Mu',a ∈ Mu ∨ s.heap.get? a = none) (h : FlP X B Hc sc env Mu' s' fl f s'') : FlP X B Hc sc env Mu s fl f s'':=by
 cases fl with
 | next g =>exact ⟨h.1,h.2.trans m hm⟩
 | brk g =>exact ⟨h.1,h.2.trans m hm⟩
 | ret v g =>
  refine bc fun hN =>?_
  obtain ⟨u,Mu2,h1,h2,h3,h4,h5⟩:=h
  refine hN ?_; clear hN
  exact ⟨u,Mu2,h1,h2,h3,m.trans h4 hm,h5⟩
noncomputable def CSpec (X : Gx) (N : Nat) (Ca : Addr) (vs : List V) (fl : List (Str × V)) : Prop :=
 ∀ (A : Around) (s : Shared) (H : List Addr) (us : List Value) (Q E : Value → Shared → Prop),Room A N → Sub X.B0 s.heap → HOk H s.heap → Reps (hideAll s.heap H) vs us →
  (∀ ix dx es n s',Kp s s' → s.heap.get? ix = none → s.heap.get? dx = none → ix ≠ dx → s'.heap.get? ix = some (instObj Ca dx) → s'.heap.get? dx = some (dictOf es n) → bR (hideAll s'.heap H) fl es → Q (.ref ix) s') →
  wpAny (model X.prog X.w) A (call (.ref Ca) us []) Q E s
noncomputable def MSpec (X : Gx) (N : Nat) (Ca f : Addr) (fl : List (Str × V)) (vs : List V) (r : V) (fl' : List (Str × V)) : Prop :=
 ∀ (A : Around) (s : Shared) (H : List Addr) (ix dx : Addr) (es : List DictEntry) (n : Nat) (us : List Value) (Q E : Value → Shared → Prop),Room A N → Sub X.B0 s.heap → HOk H s.heap → s.heap.get? ix = some (instObj Ca dx) → s.heap.get? dx = some (dictOf es n) → dx ∉ H → X.B0.get? dx = none →
  bR (hideAll s.heap H) fl es → Reps (hideAll s.heap H) vs us →
  (∀ u h' t es' n',(∀ b o,b ≠ dx → s.heap.get? b = some o → h'.get? b = some o) → h'.get? dx = some (dictOf es' n') → bR (hideAll h' H) fl' es' → Rep (hideAll h' H) r u → Q u { s with heap:=h',toks:=t }) →
  wpAny (model X.prog X.w) A (call (.ref f) (.ref ix :: us)) Q E s
structure SetAt (X : Gx) (C : Addr) (f : Str) : Prop where
 set : findIn X.K (.ref C) "__setattr__" = some (some (.builtin "object.__setattr__"))
 over : plainOver X.K C = true
 take : takerIn X.K C f = some none
 has : hasDictIn X.K C = true
structure GOk2 (X : Gx) (G : Ge) (N : Nat) : Prop extends GOk X G N where
 cls : ∀ C vs fl,G.cls C vs = some fl → ∃ Ca,X.clsA C = some Ca ∧ X.mg C = some (.ref Ca) ∧ keepIn X.K (.ref Ca) = true ∧ CSpec X N Ca vs fl
 mth : ∀ C m fl vs r fl' Ca,G.mth C m fl vs = some (r,fl') → X.clsA C = some Ca → ∃ f,MethAt X Ca m f ∧ MSpec X N Ca f fl vs r fl'
 sets : ∀ C f Ca,f ∈ G.flds C → X.clsA C = some Ca → SetAt X Ca f
section
variable {X : Gx} {G : Ge} {N n : Nat} {B : Heap} {Hc H Mu : List Addr} {sc : Scope} {env : Env} {g : Gam} {s : Shared} {A : Around} {E : Value → Shared → Prop}
theorem fG (S : St X sc env H Mu g s) : interactive env = false:=by
 unfold interactive
 rw [S.kind]; rfl
theorem all_plain {p : Pos} {es : List Expr} {vs : List V} (e : az (ev n G sc g) es = some vs) (hsz : es.length < 20) :
  ((backTo p (starEach es env)).all (fun x =>!x.1) && (backToKw p (keywordEach [] env)).all (fun x =>x.1.isSome) && decide (es.length + ([] : List Keyword).length + (if ([] : List Keyword).isEmpty then 0 else 1) < 30)) = true:=by
 have hpl:=bT (p:=p) (env:=env) e
 have hall : (backTo p (starEach es env)).all (fun x =>!x.1) = true:=by
  rw [List.all_eq_true]
  intro y hy
  rw [List.any_eq_false] at hpl
  simpa using hpl y hy
 have : es.length < 30:=by lia
 rw [hall,arm_keywordEach_nil]; simp [backToKw,this]
theorem gI (I : cv X G N n) (hA : Room A (N + n)) {x m : Str} {bid : String} {px pa p pos : Pos} {es : List Expr} {vs xs xs' : List V} (S : St X sc env H Mu g s) (F : Fm X B Hc H Mu env s) (hx : ax sc x = true) (hl : g.lookup x = some (.own xs)) (hline : bJ pa p = true) (hsz : es.length < 20)
  (e : az (ev n G sc g) es = some vs) (slot : Slot "list" m bid) (ty : typeOf (.builtin bid) = pure (.type "method_descriptor"))
  (hq : ∀ (s' : Shared) (a : Addr) (us ws : List Value) (Q : Value → Shared → Prop),db s'.heap a us.toArray → Reps (hideAll s'.heap H) xs us → Reps (hideAll s'.heap H) vs ws →
   (∀ h' us',db h' a us'.toArray → Reps (hideAll s'.heap H) xs' us' → (∀ b o,b ≠ a → s'.heap.get? b = some o → h'.get? b = some o) → Q .none { s' with heap:=h' }) → wpAny (model X.prog X.w) A (call (.builtin bid) (.ref a :: ws)) Q E s') :
  wpAny (model X.prog X.w) A (exec (.Expr (.Call (.Attribute (.Name x px) m pa) es [] p) pos) env) (fun f s' =>FlP X B Hc sc env Mu s (.next (ae x (.own xs') g)) f s') E s:=by
 refine bc fun hN =>?_
 obtain ⟨m0,ad,hn,hd,inj,hself⟩:=id S.held
 obtain ⟨us,e1,e2,e3,e4,e5,e6⟩:=hd x _ hx hl
 refine hN ?_; clear hN
 refine wpAny_Expr_any (wpAny_Call_method_late noCall_base (all_plain e hsz) hline rfl (ga S.kind (du hx) hn (.inl ⟨e1,e2⟩) ⟨"list",bid,PySem.F.plainAttrs_list,slot,ty,e3.isList.typeIs,(fun b hb =>?_),?_⟩)) (fG S) rfl
 ·cases hb; obtain ⟨o,ho,_,hdd,_⟩:=e3; exact ⟨o,ho,hdd⟩
 ·refine callWith_builtin (bT e) (dj I hA S e fun ws s' k r =>?_)
  have e3' : db s'.heap (ad x) us.toArray:=let ⟨o,ho,rest⟩:=e3; ⟨o,k.keep _ _ ho,rest⟩
  have Sk:=S.kp k
  have Fk:=F.kp k
  refine hq s' (ad x) us ws _ e3' (e6.kp k) r fun h' us' hl' hr' kb =>⟨rfl,Nx.kp k ?_⟩
  exact Nw.nx (upd_own (t:=s'.toks) Sk Fk hx hl (hn.keeps k.keep) (fun y av hy hyl =>(hd y av hy hyl).keep k.keep) inj hself hl' kb hr')
theorem put_flds {h : Heap} {f : Str} {v : V} {u : Value} {hsh : Int} {t : Tok} (r : Rep h v u) : ∀ {fl : List (Str × V)} {es : List DictEntry},bR h fl es → bR h (ae f v fl) (putL f hsh (.str f t) u es) ∧ (putL f hsh (.str f t) u es).length ≤ es.length + 1 ∧ (ae f v fl).length = (putL f hsh (.str f t) u es).length
 | [],es,e =>by
  unfold bR at e; subst e
  refine ⟨?_,by simp [putL],by simp [putL,ae]⟩
  simp only [ae,putL]
  unfold bR
  exact ⟨hsh,t,u,[],rfl,r,by unfold bR; rfl⟩
 | (y,w) :: fl,es,e =>by
  unfold bR at e
  obtain ⟨hs',t',u',r',rfl,h1,h2⟩:=e
  obtain ⟨p1,p2,p3⟩:=put_flds (hsh:=hsh) (t:=t) r h2
  simp only [ae,putL,f7]
  cases hy : y == f with
  | true =>
   simp only [if_true]
   have : bR h fl r':=h2
   have hlen : fl.length = r'.length:=by
    clear p1 p2 p3 h1 hy
    induction fl generalizing r' with
    | nil =>unfold bR at h2; subst h2; rfl
    | cons a b ih =>
     refine bc fun hN =>?_
     obtain ⟨a1,a2⟩:=a
     refine hN ?_; clear hN
     unfold bR at h2
     refine bc fun hN =>?_
     obtain ⟨_,_,_,r2,rfl,_,h3⟩:=h2
     refine hN ?_; clear hN
     simp [ih r2 h3 h3]
   refine ⟨?_,by simp,by simp [hlen]⟩
   unfold bR
   exact ⟨hs',t',u,r',rfl,r,h2⟩
  | false =>
   simp only [Bool.false_eq_true,if_false]
   refine ⟨?_,by simp; omega,by simp [p3]⟩
   unfold bR
   exact ⟨hs',t',u',_,rfl,h1,p1⟩
theorem flds_len {h : Heap} : ∀ {fl : List (Str × V)} {es : List DictEntry},bR h fl es → es.length = fl.length
 | [],es,e =>by unfold bR at e; subst e; rfl
 | (y,w) :: fl,es,e =>by
  unfold bR at e
  obtain ⟨hs',t',u',r',rfl,h1,h2⟩:=e
  simp [flds_len h2]
noncomputable def noHeap : Heap:={ objs:=#[] }
theorem set_ok (hG : GOk2 X G N) {Q : Unit → Shared → Prop} {x C f : Str} {px pa : Pos} {fl : List (Str × V)} {v : V} {u : Value} (S : St X sc env H Mu g s) (F : Fm X B Hc H Mu env s) (hx : ax sc x = true) (hl : g.lookup x = some (.inst C fl)) (hf : f ∈ G.flds C) (hz : fl.length < 900) (r : Rep (hideAll s.heap H) v u)
  (q : ∀ s',Nw X B Hc sc env H Mu (ae x (.inst C (ae f v fl)) g) s s' → Q () s') : wpAny (model X.prog X.w) A (assign (.Attribute (.Name x px) f pa) env u) Q E s:=by
 refine bc fun hN =>?_
 obtain ⟨m,ad,hn,hd,inj,hself⟩:=id S.held
 obtain ⟨ix,Ca,es,k,a,e2,e3,e4,e5,e6,e7,e8,rf⟩:=hd x _ hx hl
 refine hN ?_; clear hN
 have T:=hG.sets C f Ca hf e2
 rw [assign_Attribute]
 refine wpAny_bind (wpAny_holding (ga S.kind (du hx) hn a (wpAny_bind (wpAny_standAt (wpAny_bind (wpAny_holding ?_))))))
 have none0 : ∀ b,noHeap.get? b = none:=fun b =>by
  cases e : noHeap.get? b with
  | none =>rfl
  | some o =>exact absurd (Heap.lt_size e) (Nat.not_lt_zero _)
 have FR : Fr noHeap env.locals s.heap m:=⟨hn,fun b o e =>(by rw [none0] at e; exact nS e),Nat.zero_le _⟩
 let post : List (Addr × Obj):=(List.range s.heap.objs.size).filterMap fun b =>if b = env.locals ∨ b = ad x then none else (s.heap.get? b).map fun o =>(b,o)
 have hpost : ∀ b o,(b,o) ∈ post ↔ b ≠ env.locals ∧ b ≠ ad x ∧ s.heap.get? b = some o:=fun b o =>by
  simp only [post,List.mem_filterMap,List.mem_range]
  constructor
  ·rintro ⟨c,_,hc⟩
   split at hc
   ·exact nS hc
   ·rename_i hne
    refine bc fun hN =>?_
    refine au hc fun o' ho' e =>?_
    refine hN ?_; clear hN
    cases e
    exact ⟨fun h =>hne (.inl h),fun h =>hne (.inr h),ho'⟩
  ·rintro ⟨h1,h2,h3⟩
   exact ⟨b,Heap.lt_size h3,by rw [if_neg (by simp [h1,h2]),h3]; rfl⟩
 have N0 : News noHeap env.locals s.heap ([] ++ (ad x,dictOf es k) :: post):=fun p hp =>by
  rcases List.mem_cons.mp hp with rfl | hp
  ·exact ⟨e4,e8,none0 _⟩
  ·refine bc fun hN =>?_
   obtain ⟨b,o⟩:=p
   obtain ⟨h1,h2,h3⟩:=(hpost b o).mp hp
   refine hN ?_; clear hN
   exact ⟨h3,h1,none0 _⟩
 have I0:=inst_at e3 e4
 have P:=put_flds (f:=f) (hsh:=PyData.keyHash X.w.params f) (t:=s.toks + 1) r rf
 refine set_plain (cC S.base) I0 T.set (osa_dict (pre:=[]) (post:=post) (s:={ s with toks:=s.toks + 1 }) FR N0 (cC S.base) I0 rfl T.over T.take T.has (by rw [lookIn_dict]; cases hlk : fl.lookup f with
   | none =>rw [fX rf hlk]; rfl
   | some w =>obtain ⟨u',g1,_⟩:=flds_get rf hlk; rw [g1]; rfl) (fun p hp =>by cases hp) (fun p hp =>((hpost p.1 p.2).mp hp).2.1) (putName_dict ..) rfl ?_ fun h' F' N' =>?_)
 ·have h1:=flds_len rf
  have h2:=P.2.1
  have h3 : es.length + 1 ≤ 1000:=by lia
  exact Nat.le_trans h2 h3
 ·refine wpAny_release' (q _ ?_)
  have hd':=(N' (ad x,_) (.head _)).1
  have kb : ∀ b o,b ≠ ad x → b ≠ env.locals → s.heap.get? b = some o → h'.get? b = some o:=fun b o h1 h2 e =>(N' (b,o) (List.mem_cons_of_mem _ ((hpost b o).mpr ⟨h2,h1,e⟩))).1
  refine upd_inst (t:=s.toks + 1 + 1) S F hx hl hn hd inj hself hd' kb F'.ns (P.1.mono fun b o e hq =>?_)
  refine hideAll_get H (kb b o (fun hb =>?_) (fun hb =>?_) (of_hideAll H e)) (bq e)
  ·refine bc fun hN =>?_
   obtain ⟨_,_,hq⟩:=hq
   refine hN ?_; clear hN
   have:=of_hideAll H e
   simp only [hb,e4] at this; obtain rfl:=oj this; cases hq
  ·exact ce hn (hb ▸ of_hideAll H e) hq
end
noncomputable def Gx.p (X : Gx) (P : List Addr) : Gx:={ X with pn:=P }
theorem GOk2.p {X : Gx} {G : Ge} {N : Nat} (h : GOk2 X G N) (P : List Addr) : GOk2 (X.p P) G N :=
 { cst:=h.cst,fn:=h.fn,pm:=fun C m vs r Ca h1 h2 =>let ⟨f,M,F⟩:=h.pm C m vs r Ca h1 h2; ⟨f,⟨M.get,M.find,M.fn,M.keep⟩,F⟩,flds:=fun C f Ca h1 h2 =>let F:=h.flds C f Ca h1 h2; ⟨F.get,F.has,F.find⟩,cls:=h.cls,mth:=fun C m fl vs r fl' Ca h1 h2 =>let ⟨f,M,F⟩:=h.mth C m fl vs r fl' Ca h1 h2; ⟨f,⟨M.get,M.find,M.fn,M.keep⟩,F⟩,sets:=fun C f Ca h1 h2 =>let F:=h.sets C f Ca h1 h2; ⟨F.set,F.over,F.take,F.has⟩ }
section
variable {X : Gx} {B : Heap} {Hc H H' Mu Mu' : List Addr} {sc : Scope} {env : Env} {g : Gam} {s s' s'' : Shared} {P P' : List Addr}
theorem cD.p {h : Heap} {m : Str → Option Value} {a : Addr} {x : Str} (P' : List Addr) : ∀ {av : AV},cD (X.p P) env H Mu h m a x av → cD (X.p P') env H Mu h m a x av
 | .val _,h =>h
 | .own _,h =>h
 | .inst _ _,h =>h
theorem Fm.p (F : Fm (X.p P) B Hc H Mu env s) (P' : List Addr) : Fm (X.p P') B Hc H Mu env s:=⟨F.b0,F.keep,F.mu,F.live,F.hmu,F.hc,F.hcb,F.ns,F.loc,F.cell,F.cinj⟩
theorem St.weak (S : St (X.p P) sc env H Mu g s) (h : ∀ a ∈ P',a ∈ P) : St (X.p P') sc env H Mu g s:=by
 refine bc fun hN =>?_
 obtain ⟨m,ad,hn,hd,inj,hs⟩:=S.held
 refine hN ?_; clear hN
 exact ⟨S.base,S.kind,S.glob,S.blt,S.kinds,S.ho,m,ad,hn,fun x av hx hl =>(hd x av hx hl).p P',inj,hs.1,fun y hy hc hm =>hs.2 y hy hc (h _ hm)⟩
structure Ext (s : Shared) (H Mu : List Addr) (s' : Shared) (H' Mu' : List Addr) : Prop where
 kp : Kp s s'
 sk : aI (hideAll s.heap H) (hideAll s'.heap H')
 hH : ∀ a ∈ H,a ∈ H'
 hH' : ∀ a ∈ H',a ∈ H ∨ s.heap.get? a = none
 hM : ∀ a ∈ Mu,a ∈ Mu'
 hM' : ∀ a ∈ Mu',a ∈ Mu ∨ s.heap.get? a = none
theorem Ext.of_kp (k : Kp s s') : Ext s H Mu s' H Mu:=⟨k,.of (cA k.keep),fun _ h =>h,fun _ h =>.inl h,fun _ h =>h,fun _ h =>.inl h⟩
theorem Ext.trans {H'' Mu'' : List Addr} (a : Ext s H Mu s' H' Mu') (b : Ext s' H' Mu' s'' H'' Mu'') : Ext s H Mu s'' H'' Mu'' where
 kp:=a.kp.trans b.kp
 sk:=a.sk.trans b.sk
 hH x h:=b.hH x (a.hH x h)
 hH' x h:=by
  rcases b.hH' x h with h | h
  ·exact a.hH' x h
  ·exact .inr (aG a.kp h)
 hM x h:=b.hM x (a.hM x h)
 hM' x h:=by
  rcases b.hM' x h with h | h
  ·exact a.hM' x h
  ·exact .inr (aG a.kp h)
inductive POwn (env : Env) (H Mu : List Addr) (h : Heap) (a : Addr) (xs : List V) (u : Value) : Prop
 | mk (us : List Value) (e1 : u = .ref a) (e2 : db h a us.toArray) (e3 : a ∈ H) (e4 : a ∈ Mu) (e5 : a ≠ env.locals) (r : ∀ h,Reps h xs us) : POwn env H Mu h a xs u
inductive PCons (R : Value → Prop) (T : List Value → Prop) (us : List Value) : Prop
 | mk (u : Value) (r : List Value) (e : us = u :: r) (h : R u) (t : T r) : PCons R T us
inductive PConsC (R : Addr → Value → Prop) (T : List Value → List Addr → Prop) (us : List Value) (P : List Addr) : Prop
 | mk (u : Value) (r : List Value) (a : Addr) (P' : List Addr) (e : us = u :: r) (f : P = a :: P') (h : R a u) (t : T r P') : PConsC R T us P
noncomputable def fr (X : Gx) (env : Env) (H Mu : List Addr) (s : Shared) (a : Addr) : AV → Value → Prop
 | .val _,_ =>False
 | .own xs,u =>POwn env H Mu s.heap a xs u
 | .inst C fl,u =>HInst (X.clsA C) env H Mu s.heap (u = ·) a fl
noncomputable def aO (X : Gx) (env : Env) (H Mu : List Addr) (s : Shared) : List AV → List Value → List Addr → Prop
 | [],us,P =>us = [] ∧ P = []
 | .val v :: as,us,P =>PCons (Rep (hideAll s.heap H) v) (fun r =>aO X env H Mu s as r P) us
 | av :: as,us,P =>PConsC (fun a u =>fr X env H Mu s a av u) (aO X env H Mu s as) us P
theorem fr.ext {a : Addr} {u : Value} (e : Ext s H Mu s' H' Mu') : ∀ {av : AV},fr X env H Mu s a av u → fr X env H' Mu' s' a av u
 | .val _,h =>h.elim
 | .own _,⟨us,e1,⟨o,ho,e2⟩,e3,e4,e5,e6⟩ =>⟨us,e1,⟨o,e.kp.keep _ _ ho,e2⟩,e.hH _ e3,e.hM _ e4,e5,e6⟩
 | .inst _ _,⟨ix,Ca,es,n,e1,e2,e3,e4,e5,e6,e7,e8,e9⟩ =>⟨ix,Ca,es,n,e1,e2,e.kp.keep _ _ e3,e.kp.keep _ _ e4,e.hM _ e5,fun hm =>(by
   rcases e.hH' _ hm with h | h
   ·exact e6 h
   ·rw [e4] at h; cases h),fun hm =>(by
   rcases e.hM' _ hm with h | h
   ·exact e7 h
   ·rw [e3] at h; cases h),e8,e9.mono e.sk⟩
theorem aO.ext (e : Ext s H Mu s' H' Mu') : ∀ {as : List AV} {us : List Value} {P : List Addr},aO X env H Mu s as us P → aO X env H' Mu' s' as us P
 | [],_,_,h =>h
 | .val _ :: _,_,_,⟨u,r,e1,e2,e3⟩ =>⟨u,r,e1,e2.mono e.sk,aO.ext e e3⟩
 | .own _ :: _,_,_,⟨u,r,a,P',e1,e2,e3,e4⟩ =>⟨u,r,a,P',e1,e2,e3.ext e,aO.ext e e4⟩
 | .inst _ _ :: _,_,_,⟨u,r,a,P',e1,e2,e3,e4⟩ =>⟨u,r,a,P',e1,e2,e3.ext e,aO.ext e e4⟩
theorem aO.append : ∀ {as bs : List AV} {us ws : List Value} {P R : List Addr},aO X env H Mu s as us P → aO X env H Mu s bs ws R → aO X env H Mu s (as ++ bs) (us ++ ws) (P ++ R)
 | [],_,_,_,_,_,⟨rfl,rfl⟩,b =>b
 | .val _ :: _,_,_,_,_,_,⟨u,r,e1,e2,e3⟩,b =>⟨u,r ++ _,by rw [e1]; rfl,e2,aO.append e3 b⟩
 | .own _ :: _,_,_,_,_,_,⟨u,r,a,P',e1,e2,e3,e4⟩,b =>⟨u,r ++ _,a,P' ++ _,by rw [e1]; rfl,by rw [e2]; rfl,e3,aO.append e4 b⟩
 | .inst _ _ :: _,_,_,_,_,_,⟨u,r,a,P',e1,e2,e3,e4⟩,b =>⟨u,r ++ _,a,P' ++ _,by rw [e1]; rfl,by rw [e2]; rfl,e3,aO.append e4 b⟩
theorem aO.reverse : ∀ {as : List AV} {us : List Value} {P : List Addr},aO X env H Mu s as us P → aO X env H Mu s as.reverse us.reverse P.reverse
 | [],_,_,⟨rfl,rfl⟩ =>⟨rfl,rfl⟩
 | .val _ :: _,_,_,⟨u,r,e1,e2,e3⟩ =>by
  subst e1
  simp only [List.reverse_cons,List.reverse_cons]
  have:=(aO.reverse e3).append (bs:=[.val _]) (ws:=[u]) (R:=[]) ⟨u,[],rfl,e2,rfl,rfl⟩
  simpa using this
 | .own _ :: _,_,_,⟨u,r,a,P',e1,e2,e3,e4⟩ =>by
  subst e1 e2
  simp only [List.reverse_cons,List.reverse_cons,List.reverse_cons]
  exact (aO.reverse e4).append (bs:=[.own _]) (ws:=[u]) (R:=[a]) ⟨u,[],a,[],rfl,rfl,e3,rfl,rfl⟩
 | .inst _ _ :: _,_,_,⟨u,r,a,P',e1,e2,e3,e4⟩ =>by
  subst e1 e2
  simp only [List.reverse_cons,List.reverse_cons,List.reverse_cons]
  exact (aO.reverse e4).append (bs:=[.inst _ _]) (ws:=[u]) (R:=[a]) ⟨u,[],a,[],rfl,rfl,e3,rfl,rfl⟩
theorem aO.length : ∀ {as : List AV} {us : List Value} {P : List Addr},aO X env H Mu s as us P → us.length = as.length
 | [],_,_,⟨rfl,rfl⟩ =>rfl
 | .val _ :: _,_,_,⟨u,r,e1,e2,e3⟩ =>by subst e1; simp [aO.length e3]
 | .own _ :: _,_,_,⟨u,r,a,P',e1,e2,e3,e4⟩ =>by subst e1; simp [aO.length e4]
 | .inst _ _ :: _,_,_,⟨u,r,a,P',e1,e2,e3,e4⟩ =>by subst e1; simp [aO.length e4]
theorem enlargeX {a : Addr} {own : Bool} (S : St (X.p P) sc env H Mu g s) (F : Fm (X.p P) B Hc H Mu env s) (k : Kp s s') (ha : s.heap.get? a = none) (hl : ∃ o,s'.heap.get? a = some o ∧ (own = false → ¬ cV o)) :
  St (X.p (P ++ [a])) sc env (bV own a H) (a :: Mu) g s' ∧ Fm (X.p (P ++ [a])) B Hc (bV own a H) (a :: Mu) env s' ∧ Ext s H Mu s' (bV own a H) (a :: Mu):=by
 refine bc fun hN =>?_
 obtain ⟨S',F',kr,m,ad,hn,hd,inj,hs,hne⟩:=enlarge (own:=own) S F k ha hl
 refine hN ?_; clear hN
 refine ⟨⟨S'.base,S'.kind,S'.glob,S'.blt,S'.kinds,S'.ho,m,ad,hn,fun x av hx hl =>(hd x av hx hl).p _,inj,hs.1,fun y hy hc hm =>?_⟩,F'.p _,k,kr,eK,fun b hb =>?_,fun b hb =>.tail _ hb,fun b hb =>?_⟩
 ·rcases List.mem_append.mp hm with h | h
  ·exact hs.2 y hy hc h
  ·exact hne y hy hc (List.mem_singleton.mp h)
 ·rcases cK b hb with h | h
  ·exact .inl h
  ·exact .inr (h ▸ ha)
 ·rcases List.mem_cons.mp hb with h | h
  ·exact .inr (h ▸ ha)
  ·exact .inl h
end
section
variable {X : Gx} {G : Ge} {N n : Nat} {B : Heap} {Hc H Mu : List Addr} {sc : Scope} {env : Env} {g : Gam} {s : Shared} {P : List Addr} {A : Around} {E : Value → Shared → Prop}
noncomputable def RPost (X : Gx) (B : Heap) (Hc H Mu : List Addr) (sc : Scope) (env : Env) (g : Gam) (s : Shared) (P : List Addr) (av : AV) (Q : Value → Shared → Prop) : Prop :=
 ∀ u s' H' Mu' W,St (X.p (P ++ W)) sc env H' Mu' g s' → Fm (X.p (P ++ W)) B Hc H' Mu' env s' → Ext s H Mu s' H' Mu' → (∀ a ∈ W,s.heap.get? a = none) → W.Nodup → aO X env H' Mu' s' [av] [u] W → Q u s'
theorem RPost.val {v : V} {Q : Value → Shared → Prop} (S : St (X.p P) sc env H Mu g s) (F : Fm (X.p P) B Hc H Mu env s) (q : RPost X B Hc H Mu sc env g s P (.val v) Q) : bo H s v Q:=fun u s' k r =>
 q u s' H Mu [] (by rw [List.append_nil]; exact S.kp k) (by rw [List.append_nil]; exact F.kp k) (Ext.of_kp k) (fun a h =>by cases h) List.nodup_nil ⟨u,[],rfl,r,rfl,rfl⟩
theorem own_new {us : List Value} {xs : List V} {s' : Shared} {a : Addr} {Q : Value → Shared → Prop} (S : St (X.p P) sc env H Mu g s) (F : Fm (X.p P) B Hc H Mu env s) (k : Kp s s') (ha : s.heap.get? a = none) (hl : db s'.heap a us.toArray) (r : ∀ h,Reps h xs us)
  (q : RPost X B Hc H Mu sc env g s P (.own xs) Q) : Q (.ref a) s':=by
 refine bc fun hN =>?_
 obtain ⟨o,ho,_⟩:=id hl
 obtain ⟨S',F',e⟩:=enlargeX (own:=true) S F k ha ⟨o,ho,fun h =>by cases h⟩
 obtain ⟨oL,eL⟩:=F.live _ F.loc.1
 refine hN ?_; clear hN
 exact q _ _ _ _ [a] S' F' e (fun b hb =>by rw [List.mem_singleton.mp hb]; exact ha) (by simp) ⟨_,[],a,[],rfl,rfl,⟨us,rfl,hl,by unfold bV; rw [if_pos rfl]; exact .head _,.head _,fun h =>(by rw [h,eL] at ha; cases ha),r⟩,rfl,rfl⟩
theorem inst_new {C : Str} {fl : List (Str × V)} {ix dx Ca : Addr} {es : List DictEntry} {n : Nat} {s' : Shared} {Q : Value → Shared → Prop} (S : St (X.p P) sc env H Mu g s) (F : Fm (X.p P) B Hc H Mu env s) (k : Kp s s') (hi : s.heap.get? ix = none) (ha : s.heap.get? dx = none) (hne0 : ix ≠ dx)
  (hC : X.clsA C = some Ca) (h3 : s'.heap.get? ix = some (instObj Ca dx)) (h4 : s'.heap.get? dx = some (dictOf es n)) (r : bR (hideAll s'.heap H) fl es) (q : RPost X B Hc H Mu sc env g s P (.inst C fl) Q) : Q (.ref ix) s':=by
 refine bc fun hN =>?_
 obtain ⟨S',F',e⟩:=enlargeX (a:=dx) (own:=false) S F k ha ⟨_,h4,fun _ ⟨_,_,hq⟩ =>by cases hq⟩
 obtain ⟨oL,eL⟩:=F.live _ F.loc.1
 refine hN ?_; clear hN
 refine q _ _ _ _ [dx] S' F' e (fun b hb =>by rw [List.mem_singleton.mp hb]; exact ha) (by simp) ⟨_,[],dx,[],rfl,rfl,⟨ix,Ca,es,n,rfl,hC,h3,h4,.head _,fun hm =>?_,fun hm =>?_,fun h =>(by simp only [h,eL] at ha; cases ha),r⟩,rfl,rfl⟩
 ·obtain ⟨o,e⟩:=S.ho dx hm
  rw [ha] at e; exact nS e
 ·rcases List.mem_cons.mp hm with h | h
  ·exact hne0 h
  ·obtain ⟨o,e⟩:=F.live ix h
   rw [hi] at e; exact nS e
theorem bytes_items {b : Array UInt8} {acc : Array Value} (I : ItemsOf (fun i v =>∃ c u,b[i]? = some c ∧ v = .int (c.toNat : Int) u) acc b.size) : ∀ h,Reps h ((KBw.bInts b).map .int) acc.toList:=fun _ =>eA I
theorem evR_ok (hG : GOk2 X G N) {o : Bool} {e : Expr} {av : AV} {Q : Value → Shared → Prop} (S : St (X.p P) sc env H Mu g s) (F : Fm (X.p P) B Hc H Mu env s) (hA : Room A (N + n)) (h : evR n G sc g o e = some av) (q : RPost X B Hc H Mu sc env g s P av Q) :
  wpAny (model X.prog X.w) A (eval e env) Q E s:=by
 have I : cv (X.p P) G N n:=(fL (hG.p P).toGOk n).e
 have plain : ∀ {e : Expr},(ev n G sc g e).map AV.val = some av → wpAny (model X.prog X.w) A (eval e env) Q E s:=fun {e} h =>by
  refine bc fun hN =>?_
  refine au h fun v hv hEqq2 =>?_
  subst hEqq2
  refine hN ?_; clear hN
  exact I _ _ _ _ _ _ _ _ _ _ _ S hA hv (q.val S F)
 unfold evR at h
 split at h
 ·rename_i ho
  obtain rfl:=oj h
  refine bc fun hN =>?_
  obtain ⟨p,rfl⟩:=isNilL_true (Bool.and_eq_true_iff.mp ho).2
  refine hN ?_; clear hN
  exact List_ (spliced_nil (wpAny_newObj_type (own_new (us:=[]) S F (Kp.push _) ck ⟨_,Heap.get?_push_size _ rfl,rfl,rfl,_,rfl⟩ (fun _ =>.nil) q) (Nat.zero_le _)))
 ·cases hc : bI e with
  | none =>rw [hc] at h; exact plain h
  | some c =>
   refine bc fun hN =>?_
   obtain ⟨C,es⟩:=c
   refine hN ?_; clear hN
   rw [hc] at h
   dsimp only at h
   obtain ⟨pf,p,rfl⟩ : ∃ p q,e = .Call (.Name C p) es [] q:=dg hc
   clear hc
   split at h
   ·refine bc fun hN =>?_
    refine aE h fun hc h2 =>?_
    refine aa h2 fun e1 he h3 =>?_
    refine aa h3 fun w hks h4 =>?_
    refine aa h4 fun ks hw h5 =>?_
    refine aL h5 fun hz h6 =>?_
    refine hN ?_; clear hN
    obtain rfl:=oj h6
    clear h h2 h3 h4 h5
    cases bh he
    cases cc hw
    simp only [Bool.and_eq_true] at hc
    have hC : C = "list":=beq_iff_eq.mp hc.1.1
    subst hC
    refine wpAny_Call_Name_kw (et (X:=X.p P) S hc.1.2 (by decide) ?_)
    have hb : cy "list" = .type "list":=by decide
    rw [hb]
    refine callWith_of (P:=fun _ =>True) (by rw [bj hks]; rfl) (fun h _ =>⟨.machine,.inr (.inl rfl),Looks.of_pure rfl⟩) ?_
    rw [bj hks]
    refine evalArgs_plain (x:=eval e1 env) (rest:=[]) (spliced_cons (I _ _ _ _ _ _ _ _ _ _ _ S hA hks fun u s1 k r =>spliced_nil ⟨trivial,?_⟩))
    unfold Rep at r; obtain ⟨b,t,rfl,rfl⟩:=r
    have hsz : b.size ≤ sizeLine:=by
     have : (KBw.bInts b).length = b.size:=by simp [KBw.bInts]
     have:=cL; lia
    refine fh (hn:=hsz) hA.hh b t fun h' tk acc c' hk hS' hacc =>?_
    have k2 : Kp s1 { s1 with heap:=h',toks:=tk }:=Kp.mk' hk
    exact own_new (us:=acc.toList) S F (k.trans k2) (gL k) ⟨_,hS',rfl,rfl,c',by simp⟩ (bytes_items hacc) q
   ·unfold clsK orO at h
    split at h
    ·rename_i a ha
     obtain rfl:=oj h
     refine bc fun hN =>?_
     refine aa ha fun vs hvs h2 =>?_
     refine au h2 fun fl hfl hEqq2 =>?_
     subst hEqq2
     refine aE hvs fun hg hvs =>?_
     obtain ⟨Ca,hCa,hm,hkp,CS⟩:=hG.cls C vs fl hfl
     refine hN ?_; clear hN
     refine wpAny_Call_Name_kw (load_glob (X:=X.p P) S hg hm ?_)
     refine callWith_of (P:=fun h =>X.K.In h) (by rw [bT hvs]; rfl) (keeps_K hkp) (dj I hA S hvs fun us s' k r1 =>⟨X.kin.keeps (S.kp k).base,?_⟩)
     refine CS A s' H us Q E (hA.mono (by lia)) (S.kp k).base (S.kp k).ho r1 fun ix dx es k0 s2 k2 hi ha hne h3 h4 rf =>?_
     exact inst_new S F (k.trans k2) (aG k hi) (aG k ha) hne hCa h3 h4 rf q
    ·exact plain h
end
section
variable {X : Gx} {B : Heap} {Hc H Mu : List Addr} {sc : Scope} {env : Env} {g : Gam} {s : Shared} {P : List Addr} {A : Around} {E : Value → Shared → Prop}
theorem fr.chg {h' : Heap} {t : Nat} {ch a : Addr} {u : Value} (kb : ∀ b o,b ≠ ch → s.heap.get? b = some o → h'.get? b = some o) (hM : ch ∈ Mu) (hk : ch = env.locals ∨ ∃ v,s.heap.IsCell ch v) (hn : ∃ m,s.heap.Ns env.locals m) (kr : aI (hideAll s.heap H) (hideAll h' H)) :
  ∀ {av : AV},fr X env H Mu s a av u → fr X env H Mu { s with heap:=h',toks:=t } a av u
 | .val _,h =>h.elim
 | .own _,⟨us,e1,⟨o,ho,e2⟩,e3,e4,e5,e6⟩ =>⟨us,e1,⟨o,kb _ _ (fun h =>(by
   rcases hk with hk | ⟨v,o2,h2,hd⟩
   ·exact e5 (h.trans hk)
   ·simp only [← h,ho] at h2; obtain rfl:=oj h2
    obtain ⟨_,_,_,hd'⟩:=e2
    rw [hd] at hd'; cases hd')) ho,e2⟩,e3,e4,e5,e6⟩
 | .inst _ _,⟨ix,Ca,es,n,e1,e2,e3,e4,e5,e6,e7,e8,e9⟩ =>⟨ix,Ca,es,n,e1,e2,kb _ _ (fun h =>e7 (h ▸ hM)) e3,kb _ _ (fun h =>(by
   rcases hk with hk | ⟨v,o2,h2,hd⟩
   ·exact e8 (h.trans hk)
   ·simp only [← h,e4] at h2; obtain rfl:=oj h2
    cases hd)) e4,e5,e6,e7,e8,e9.mono kr⟩
theorem aO.map {s' : Shared} (f : ∀ {a : Addr} {u : Value} {av : AV},fr X env H Mu s a av u → fr X env H Mu s' a av u) (kr : aI (hideAll s.heap H) (hideAll s'.heap H)) : ∀ {as : List AV} {us : List Value} {P : List Addr},aO X env H Mu s as us P → aO X env H Mu s' as us P
 | [],_,_,h =>h
 | .val _ :: _,_,_,⟨u,r,e1,e2,e3⟩ =>⟨u,r,e1,e2.mono kr,aO.map f kr e3⟩
 | .own _ :: _,_,_,⟨u,r,a,P',e1,e2,e3,e4⟩ =>⟨u,r,a,P',e1,e2,f e3,aO.map f kr e4⟩
 | .inst _ _ :: _,_,_,⟨u,r,a,P',e1,e2,e3,e4⟩ =>⟨u,r,a,P',e1,e2,f e3,aO.map f kr e4⟩
theorem store_av {Q : Unit → Shared → Prop} {x : Str} {av : AV} {u : Value} {W : List Addr} (S : St (X.p (W ++ P)) sc env H Mu g s) (F : Fm (X.p (W ++ P)) B Hc H Mu env s) (hx : gu sc x av = true) (hnd : (W ++ P).Nodup) (pd : aO X env H Mu s [av] [u] W)
  (q : ∀ s',Nw (X.p P) B Hc sc env H Mu (ae x av g) s s' → (∀ as us R,aO X env H Mu s as us R → aO X env H Mu s' as us R) → Q () s') : wpAny (model X.prog X.w) A (storeName env x u) Q E s:=by
 have hxs : fk sc x = true ∧ (isVal av = true ∨ sc.names.lookup x = some .local):=by
  unfold gu at hx
  simpa only [Bool.and_eq_true,Bool.or_eq_true,beq_iff_eq] using hx
 have SP:=S.weak (P':=P) fun a h =>List.mem_append_right _ h
 have FP:=F.p P
 refine bc fun hN =>?_
 obtain ⟨m,ad,hn,hd,inj,hself⟩:=id S.held
 refine hN ?_; clear hN
 have hself' : Side (X.p P) sc g m ad:=⟨hself.1,fun y hy hc hm =>hself.2 y hy hc (List.mem_append_right _ hm)⟩
 have hd' : ∀ x av,ax sc x = true → g.lookup x = some av → cD (X.p P) env H Mu s.heap m (ad x) x av:=fun x av hx hl =>(hd x av hx hl).p P
 have local_ (hk : env.kindOf x = some .local) (a' : Addr) (hv : ∀ h',aI (hideAll s.heap H) (hideAll h' H) → (∀ b o,b ≠ env.locals → s.heap.get? b = some o → h'.get? b = some o) → cD (X.p P) env H Mu h' (fun y =>if y = x then some u else m y) a' x av)
   (hi : aV (some av) → a' ∉ P ∧ ∀ y,ax sc y = true → aV (g.lookup y) → ad y ≠ a') : wpAny (model X.prog X.w) A (storeName env x u) Q E s:=by
  refine wpAny_storeName_local hk hn (fun h' hn' hs =>q _ (store_local (a':=a') SP FP hxs.1 hn hd' inj hself' hn' hs (fun kr kb =>hv h' kr kb) hi) fun as us R hp =>?_) (by rw [S.kind]; rfl)
  have kb : ∀ b o,b ≠ env.locals → s.heap.get? b = some o → h'.get? b = some o:=fun b o hb e =>hs.extBut b o hb e
  have kr : aI (hideAll s.heap H) (hideAll h' H):=dS kb (.inr fun o e =>ce hn e)
  exact hp.map (fr.chg kb F.loc.1 (.inl rfl) ⟨m,hn⟩ kr) kr
 cases av with
 | val v =>
  refine bc fun hN =>?_
  obtain ⟨u',r,e1,e2,e3⟩:=pd
  refine hN ?_; clear hN
  cases e1
  rcases sto_cases S hxs.1 with h | ⟨h,c,hc⟩
  ·exact local_ h 0 (fun h' kr _ =>⟨u,.inl ⟨h,by simp⟩,e2.mono kr⟩) fun h =>h.elim
  ·refine bc fun hN =>?_
   obtain ⟨hcM,v0,hv0⟩:=F.cell x c hc
   refine hN ?_; clear hN
   refine wpAny_storeName_cell S.kind h hc hv0 fun h' hn' hs =>q _ (store_cell SP FP hxs.1 h hc hn' hs e2) fun as us R hp =>?_
   have kb : ∀ b o,b ≠ c → s.heap.get? b = some o → h'.get? b = some o:=fun b o hb e =>hs.extBut b o hb e
   have kr : aI (hideAll s.heap H) (hideAll h' H):=dS kb (.inr fun o e ⟨_,_,hq⟩ =>by
    refine bc fun hN =>?_
    obtain ⟨o',e',hd'⟩:=hv0
    refine hN ?_; clear hN
    rw [e'] at e; obtain rfl:=oj e
    rw [hd'] at hq; cases hq)
   exact hp.map (fr.chg kb hcM (.inr ⟨v0,hv0⟩) ⟨m,hn⟩ kr) kr
 | own xs =>
  refine bc fun hN =>?_
  obtain ⟨u',r,a,P',e1,e2,⟨us,e3,e4,e5,e6,e7,e8⟩,e9⟩:=pd
  refine hN ?_; clear hN
  cases e1
  refine bc fun hN =>?_
  obtain ⟨_,rfl⟩:=e9
  subst e2
  have hloc : sc.names.lookup x = some .local:=by
   rcases hxs.2 with h | h
   ·cases h
   ·exact h
  have hk:=S.kinds.loc x hloc
  obtain ⟨o,ho,hrest⟩:=e4
  refine hN ?_; clear hN
  refine local_ hk a (fun h' kr kb =>⟨us,hk,by simp [e3],⟨o,kb _ _ e7 ho,hrest⟩,e5,e6,e8 _⟩) fun _ =>⟨fun hm =>?_,fun y hy hc h =>hself.2 y hy hc (h ▸ .head _)⟩
  exact (List.nodup_cons.mp hnd).1 hm
 | inst C fl =>
  refine bc fun hN =>?_
  obtain ⟨u',r,a,P',e1,e2,⟨ix,Ca,es,n,e3,e4,e5,e6,e7,e8,e9,e10,e11⟩,e12⟩:=pd
  refine hN ?_; clear hN
  cases e1
  refine bc fun hN =>?_
  obtain ⟨_,rfl⟩:=e12
  refine hN ?_; clear hN
  subst e2
  have hloc : sc.names.lookup x = some .local:=by
   rcases hxs.2 with h | h
   ·cases h
   ·exact h
  have hk:=S.kinds.loc x hloc
  refine local_ hk a (fun h' kr kb =>⟨ix,Ca,es,n,.inl ⟨hk,by simp [e3]⟩,e4,kb _ _ (fun h =>e9 (h ▸ F.loc.1)) e5,kb _ _ e10 e6,e7,e8,e9,e10,e11.mono kr⟩) fun _ =>⟨fun hm =>?_,fun y hy hc h =>hself.2 y hy hc (h ▸ .head _)⟩
  exact (List.nodup_cons.mp hnd).1 hm
theorem aO.split {av : AV} {as : List AV} {us : List Value} {P : List Addr} (h : aO X env H Mu s (av :: as) us P) : ∃ u r W P',us = u :: r ∧ P = W ++ P' ∧ aO X env H Mu s [av] [u] W ∧ aO X env H Mu s as r P':=by
 cases av with
 | val v =>obtain ⟨u,r,e1,e2,e3⟩:=h; exact ⟨u,r,[],P,e1,rfl,⟨u,[],rfl,e2,rfl,rfl⟩,e3⟩
 | own xs =>obtain ⟨u,r,a,P',e1,e2,e3,e4⟩:=h; exact ⟨u,r,[a],P',e1,e2,⟨u,[],a,[],rfl,rfl,e3,rfl,rfl⟩,e4⟩
 | inst C fl =>obtain ⟨u,r,a,P',e1,e2,e3,e4⟩:=h; exact ⟨u,r,[a],P',e1,e2,⟨u,[],a,[],rfl,rfl,e3,rfl,rfl⟩,e4⟩
theorem Nw.trans {g' : Gam} {s' s'' : Shared} {X' : Gx} (a : Nw X' B Hc sc env H Mu g s s') (b : Nw X B Hc sc env H Mu g' s' s'') : Nw X B Hc sc env H Mu g' s s'' :=
 ⟨b.1,b.2.1,a.2.2.1.trans b.2.2.1 fun _ h =>.inl h,a.2.2.2.trans b.2.2.2⟩
theorem store_all {α : Type} (st : α → Value → Sem Unit) : ∀ {xs : List α} {nm : α → Str} {as : List AV} {us : List Value} {P : List Addr} {g : Gam} {s : Shared} {Q : Unit → Shared → Prop} (_ : ∀ (x : α) (u : Value) (s : Shared) (Q : Unit → Shared → Prop),x ∈ xs → wpAny (model X.prog X.w) A (storeName env (nm x) u) Q E s → wpAny (model X.prog X.w) A (st x u) Q E s),
  St (X.p P) sc env H Mu g s → Fm (X.p P) B Hc H Mu env s → cS sc (xs.map nm) as = true → P.Nodup → aO X env H Mu s as us P →
  (∀ s',Nw (X.p []) B Hc sc env H Mu (fb (xs.map nm) as g) s s' → Q () s') → wpAny (model X.prog X.w) A (assignInOrder (xs.map st) us) Q E s
 | [],nm,[],us,P,g,s,Q,_,S,F,_,_,pd,q =>by
  obtain ⟨rfl,rfl⟩:=pd
  exact wpAny_assignInOrder_none (q s ⟨S,F,Mv.of_kp (Kp.refl s),fun _ _ e _ =>e⟩)
 | [],_,_ :: _,_,_,_,_,_,_,_,_,h,_,_,_ =>by cases h
 | _ :: _,_,[],_,_,_,_,_,_,_,_,h,_,_,_ =>by cases h
 | x :: xs,nm,a :: as,us,P,g,s,Q,hst,S,F,h,hnd,pd,q =>by
  simp only [List.map_cons,cS,Bool.and_eq_true] at h
  refine bc fun hN =>?_
  obtain ⟨u,r,W,P',rfl,rfl,p1,p2⟩:=pd.split
  refine hN ?_; clear hN
  refine wpAny_assignInOrder_more (hst x u s _ (.head _) (store_av S F h.1 hnd p1 fun s' N hp =>?_))
  exact store_all st (fun y u s Q hy hw =>hst y u s Q (.tail _ hy) hw) N.1 N.2.1 h.2 (List.nodup_append.mp hnd).2.1 (hp _ _ _ p2) fun s'' N' =>q s'' (N.trans N')
end
theorem gb : ∀ {ts : List Expr} {xs : List Str} {env : Env},az aN ts = some xs → (assignEach ts env).length = xs.length ∧ (assignEach ts env).findIdx? (·.1) = none ∧ ∃ ps : List Pos,ps.length = xs.length ∧ (assignEach ts env).map (·.2) = (xs.zip ps).map fun p =>assign (.Name p.1 p.2) env
 | [],xs,env,h =>by
  simp only [az,Option.some.injEq] at h; subst h
  exact ⟨rfl,rfl,[],rfl,rfl⟩
 | t :: ts,xs,env,h =>by
  unfold az at h
  split at h
  ·rename_i x hx
   refine bc fun hN =>?_
   refine au h fun xs' hx' hEqq2 =>?_
   subst hEqq2
   obtain ⟨p,rfl⟩:=aT hx
   obtain ⟨h1,h2,ps,h3,h4⟩:=gb (env:=env) hx'
   refine hN ?_; clear hN
   refine ⟨?_,?_,p :: ps,by simp [h3],?_⟩
   ·show ((false,assign (.Name x p) env) :: assignEach ts env).length = _
    simp [h1]
   ·show ((false,assign (.Name x p) env) :: assignEach ts env).findIdx? (·.1) = none
    simp only [List.findIdx?_cons,h2]; rfl
   ·show ((false,assign (.Name x p) env) :: assignEach ts env).map (·.2) = _
    simp [h4]
  ·exact nS h
theorem d9 : ∀ {xs : List Str} {as : List AV} {g : Gam} (y : Str),xs.Nodup → xs.length = as.length → (fb xs as g).lookup y = ((xs.zip as).lookup y).or (g.lookup y)
 | [],[],g,y,_,_ =>rfl
 | [],_ :: _,_,_,_,h =>by simp at h
 | _ :: _,[],_,_,_,h =>by simp at h
 | x :: xs,a :: as,g,y,hn,hl =>by
  obtain ⟨h1,h2⟩:=List.nodup_cons.mp hn
  show (fb xs as (ae x a g)).lookup y = _
  simp only [d9 y h2 (by simpa using hl),aY,List.zip_cons_cons,List.lookup_cons]
  by_cases hy : y = x
  ·subst hy
   have : (xs.zip as).lookup y = none:=by
    cases e : (xs.zip as).lookup y with
    | none =>rfl
    | some v =>exact absurd (List.of_mem_zip (aJ e)).1 h1
   rw [this]; simp
  ·have : (y == x) = false:=by simpa using hy
   simp only [this,if_neg hy]
theorem dL {sc : Scope} : ∀ {xs : List Str} {as : List AV},cS sc xs as = true → xs.length = as.length
 | [],[],_ =>rfl
 | [],_ :: _,h =>by cases h
 | _ :: _,[],h =>by cases h
 | x :: xs,a :: as,h =>by
  exact congrArg Nat.succ (dL (Bool.and_eq_true_iff.mp h).2)
theorem gr {sc : Scope} : ∀ {xs ys : List Str} {as bs : List AV},cS sc xs as = true → cS sc ys bs = true → cS sc (xs ++ ys) (as ++ bs) = true
 | [],_,[],_,_,h =>h
 | [],_,_ :: _,_,h,_ =>by cases h
 | _ :: _,_,[],_,h,_ =>by cases h
 | x :: xs,ys,a :: as,bs,h,h' =>by
  have h:=Bool.and_eq_true_iff.mp h
  exact Bool.and_eq_true_iff.mpr ⟨h.1,gr h.2 h'⟩
theorem fM {sc : Scope} : ∀ {xs : List Str} {as : List AV},cS sc xs as = true → cS sc xs.reverse as.reverse = true
 | [],[],h =>h
 | [],_ :: _,h =>by cases h
 | _ :: _,[],h =>by cases h
 | x :: xs,a :: as,h =>by
  have h:=Bool.and_eq_true_iff.mp h
  rw [List.reverse_cons,List.reverse_cons]
  exact gr (fM h.2) (Bool.and_eq_true_iff.mpr ⟨h.1,rfl⟩)
theorem nodup_rev {α : Type} {l : List α} (h : l.Nodup) : l.reverse.Nodup:=(List.reverse_perm l).symm.nodup h
theorem zip_rev {α β : Type} : ∀ {xs : List α} {as : List β},xs.length = as.length → xs.reverse.zip as.reverse = (xs.zip as).reverse
 | [],[],_ =>rfl
 | [],_ :: _,h =>by simp at h
 | _ :: _,[],h =>by simp at h
 | x :: xs,a :: as,h =>by
  have h' : xs.length = as.length:=by simpa using h
  rw [List.reverse_cons,List.reverse_cons,List.zip_append (by simpa using h'),zip_rev h']
  simp
section
variable {X : Gx} {G : Ge} {N n : Nat} {B : Heap} {Hc H Mu : List Addr} {sc : Scope} {env : Env} {g g' : Gam} {s : Shared} {P : List Addr} {A : Around} {E : Value → Shared → Prop}
theorem St.congr (S : St X sc env H Mu g s) (h : ∀ y,g'.lookup y = g.lookup y) : St X sc env H Mu g' s:=by
 refine bc fun hN =>?_
 obtain ⟨m,ad,hn,hd,inj,h1,h2⟩:=S.held
 refine hN ?_; clear hN
 exact ⟨S.base,S.kind,S.glob,S.blt,S.kinds,S.ho,m,ad,hn,fun x av hx hl =>hd x av hx (by rw [← h]; exact hl),fun x y hx hy c1 c2 =>inj x y hx hy (by rw [← h]; exact c1) (by rw [← h]; exact c2),h1,fun y hy c =>h2 y hy (by rw [← h]; exact c)⟩
theorem Nw.congr {s' : Shared} (N : Nw X B Hc sc env H Mu g s s') (h : ∀ y,g'.lookup y = g.lookup y) : Nw X B Hc sc env H Mu g' s s':=⟨N.1.congr h,N.2⟩
theorem names_ok {Q : Unit → Shared → Prop} {ts : List Expr} {xs : List Str} {as : List AV} {us : List Value} (S : St (X.p P) sc env H Mu g s) (F : Fm (X.p P) B Hc H Mu env s) (hx : az aN ts = some xs) (h : cS sc xs as = true) (hnd : P.Nodup) (pd : aO X env H Mu s as us P)
  (q : ∀ s',Nw (X.p []) B Hc sc env H Mu (fb xs as g) s s' → Q () s') : wpAny (model X.prog X.w) A (assignInOrder ((assignEach ts env).map (·.2)) us) Q E s:=by
 refine bc fun hN =>?_
 obtain ⟨_,_,ps,h3,h4⟩:=gb (env:=env) hx
 refine hN ?_; clear hN
 rw [h4]
 have hm : (xs.zip ps).map (·.1) = xs:=List.map_fst_zip (by lia)
 refine store_all (fun (p : Str × Pos) =>assign (.Name p.1 p.2) env) (nm:=fun p =>p.1) (fun x u s Q _ hw =>assign_Name hw) S F (by rw [hm]; exact h) hnd pd fun s' N' =>q s' ?_
 rw [hm] at N'; exact N'
theorem names_rev {Q : Unit → Shared → Prop} {xs : List Str} {as : List AV} {us : List Value} (S : St (X.p P) sc env H Mu g s) (F : Fm (X.p P) B Hc H Mu env s) (h : cS sc xs as = true) (hxn : xs.Nodup) (hnd : P.Nodup) (pd : aO X env H Mu s as us P)
  (q : ∀ s',Nw (X.p []) B Hc sc env H Mu (fb xs as g) s s' → Q () s') : wpAny (model X.prog X.w) A (assignInOrder (xs.reverse.map fun n =>bindName env n) us.reverse) Q E s:=by
 have hl:=dL h
 refine store_all (fun n =>bindName env n) (nm:=id) (P:=P.reverse) (fun x u s Q _ hw =>bindName_ hw) (S.weak fun a ha =>List.mem_reverse.mp ha) (F.p _) (by rw [List.map_id]; exact fM h) (nodup_rev hnd) pd.reverse fun s' N' =>q s' ?_
 rw [List.map_id] at N'
 refine N'.congr fun y =>?_
 rw [d9 y hxn hl,d9 y (nodup_rev hxn) (by simpa using hl),zip_rev hl]
 congr 1
 exact (lookup_reverse_of_nodup _ (by rw [List.map_fst_zip (by lia)]; exact hxn) y).symm
theorem aO.live {s : Shared} : ∀ {as : List AV} {us : List Value} {P : List Addr},aO X env H Mu s as us P → ∀ a ∈ P,∃ o,s.heap.get? a = some o
 | [],_,_,⟨_,rfl⟩,_,h =>by cases h
 | .val _ :: _,_,_,⟨_,_,_,_,e⟩,a,h =>aO.live e a h
 | .own _ :: _,_,_,⟨_,_,b,_,_,e2,⟨_,_,⟨o,ho,_⟩,_,_,_,_⟩,e⟩,a,h =>by
  rw [e2] at h
  rcases List.mem_cons.mp h with h | h
  ·exact ⟨o,h ▸ ho⟩
  ·exact aO.live e a h
 | .inst _ _ :: _,_,_,⟨_,_,b,_,_,e2,⟨_,_,_,_,_,_,_,ho,_,_,_,_,_⟩,e⟩,a,h =>by
  rw [e2] at h
  rcases List.mem_cons.mp h with h | h
  ·exact ⟨_,h ▸ ho⟩
  ·exact aO.live e a h
theorem starEach_plainR {o : Bool} {e : Expr} {es : List Expr} {av : AV} (h : evR n G sc g o e = some av) : starEach (e :: es) env = (false,eval e env) :: starEach es env:=by
 cases e
 case Starred a p =>
  have h : (if (o && false) = true then some (.own []) else (ev n G sc g (.Starred a p)).map .val) = some av:=h
  rw [Bool.and_false,if_neg Bool.false_ne_true] at h
  refine bc fun hN =>?_
  refine au h fun v hv _ =>?_
  refine hN ?_; clear hN
  cases n <;> exact nomatch (show (Option.none : Option V) = some v from hv)
 all_goals rfl
theorem rs_ok (hG : GOk2 X G N) (hA : Room A (N + n)) {p : Pos} {f : Expr × Expr → Bool} : ∀ {ps : List (Expr × Expr)} {as : List AV} {P : List Addr} {H Mu : List Addr} {s : Shared} {Q : List Value → Shared → Prop},St (X.p P) sc env H Mu g s → Fm (X.p P) B Hc H Mu env s → az (fun (q : Expr × Expr) =>evR n G sc g (f q) q.2) ps = some as →
  (∀ us s' H' Mu' W,St (X.p (P ++ W)) sc env H' Mu' g s' → Fm (X.p (P ++ W)) B Hc H' Mu' env s' → Ext s H Mu s' H' Mu' → (∀ a ∈ W,s.heap.get? a = none) → W.Nodup → aO X env H' Mu' s' as us W → Q us s') →
  wpAny (model X.prog X.w) A (spliced (backTo p (starEach (ps.map (·.2)) env))) Q E s
 | [],as,P,H,Mu,s,Q,S,F,h,q =>by
  simp only [az,Option.some.injEq] at h; subst h
  exact spliced_nil (q [] s H Mu [] (by rw [List.append_nil]; exact S) (by rw [List.append_nil]; exact F) (Ext.of_kp (Kp.refl s)) (fun a h =>by cases h) List.nodup_nil ⟨rfl,rfl⟩)
 | (t,e) :: ps,as,P,H,Mu,s,Q,S,F,h,q =>by
  unfold az at h
  split at h
  ·rename_i av hav
   refine bc fun hN =>?_
   refine au h fun as' has hEqq2 =>?_
   subst hEqq2
   refine hN ?_; clear hN
   simp only [List.map_cons,starEach_plainR hav]
   refine spliced_cons (evR_ok hG S F hA hav fun u s1 H1 Mu1 W1 S1 F1 e1 w1 n1 p1 =>?_)
   refine rs_ok hG hA S1 F1 has fun us s2 H2 Mu2 W2 S2 F2 e2 w2 n2 p2 =>?_
   refine q (u :: us) s2 H2 Mu2 (W1 ++ W2) (by rw [← List.append_assoc]; exact S2) (by rw [← List.append_assoc]; exact F2) (e1.trans e2) (fun a ha =>?_) (List.nodup_append.mpr ⟨n1,n2,fun a ha b hb hab =>?_⟩) ((p1.ext e2).append p2)
   ·rcases List.mem_append.mp ha with h | h
    ·exact w1 a h
    ·exact aG e1.kp (w2 a h)
   ·subst hab
    obtain ⟨o,ho⟩:=p1.live a ha
    rw [w2 a hb] at ho; exact nS ho
  ·exact nS h
end
theorem gl {f : Expr → Option Str} (hf : ∀ e x,f e = some x → aN e = some x) : ∀ {ts : List Expr},(ts.filterMap f).length = ts.length → az aN ts = some (ts.filterMap f)
 | [],_ =>rfl
 | t :: ts,h =>by
  cases e : f t with
  | none =>
   rw [List.filterMap_cons_none e] at h
   have:=List.length_filterMap_le f ts
   simp at h; lia
  | some x =>
   rw [List.filterMap_cons_some e] at h ⊢
   have:=gl hf (ts:=ts) (by simpa using h)
   unfold az
   simp only [hf t x e,this]; rfl
theorem gv {ts es : List Expr} {k k2 : Nat} {tp vp : Pos} {env : Env} (hsw : swOk es = true) :
  swappedStores [.Tuple ts k tp] (.Tuple es k2 vp) env = pure none ∨ ∃ names,swappedStores [.Tuple ts k tp] (.Tuple es k2 vp) env = pure (some names) ∧ az aN ts = some names:=by
 unfold swappedStores
 dsimp only
 split
 ·exact .inl rfl
 ·split
  ·exact .inl rfl
  ·split
   ·exact .inl rfl
   ·rename_i hlen
    split
    ·exact .inl rfl
    ·rename_i hf
     split
     ·rename_i hc
      unfold swOk at hsw
      rw [hc] at hsw
      rw [Bool.eq_false_iff.mpr hf] at hsw
      cases hsw
     ·refine .inr ⟨_,rfl,gl (fun e x h =>?_) ?_⟩
      ·cases e <;> try exact nS h
       simp only at h
       split at h
       ·obtain rfl:=oj h; rfl
       ·exact nS h
      ·simp only [Bool.or_eq_true,bne_iff_ne,not_or,Decidable.not_not] at hlen
       exact hlen.1
theorem mapO_len {α β : Type} {f : α → Option β} : ∀ {l : List α} {r : List β},az f l = some r → l.length = r.length
 | [],r,h =>by simp only [az,Option.some.injEq] at h; subst h; rfl
 | a :: l,r,h =>by
  unfold az at h
  split at h
  ·refine au h fun r' h' hEqq2 =>?_
   subst hEqq2
   simp [mapO_len h']
  ·exact nS h
section
variable {X : Gx} {G : Ge} {N n : Nat} {B : Heap} {Hc H Mu : List Addr} {sc : Scope} {env : Env} {g g' : Gam} {s : Shared} {A : Around} {E : Value → Shared → Prop}
theorem tup_eval (hX : X.p [] = X) (hG : GOk2 X G N) (hA : Room A (N + n)) {f : Expr × Expr → Bool} {ts es : List Expr} {as : List AV} {k : Nat} {vp : Pos} {Q : Value → Shared → Prop} (S : St X sc env H Mu g s) (F : Fm X B Hc H Mu env s) (hl : ts.length = es.length) (hz : es.length ≤ 30)
  (h : az (fun (q : Expr × Expr) =>evR n G sc g (f q) q.2) (ts.zip es) = some as)
  (q : ∀ T us s' H' Mu' W,St (X.p W) sc env H' Mu' g s' → Fm (X.p W) B Hc H' Mu' env s' → Ext s H Mu s' H' Mu' → W.Nodup → aO X env H' Mu' s' as us W → s'.heap.IsTuple T us.toArray → us.length = as.length → Q (.ref T) s') :
  wpAny (model X.prog X.w) A (eval (.Tuple es k vp) env) Q E s:=by
 have hes : (ts.zip es).map (·.2) = es:=List.map_snd_zip (by lia)
 have hlen:=mapO_len h
 refine Tuple_ ?_
 rw [← hes]
 refine rs_ok (P:=[]) hG hA (hX ▸ S) (hX ▸ F) h fun us s' H' Mu' W S' F' e w nd pd =>?_
 have hul:=pd.length
 refine wpAny_newObj_type ?_ ?_
 ·have k0 : Kp s' { s' with heap:=s'.heap.push { cls:=.type "tuple",data:=.seq us.toArray } }:=Kp.push _
  exact q _ us _ H' Mu' W (S'.kp k0) (F'.kp k0) (e.trans (Ext.of_kp k0)) nd (pd.ext (Ext.of_kp k0)) ⟨_,Heap.get?_push_size _ rfl,rfl,_,rfl⟩ hul
 ·show us.toArray.size ≤ sizeLine
  have h1 : (ts.zip es).length ≤ 30:=by rw [List.length_zip]; lia
  have h2:=cL
  have h3 : (30 : Nat) ≤ lid:=by decide
  rw [List.size_toArray]
  exact Nat.le_trans (by lia : us.length ≤ 30) (Nat.le_trans h3 h2)
theorem nx_of {s' s'' : Shared} {H' Mu' : List Addr} {X' : Gx} (e : Ext s H Mu s' H' Mu') (N : Nw X' B Hc sc env H' Mu' g' s' s'') : Nx X' B Hc sc env Mu g' s s'' :=
 Nx.trans (Mv.of_kp e.kp) e.hM' N.nx
theorem gd {h' : Heap} (he : Heap.ExtBut s.heap.objs.size s.heap h') : Kp s { s with heap:=h' }:=Kp.mk' (t:=s.toks) fun b o e =>he b o (Nat.ne_of_lt (Heap.lt_size e)) e
theorem tupNames_ok (hX : X.p [] = X) (hG : GOk2 X G N) (hA : Room A (N + n)) {f : Expr × Expr → Bool} {ts es : List Expr} {xs : List Str} {as : List AV} {k k2 : Nat} {tp vp pos : Pos} (S : St X sc env H Mu g s) (F : Fm X B Hc H Mu env s) (hl : ts.length = es.length) (hz : es.length ≤ 30) (hsw : swOk es = true)
  (h : az (fun (q : Expr × Expr) =>evR n G sc g (f q) q.2) (ts.zip es) = some as) (hx : az aN ts = some xs) (hs : cS sc xs as = true) (hn : xs.Nodup) :
  wpAny (model X.prog X.w) A (exec (.Assign [.Tuple ts k tp] (.Tuple es k2 vp) pos) env) (fun fl s' =>FlP X B Hc sc env Mu s (.next (fb xs as g)) fl s') E s:=by
 rcases gv (ts:=ts) (k:=k) (k2:=k2) (tp:=tp) (vp:=vp) (env:=env) hsw with hw | ⟨names,hw,hnm⟩
 ·refine Assign_Tuple (tup_eval hX hG hA S F hl hz h fun T us s' H' Mu' W S' F' e nd pd ht hul =>?_) rfl hw
  refine bc fun hN =>?_
  obtain ⟨h1,h2,_⟩:=gb (env:=env) hx
  refine hN ?_; clear hN
  refine wpAny_assign_Tuple hA.hh ht (by have:=dL hs; rw [List.size_toArray]; lia) h2 fun h' he =>?_
  have k0:=gd he
  refine names_ok (S'.kp k0) (F'.kp k0) hx hs nd (pd.ext (Ext.of_kp k0)) fun s'' N =>⟨rfl,?_⟩
  rw [hX] at N
  exact nx_of (e.trans (Ext.of_kp k0)) N
 ·rw [hx] at hnm; obtain rfl:=oj hnm
  refine Assign_Tuple_swapped (tup_eval hX hG hA S F hl hz h fun T us s' H' Mu' W S' F' e nd pd ht hul =>?_) rfl hw
  have hsz : xs.length = us.toArray.size:=by have:=dL hs; rw [List.size_toArray]; lia
  rw [hsz]
  refine wpAny_unpackItems_tuple hA.hh ht fun h' he =>?_
  have k0:=gd he
  refine names_rev (S'.kp k0) (F'.kp k0) hs hn nd (pd.ext (Ext.of_kp k0)) fun s'' N =>⟨rfl,?_⟩
  rw [hX] at N
  exact nx_of (e.trans (Ext.of_kp k0)) N
theorem pends_vals {s : Shared} : ∀ {vs : List V} {us : List Value},Reps (hideAll s.heap H) vs us → aO X env H Mu s (vs.map .val) us []
 | [],us,r =>by unfold Reps at r; exact ⟨r,rfl⟩
 | v :: vs,us,r =>by
  unfold Reps at r
  refine bc fun hN =>?_
  obtain ⟨u,r',e,h1,h2⟩:=r
  refine hN ?_; clear hN
  exact ⟨u,r',e,h1,pends_vals h2⟩
theorem bind_ok (hX : X.p [] = X) {t : Expr} {v : V} {u : Value} {Q : Unit → Shared → Prop} (hh : A.handled = none) (S : St X sc env H Mu g s) (F : Fm X B Hc H Mu env s) (h : cg sc t v g = some g') (r : Rep (hideAll s.heap H) v u)
  (q : ∀ s' s'',Kp s s' → Nw X B Hc sc env H Mu g' s' s'' → Q () s'') : wpAny (model X.prog X.w) A (assign t env u) Q E s:=by
 unfold cg at h
 cases hn : aN t with
 | some x =>
  rw [hn] at h
  obtain ⟨p,rfl⟩:=aT hn
  refine aE h fun hx h =>?_
  obtain rfl:=oj h
  exact assign_Name (gh S F hx r fun s'' N =>q s s'' (Kp.refl s) N)
 | none =>
  rw [hn] at h
  refine bc fun hN =>?_
  refine aa h fun ts ht h =>?_
  refine aa h fun vs hv h =>?_
  refine aa h fun xs hx h =>?_
  refine aE h fun hs h =>?_
  obtain rfl:=oj h
  obtain ⟨k,p,rfl⟩:=ff ht
  obtain rfl:=gi hv
  unfold Rep at r
  obtain ⟨T,us,rfl,ht,rs⟩:=r
  have ht' : s.heap.IsTuple T us.toArray:=bZ ht
  obtain ⟨h1,h2,_⟩:=gb (env:=env) hx
  refine hN ?_; clear hN
  refine wpAny_assign_Tuple hh ht' (by have:=dL hs; have:=rs.length; rw [List.size_toArray]; simp at *; lia) h2 fun h' he =>?_
  have k0:=gd he
  refine names_ok (P:=[]) (hX ▸ S.kp k0) (hX ▸ F.kp k0) hx hs List.nodup_nil (pends_vals (rs.kp k0)) fun s'' N =>q _ s'' k0 (hX ▸ N)
end
section
variable {X : Gx} {G : Ge} {N n : Nat} {B : Heap} {Hc H Mu : List Addr} {sc : Scope} {env : Env} {g g' : Gam} {s : Shared} {A : Around} {E : Value → Shared → Prop}
theorem St.irrP {c : Addr → Prop} {h' : Heap} {t : Nat} (S : St X sc env H Mu g s) (F : Fm X B Hc H Mu env s) (kb : ∀ b o,¬ c b → s.heap.get? b = some o → h'.get? b = some o) (hM : ∀ a ∈ Mu,¬ c a) (hB : ∀ a o,B.get? a = some o → ¬ c a)
  (hc : ∀ a o,c a → s.heap.get? a = some o → ¬ cV o ∧ o.data ≠ .plain) :
  St X sc env H Mu g { s with heap:=h',toks:=t } ∧ Fm X B Hc H Mu env { s with heap:=h',toks:=t } ∧ aI (hideAll s.heap H) (hideAll h' H):=by
 refine bc fun hN =>?_
 obtain ⟨m0,ad,hn,hd,inj,hside⟩:=S.held
 refine hN ?_; clear hN
 have kr : aI (hideAll s.heap H) (hideAll h' H):=fun b o e hq =>hideAll_get H (kb b o (fun hb =>(hc b o hb (of_hideAll H e)).1 hq) (of_hideAll H e)) (bq e)
 have kB : Sub B h':=fun b o e =>kb b o (hB b o e) (F.keep b o e)
 have hH : ∀ a ∈ H,¬ c a:=fun a ha =>by
  rcases F.hmu a ha with h1 | h1
  ·obtain ⟨o,e⟩:=F.hcb a h1
   exact hB a o e
  ·exact hM a h1
 refine ⟨⟨fun b o e =>kB b o (F.b0 b o e),S.kind,S.glob,S.blt,S.kinds,fun a ha =>?_,m0,ad,hn.at' fun o e =>kb _ o (hM _ F.loc.1) e,fun y av hy hl =>?_,inj,hside⟩,⟨F.b0,kB,F.mu,fun a ha =>?_,F.hmu,F.hc,F.hcb,fun a ha hn o e =>?_,F.loc,fun x d h2 =>?_,F.cinj⟩,kr⟩
 ·obtain ⟨o,e⟩:=S.ho a ha; exact ⟨o,kb a o (hH a ha) e⟩
 ·refine cD.toP kb kr (fun _ =>rfl) (fun c' v' hx _ =>hM _ (F.cell _ _ hx).1) (fun ix o e hix hpl h =>(hc ix o h e).2 hpl) (fun _ h =>h) (fun _ h =>.inl h) (fun _ h =>h) (fun _ h =>.inl h) (fun hcore =>?_) (hd y av hy hl)
  have hh:=hd y av hy hl
  cases av with
  | val v =>exact hcore.elim
  | own xs =>obtain ⟨us,_,_,_,_,hm,_⟩:=hh; exact hM _ hm
  | inst C' fl =>obtain ⟨_,_,_,_,_,_,_,_,hm,_⟩:=hh; exact hM _ hm
 ·obtain ⟨o,e⟩:=F.live a ha; exact ⟨o,kb a o (hM a ha) e⟩
 ·refine bc fun hN =>?_
  obtain ⟨o',e'⟩:=F.live a ha
  refine hN ?_; clear hN
  rw [kb a o' (hM a ha) e'] at e; obtain rfl:=oj e
  exact F.ns a ha hn _ e'
 ·refine bc fun hN =>?_
  obtain ⟨p1,v,o,ho,hdt⟩:=F.cell x d h2
  refine hN ?_; clear hN
  exact ⟨p1,v,o,kb d o (hM d p1) ho,hdt⟩
theorem St.irr {C : Addr} {m : Str → Option Value} {h' : Heap} {t : Nat} (S : St X sc env H Mu g s) (F : Fm X B Hc H Mu env s) (hC : s.heap.Ns C m) (hCM : C ∉ Mu) (hCB : B.get? C = none) (hs : Heap.SameBut C s.heap h') :
  St X sc env H Mu g { s with heap:=h',toks:=t } ∧ Fm X B Hc H Mu env { s with heap:=h',toks:=t } ∧ aI (hideAll s.heap H) (hideAll h' H) :=
 S.irrP (c:=fun b =>b = C) F (fun b o hb e =>hs.extBut b o hb e) (fun a ha h =>hCM (h ▸ ha)) (fun a o e h =>by subst h; rw [hCB] at e; exact nS e) fun a o h e =>by
  subst h
  refine ⟨ce hC e,fun hpl =>?_⟩
  obtain ⟨o',es,ep,ho,hdt,_⟩:=hC
  rw [e] at ho; obtain rfl:=oj ho
  rw [hpl] at hdt; cases hdt
theorem Fm.seqKeep {H' Mu' : List Addr} {s' : Shared} (F : Fm X B Hc H Mu env s) (F' : Fm X B Hc H' Mu' env s') (m : Mv Mu s s') (hm : ∀ a ∈ Mu',a ∈ Mu ∨ s.heap.get? a = none) : aI (hideAll s.heap H) (hideAll s'.heap H'):=fun b o e hq =>by
 have eb:=of_hideAll H e
 have hb:=bq e
 have hbM : b ∉ Mu:=fun h =>F.ns b h hb o eb hq
 refine hideAll_get H' (m.keep b o hbM eb) fun h =>?_
 rcases F'.hmu b h with h1 | h1
 ·exact hb (F.hc b h1)
 ·rcases hm b h1 with h2 | h2
  ·exact hbM h2
  ·rw [eb] at h2; cases h2
noncomputable def isComp : Expr → Bool
 | .ListComp _ _ _ _ =>true
 | .SetComp _ _ _ _ =>true
 | .DictComp _ _ _ _ _ =>true
 | _ =>false
theorem swaps_no {e : Expr} {t : Option Expr} {line : Nat} (h : isComp e = false) : swapsWith e t line env = pure false:=by
 cases e <;> first | rfl | cases h
theorem swaps_attr {e : Expr} {o : Expr} {f : Str} {p : Pos} {line : Nat} : swapsWith e (some (.Attribute o f p)) line env = pure false:=by
 cases e <;> rfl
theorem swaps_comp {elt : Expr} {gens : List Comprehension} {csc : Scope} {p : Pos} {x : Str} {px : Pos} {line : Nat} : swapsWith (.ListComp elt gens csc p) (some (.Name x px)) line env = pure true ∨ swapsWith (.ListComp elt gens csc p) (some (.Name x px)) line env = pure false:=by
 unfold swapsWith
 dsimp only
 cases (env.blockKind == .function && env.kindOf x == some .local && px.line == (Expr.ListComp elt gens csc p).pos.line && !(csc.names.any fun (n,k) =>n == x && (k == .local || k == .cell)))
 ·exact .inr rfl
 ·exact .inl rfl
theorem evR_comp {o : Bool} {e : Expr} {av : AV} (h : evR n G sc g o e = some av) (hc : isComp e = true) : ∃ elt gens csc p v,e = .ListComp elt gens csc p ∧ ev n G sc g e = some v ∧ av = .val v:=by
 have h2 : isNilL e = false → bI e = .none → ∃ v,ev n G sc g e = some v ∧ av = .val v:=fun a b =>by
  unfold evR at h
  simp only [a,b,Bool.and_false,if_neg Bool.false_ne_true] at h
  refine bc fun hN =>?_
  refine au h fun v hv hEqq2 =>?_
  subst hEqq2
  refine hN ?_; clear hN
  exact ⟨v,hv,rfl⟩
 cases e with
 | ListComp elt gens csc p =>obtain ⟨v,hv,rfl⟩:=h2 rfl rfl; exact ⟨_,_,_,_,v,rfl,hv,rfl⟩
 | SetComp a b c d =>obtain ⟨v,hv,rfl⟩:=h2 rfl rfl; cases n <;> exact nomatch (show (Option.none : Option V) = some v from hv)
 | DictComp a b c d e =>obtain ⟨v,hv,rfl⟩:=h2 rfl rfl; cases n <;> exact nomatch (show (Option.none : Option V) = some v from hv)
 | _ =>cases hc
theorem assign_plain (hX : X.p [] = X) (hG : GOk2 X G N) (hA : Room A (N + n)) {o : Bool} {x : Str} {px pos : Pos} {e : Expr} {av : AV} (S : St X sc env H Mu g s) (F : Fm X B Hc H Mu env s) (h : evR n G sc g o e = some av) (hs : gu sc x av = true) (hsw : swapsWith e (some (.Name x px)) pos.line env = pure false) :
  wpAny (model X.prog X.w) A (exec (.Assign [.Name x px] e pos) env) (fun fl s' =>FlP X B Hc sc env Mu s (.next (ae x av g)) fl s') E s:=by
 refine wpAny_Assign_Name (evR_ok (P:=[]) hG (hX ▸ S) (hX ▸ F) hA h fun u s' H' Mu' W S' F' ex w nd pd =>?_) hsw
 refine store_av (P:=[]) (W:=W) (by rw [List.append_nil]; exact S') (by rw [List.append_nil]; exact F') hs (by rw [List.append_nil]; exact nd) pd fun s'' N _ =>⟨rfl,?_⟩
 rw [hX] at N
 exact nx_of ex N
theorem assign_name (hX : X.p [] = X) (hG : GOk2 X G N) (hA : Room A (N + n)) {o : Bool} {x : Str} {px pos : Pos} {e : Expr} {av : AV} (S : St X sc env H Mu g s) (F : Fm X B Hc H Mu env s) (h : evR n G sc g o e = some av) (hs : gu sc x av = true) :
  wpAny (model X.prog X.w) A (exec (.Assign [.Name x px] e pos) env) (fun fl s' =>FlP X B Hc sc env Mu s (.next (ae x av g)) fl s') E s:=by
 cases hc : isComp e with
 | false =>exact assign_plain hX hG hA S F h hs (swaps_no hc)
 | true =>
  refine bc fun hN =>?_
  obtain ⟨elt,gens,csc,p,v,rfl,hv,rfl⟩:=evR_comp h hc
  refine hN ?_; clear hN
  rcases swaps_comp (elt:=elt) (gens:=gens) (csc:=csc) (p:=p) (x:=x) (px:=px) (line:=pos.line) (env:=env) with hsw | hsw
  ·have hxs : fk sc x = true:=by
    unfold gu at hs
    exact (Bool.and_eq_true_iff.mp hs).1
   rw [exec_Assign_Name_used _ _ _ _ hsw]
   refine wpAny_bind (wpAny_standAt (wpAny_bind ?_))
   cases n with
   | zero =>exact nomatch (show (Option.none : Option V) = some v from hv)
   | succ n =>
    refine bc fun hN =>?_
    refine aa (show ((compOf gens).bind fun c =>if compOk sc csc c.1 = true then (evI n G sc g c.2.1).bind fun xs =>if xs.length ≤ lid then (aR (compF n G csc g c.1 c.2.2 elt) xs).map .list else .none else .none) = some v from hv) fun c hcp hv2 =>?_
    refine aE hv2 fun hcok hv3 =>?_
    refine aa hv3 fun xs hxs' hv4 =>?_
    refine aL hv4 fun hz hv5 =>?_
    refine au hv5 fun tot ht hEqq2 =>?_
    subst hEqq2
    clear hv2 hv3 hv4 hv5
    obtain ⟨y,iter,ifs⟩:=c
    refine hN ?_; clear hN
    obtain ⟨py,rfl⟩ : ∃ p,gens = [⟨.Name y p,iter,ifs,0⟩]:=compOf_some hcp
    have SS:=fL hG.toGOk n
    rw [arm_evalThenUse_ListComp]
    refine wpAny_bind (wpAny_mono (comp_ok (use:=some (assign (.Name x px) env)) (Q:=fun _ s' =>FlP X B Hc sc env Mu s (.next (ae x (.val (.list tot)) g)) .next s') SS.e SS.i SS.f S hA.up (compOk_of hcok) hxs' hz ht (folded_of hxs') ?_) (fun _ s' hq =>wpAny_pure (wpAny_pure hq)) fun _ _ e =>e)
    intro u s' C k r hC hCn
    refine assign_Name (gh (S.kp k) (F.kp k) hxs r fun s'' N =>?_)
    have hCM : C ∉ Mu:=fun hm =>by obtain ⟨o,e⟩:=F.live C hm; rw [hC] at e; exact nS e
    have hCB : B.get? C = none:=by
     cases e : B.get? C with
     | none =>rfl
     | some o =>have:=F.keep C o e; rw [hC] at this; exact nS this
    refine bc fun hN =>?_
    obtain ⟨m,hCn⟩:=hCn
    refine hN ?_; clear hN
    have hCn' : s''.heap.Ns C m:=hCn.at' fun o e =>N.2.2.1.keep C o hCM e
    refine ⟨fun m' hm' =>hm'.at' fun o e =>N.2.2.1.keep C o hCM e,fun h' hs' =>⟨rfl,?_⟩⟩
    refine bc fun hN =>?_
    obtain ⟨S3,F3,kr3⟩:=N.1.irr (t:=s''.toks) N.2.1 hCn' hCM hCB hs'
    refine hN ?_; clear hN
    refine ⟨H,Mu,S3,F3,?_,fun _ h =>.inl h⟩
    refine bc fun hN =>?_
    obtain ⟨h1,t1,rfl,k1⟩:=k
    obtain ⟨h2,t2,e2,k2⟩:=N.2.2.1
    refine hN ?_; clear hN
    subst e2
    refine ⟨h',t2,rfl,fun b o hb e =>hs'.extBut b o (fun hbC =>?_) (k2 b o hb (k1 b o e))⟩
    subst hbC; rw [hC] at e; exact nS e
  ·exact assign_plain hX hG hA S F h hs hsw
end
section
variable {X : Gx} {G : Ge} {N n : Nat} {B : Heap} {Hc H Mu : List Addr} {sc : Scope} {env : Env} {g g' : Gam} {s : Shared} {A : Around} {E : Value → Shared → Prop}
theorem asg_ok (hG : GOk2 X G N) {t : Expr} {v : V} {u : Value} {Q : Unit → Shared → Prop} (S : St X sc env H Mu g s) (F : Fm X B Hc H Mu env s) (h : asg G sc t (.val v) g = some g') (r : Rep (hideAll s.heap H) v u)
  (q : ∀ s',Nw X B Hc sc env H Mu g' s s' → Q () s') : wpAny (model X.prog X.w) A (assign t env u) Q E s:=by
 cases t with
 | Name x p =>
  refine bc fun hN =>?_
  refine aE (show (if gu sc x (.val v) = true then some (ae x (.val v) g) else .none) = some g' from h) fun hs h =>?_
  refine hN ?_; clear hN
  obtain rfl:=oj h
  unfold gu at hs
  exact assign_Name (gh S F (Bool.and_eq_true_iff.mp hs).1 r q)
 | Attribute b f p =>
  refine bc fun hN =>?_
  refine aa (show ((aN b).bind fun x =>if ax sc x = true then (cz (g.lookup x)).bind (setFld G x f v g) else .none) = some g' from h) fun x hn h =>?_
  obtain ⟨px,rfl⟩:=aT hn
  refine aE h fun hx h =>?_
  refine aa h fun cf hl h =>?_
  refine aE h fun hc h =>?_
  refine hN ?_; clear hN
  obtain rfl:=oj h
  rw [Bool.and_eq_true] at hc
  exact set_ok hG S F hx (dP hl) (List.contains_iff_mem.mp hc.1) (of_decide_eq_true hc.2) r q
 | _ =>exact nomatch (show (Option.none : Option Gam) = some g' from h)
theorem asg_plain {t : Expr} {av : AV} (h : asg G sc t av g = some g') : ∀ e p,t ≠ .Starred e p:=by
 intro e p he
 subst he
 exact nomatch (show (Option.none : Option Gam) = some g' from h)
theorem asgs_ok (hG : GOk2 X G N) : ∀ {ts : List Expr} {vs : List V} {us : List Value} {g g' : Gam} {s : Shared} {Q : Unit → Shared → Prop},St X sc env H Mu g s → Fm X B Hc H Mu env s → asgs G sc ts vs g = some g' → Reps (hideAll s.heap H) vs us →
  (∀ s',Nw X B Hc sc env H Mu g' s s' → Q () s') → (assignEach ts env).length = us.length ∧ (assignEach ts env).findIdx? (·.1) = none ∧ wpAny (model X.prog X.w) A (assignInOrder ((assignEach ts env).map (·.2)) us) Q E s
 | [],[],us,g,g',s,Q,S,F,h,r,q =>by
  obtain rfl:=oj h
  unfold Reps at r; subst r
  exact ⟨rfl,rfl,wpAny_assignInOrder_none (q s ⟨S,F,Mv.of_kp (Kp.refl s),fun _ _ e _ =>e⟩)⟩
 | [],_ :: _,_,_,_,_,_,_,_,h,_,_ =>by exact nS h
 | _ :: _,[],_,_,_,_,_,_,_,h,_,_ =>by exact nS h
 | t :: ts,v :: vs,us,g,g',s,Q,S,F,h,r,q =>by
  unfold Reps at r
  refine bc fun hN =>?_
  obtain ⟨u,r',rfl,h1,h2⟩:=r
  refine aa h fun g1 ha hb =>?_
  refine hN ?_; clear hN
  have hp:=asg_plain ha
  have heach : assignEach (t :: ts) env = (false,assign t env) :: assignEach ts env:=by
   cases t <;> first | rfl | exact absurd rfl (hp _ _)
  rw [heach]
  have tl : ∀ s',Nw X B Hc sc env H Mu g1 s s' → (assignEach ts env).length = r'.length ∧ (assignEach ts env).findIdx? (·.1) = none ∧ wpAny (model X.prog X.w) A (assignInOrder ((assignEach ts env).map (·.2)) r') Q E s':=fun s' N =>asgs_ok hG N.1 N.2.1 hb (h2.mono N.2.2.2) fun s'' N' =>q s'' (N.trans N')
  -- lengths do not hang on the state
  have lens : ∀ {ts : List Expr} {vs : List V} {us : List Value} {g g' : Gam} {h : Heap},asgs G sc ts vs g = some g' → Reps h vs us → (assignEach ts env).length = us.length ∧ (assignEach ts env).findIdx? (·.1) = none:=by
   intro ts
   induction ts with
   | nil =>
    intro vs us g g' hh h r
    cases vs with
    | nil =>unfold Reps at r; subst r; exact ⟨rfl,rfl⟩
    | cons =>exact nS h
   | cons t ts ih =>
    intro vs us g g' hh h r
    cases vs with
    | nil =>exact nS h
    | cons v vs =>
     unfold Reps at r
     refine bc fun hN =>?_
     obtain ⟨u,r',rfl,_,h2⟩:=r
     refine aa h fun g1 ha hb =>?_
     refine hN ?_; clear hN
     have hp:=asg_plain ha
     have heach : assignEach (t :: ts) env = (false,assign t env) :: assignEach ts env:=by
      cases t <;> first | rfl | exact absurd rfl (hp _ _)
     refine bc fun hN =>?_
     obtain ⟨i1,i2⟩:=ih hb h2
     refine hN ?_; clear hN
     rw [heach]
     refine ⟨by simp [i1],?_⟩
     simp only [List.findIdx?_cons,i2]; rfl
  refine bc fun hN =>?_
  obtain ⟨l1,l2⟩:=lens hb h2
  refine hN ?_; clear hN
  refine ⟨by simp [l1],by simp only [List.findIdx?_cons,l2]; rfl,?_⟩
  exact wpAny_assignInOrder_more (asg_ok hG S F ha h1 fun s' N =>(tl s' N).2.2)
theorem valsOf_map : ∀ {as : List AV} {vs : List V},valsOf as = some vs → as = vs.map .val
 | [],vs,h =>by obtain rfl:=oj h; rfl
 | .val v :: as,vs,h =>by
  refine au h fun r h1 e =>?_
  subst e
  rw [valsOf_map h1]; rfl
 | .own _ :: _,_,h =>by exact nS h
 | .inst _ _ :: _,_,h =>by exact nS h
theorem vals_pends {s : Shared} : ∀ {vs : List V} {us : List Value} {W : List Addr},aO X env H Mu s (vs.map .val) us W → Reps (hideAll s.heap H) vs us ∧ W = []
 | [],us,W,⟨h1,h2⟩ =>⟨by unfold Reps; exact h1,h2⟩
 | v :: vs,us,W,⟨u,r,h1,h2,h3⟩ =>by
  obtain ⟨a,b⟩:=vals_pends h3
  subst h1
  exact ⟨.cons h2 a,b⟩
theorem tupAttrs_ok (hX : X.p [] = X) (hG : GOk2 X G N) (hA : Room A (N + n)) {f : Expr × Expr → Bool} {ts es : List Expr} {as : List AV} {vs : List V} {k k2 : Nat} {tp vp pos : Pos} (S : St X sc env H Mu g s) (F : Fm X B Hc H Mu env s) (hl : ts.length = es.length) (hz : es.length ≤ 30) (hsw : swOk es = true)
  (h : az (fun (q : Expr × Expr) =>evR n G sc g (f q) q.2) (ts.zip es) = some as) (hx : az aN ts = none) (hv : valsOf as = some vs) (hs : asgs G sc ts vs g = some g') :
  wpAny (model X.prog X.w) A (exec (.Assign [.Tuple ts k tp] (.Tuple es k2 vp) pos) env) (fun fl s' =>FlP X B Hc sc env Mu s (.next g') fl s') E s:=by
 have:=valsOf_map hv
 subst this
 rcases gv (ts:=ts) (k:=k) (k2:=k2) (tp:=tp) (vp:=vp) (env:=env) hsw with hw | ⟨names,hw,hnm⟩
 ·refine Assign_Tuple (tup_eval hX hG hA S F hl hz h fun T us s' H' Mu' W S' F' e nd pd ht hul =>?_) rfl hw
  obtain ⟨r,rfl⟩:=vals_pends pd
  rw [hX] at S' F'
  obtain ⟨l1,l2,_⟩:=asgs_ok (A:=A) (E:=E) (Q:=fun _ s'' =>FlP X B Hc sc env Mu s (.next g') .next s'') hG S' F' hs r fun s'' N =>⟨rfl,nx_of e N⟩
  refine wpAny_assign_Tuple hA.hh ht (by rw [l1]; simp) l2 fun h' he =>?_
  have k0:=gd he
  exact (asgs_ok hG (S'.kp k0) (F'.kp k0) hs (r.kp k0) fun s'' N =>⟨rfl,nx_of (e.trans (Ext.of_kp k0)) N⟩).2.2
 ·rw [hx] at hnm; exact nS hnm
theorem tupVal_ok (hX : X.p [] = X) (hG : GOk2 X G N) (hA : Room A (N + n)) {ts : List Expr} {e : Expr} {v : V} {k : Nat} {tp pos : Pos} (S : St X sc env H Mu g s) (F : Fm X B Hc H Mu env s) (hv : ev n G sc g e = some v) (hne : ∀ es k p,e ≠ .Tuple es k p) (hb : cg sc (.Tuple ts k tp) v g = some g') :
  wpAny (model X.prog X.w) A (exec (.Assign [.Tuple ts k tp] e pos) env) (fun fl s' =>FlP X B Hc sc env Mu s (.next g') fl s') E s:=by
 refine Assign_Tuple ((fL hG.toGOk n).e _ _ _ _ _ _ _ _ _ _ _ S hA hv fun u s' kp r =>bind_ok hX hA.hh (S.kp kp) (F.kp kp) hb r fun s1 s2 k1 N =>⟨rfl,?_⟩) (by show swapsWith e (some (.Tuple ts k tp)) pos.line env = pure false; cases e <;> rfl) ?_
 ·exact nx_of ((Ext.of_kp kp).trans (Ext.of_kp k1)) N
 ·cases e <;> first | rfl | exact absurd rfl (hne _ _ _)
theorem assign_attr (hX : X.p [] = X) (hG : GOk2 X G N) (hA : Room A (N + n)) {o : Bool} {x f : Str} {px pa pos : Pos} {e : Expr} {av : AV} (S : St X sc env H Mu g s) (F : Fm X B Hc H Mu env s) (h : evR n G sc g o e = some av) (hs : asg G sc (.Attribute (.Name x px) f pa) av g = some g') :
  wpAny (model X.prog X.w) A (exec (.Assign [.Attribute (.Name x px) f pa] e pos) env) (fun fl s' =>FlP X B Hc sc env Mu s (.next g') fl s') E s:=by
 have hv : ∃ v,av = .val v:=by
  cases av with
  | val v =>exact ⟨v,rfl⟩
  | own _ =>exact nomatch (show (Option.none : Option Gam) = some g' from hs)
  | inst _ _ =>exact nomatch (show (Option.none : Option Gam) = some g' from hs)
 refine bc fun hN =>?_
 obtain ⟨v,rfl⟩:=hv
 refine hN ?_; clear hN
 rw [plainObj_exec_Assign_Attribute _ _ _ _ _ swaps_attr]
 refine wpAny_bind (wpAny_standAt (wpAny_bind (evR_ok (P:=[]) hG (hX ▸ S) (hX ▸ F) hA h fun u s' H' Mu' W S' F' ex w nd pd =>?_)))
 refine bc fun hN =>?_
 obtain ⟨r,rfl⟩:=vals_pends (vs:=[v]) pd
 unfold Reps at r
 obtain ⟨u',r',e1,hr,_⟩:=r
 refine hN ?_; clear hN
 cases e1
 refine wpAny_bind (asg_ok hG (hX ▸ S') (hX ▸ F') hs hr fun s'' N =>wpAny_pure ⟨rfl,nx_of ex N⟩)
end
section
variable {X : Gx} {G : Ge} {N n : Nat} {B : Heap} {Hc H Mu : List Addr} {sc : Scope} {env : Env} {g g' : Gam} {s : Shared} {A : Around} {E : Value → Shared → Prop}
theorem told_ok (hG : GOk2 X G N) (hA : Room A (N + n)) {x y o m C : Str} {px py pl po pm pc pd pb pos : Pos} {es : List Expr} {fl fl' : List (Str × V)} {ys zs vs : List V}
  (S : St X sc env H Mu g s) (F : Fm X B Hc H Mu env s) (hx : fk sc x = true) (hlg : br sc "list" = true) (ho : ax sc o = true) (hline : bJ pm pc = true) (hsz : es.length < 20) (hl : g.lookup o = some (.inst C fl))
  (hy : ev n G sc g (.Name y py) = some (.list ys)) (he : az (ev n G sc g) es = some vs) (hm : fl.lookup m = none) (hr : G.mth C m fl vs = some (.list zs,fl')) (hz : ys.length + zs.length ≤ lid) :
  wpAny (model X.prog X.w) A (exec (.Assign [.Name x px] (.BinOp (.Name y py) .Add (.Call (.Name "list" pl) [.Call (.Attribute (.Name o po) m pm) es [] pc] [] pd) pb) pos) env)
   (fun f s' =>FlP X B Hc sc env Mu s (.next (ae x (.val (.list (ys ++ zs))) (ae o (.inst C fl') g))) f s') E s:=by
 have I:=(fL hG.toGOk n).e
 refine wpAny_Assign_Name (wpAny_BinOp (I _ _ _ _ _ _ _ _ _ _ _ S hA hy fun u0 s1 k1 r0 =>?_)) rfl
 have S1:=S.kp k1
 have F1:=F.kp k1
 refine wpAny_Call_Name_kw (et S1 hlg (by decide) ?_)
 have hb : cy "list" = .type "list":=by decide
 rw [hb]
 refine callWith_of (P:=fun _ =>True) rfl (fun h _ =>⟨.machine,.inr (.inl rfl),Looks.of_pure rfl⟩) ?_
 refine evalArgs_plain (x:=eval (.Call (.Attribute (.Name o po) m pm) es [] pc) env) (rest:=[]) (spliced_cons ?_)
 refine bc fun hN =>?_
 obtain ⟨mm,ad,hn,hd,inj,hside⟩:=id S1.held
 obtain ⟨ix,Ca,ds,k0,a,e2,e3,e4,e5,e6,e7,e8,rf⟩:=hd o _ ho hl
 obtain ⟨f,M,FS⟩:=hG.mth C m fl vs (.list zs) fl' Ca hr e2
 refine hN ?_; clear hN
 have hB0 : X.B0.get? (ad o) = none:=by
  cases e : X.B0.get? (ad o) with
  | none =>rfl
  | some ob =>have:=F.b0 _ _ e; rw [F.mu _ e5] at this; exact nS this
 refine meth_call I hA S1 ho hn a e3 e4 (fX rf hm) M hline hsz he fun us s2 k2 r2 =>?_
 have S2:=S1.kp k2
 have F2:=F1.kp k2
 refine FS A s2 H ix (ad o) ds k0 us _ E (hA.mono (by lia)) S2.base S2.ho (k2.keep _ _ e3) (k2.keep _ _ e4) e6 hB0 (rf.mono (.of (cA k2.keep))) r2 fun u h' t es' n' kb hd' rf' ru =>?_
 have N3 : Nw X B Hc sc env H Mu (ae o (.inst C fl') g) s2 { s2 with heap:=h',toks:=t } :=
  upd_inst (t:=t) S2 F2 ho hl (hn.keeps k2.keep) (fun z av hz hzl =>(hd z av hz hzl).keep k2.keep) inj hside hd' (fun b o h1 _ e =>kb b o h1 e) ((hn.keeps k2.keep).at' fun ob e =>kb _ ob e8.symm e) rf'
 refine spliced_nil ⟨trivial,?_⟩
 have hzs : zs.length ≤ lid:=by lia
 refine bltV_ok (f:="list") (vs:=[.list zs]) (r:=.list zs) (n:=N + n) ?_ (.cons ru .nil) N3.1.ho hA fun u3 s4 k4 r4 =>?_
 ·unfold aj
  rw [if_neg (by decide),if_neg (by decide),if_pos (by decide)]
  exact if_pos hzs
 refine binV_ok (x:=.list ys) (y:=.list zs) (z:=.list (ys ++ zs)) (if_pos hz) (N3.1.ho.kp k4) (((r0.kp k2).mono N3.2.2.2).kp k4) r4 fun u5 s5 k5 r5 =>?_
 have k45:=k4.trans k5
 refine gh (N3.1.kp k45) (N3.2.1.kp k45) hx r5 fun s6 N6 =>⟨rfl,?_⟩
 refine ⟨H,Mu,N6.1,N6.2.1,?_,fun _ h =>.inl h⟩
 exact ((((Mv.of_kp k1).trans (Mv.of_kp (Mu:=Mu) k2) fun _ h =>.inl h).trans N3.2.2.1 fun _ h =>.inl h).trans (Mv.of_kp (Mu:=Mu) k45) fun _ h =>.inl h).trans N6.2.2.1 fun _ h =>.inl h
end
section
variable {X : Gx} {G : Ge} {N n : Nat} {B : Heap} {Hc H Mu : List Addr} {sc : Scope} {env : Env} {g g' : Gam} {s : Shared} {A : Around} {E : Value → Shared → Prop}
noncomputable def BodyOK (X : Gx) (B : Heap) (Hc : List Addr) (sc : Scope) (env : Env) (A : Around) (ss : List Stmt) (b : Gam → Option Fl) : Prop :=
 ∀ (H Mu : List Addr) (g : Gam) (s : Shared) (E : Value → Shared → Prop) (fl : Fl),St X sc env H Mu g s → Fm X B Hc H Mu env s → b g = some fl → wpAny (model X.prog X.w) A (execs ss env) (fun f s' =>FlP X B Hc sc env Mu s fl f s') E s
noncomputable def RP (X : Gx) (B : Heap) (Hc : List Addr) (sc : Scope) (env : Env) (Mu : List Addr) (s : Shared) (fl : Fl) (A : Around) (E : Value → Shared → Prop) : Result → Shared → Prop:=fun r s' =>match r with
 | .ok f =>FlP X B Hc sc env Mu s fl f s'
 | .error e =>cameBackBy (model X.prog X.w) A env E e s'
theorem while_ok {t : Expr} {b : List Stmt} {bv : Gam → Option Fl} (IT : EvTOK X G N n) (hA : Room A (N + n)) (hb : BodyOK X B Hc sc env A b bv) {k : Nat} {fl : Fl} (S : St X sc env H Mu g s) (F : Fm X B Hc H Mu env s) (h : fQ (evT n G sc · t) bv k g = some fl) :
  codeAny (model X.prog X.w) A (.whileLoop t b [] env) (RP X B Hc sc env Mu s fl A E) s:=by
 refine codeAny_whileLoop (fun k s' =>∃ g',Nx X B Hc sc env Mu g' s s' ∧ fQ (evT n G sc · t) bv k g' = some fl) ?_ k
  ⟨g,⟨H,Mu,S,F,Mv.of_kp (Kp.refl s),fun _ h =>.inl h⟩,h⟩
 rintro k s' ⟨g',⟨H',Mu',S',F',m',hm'⟩,h'⟩
 cases k with
 | zero =>exact nS h'
 | succ k =>
  unfold fQ at h'
  split at h'
  ·rename_i ht
   refine IT _ _ _ _ _ _ _ _ _ _ _ S' hA ht fun s2 k2 =>?_
   rw [if_pos rfl]
   have m2 : Mv Mu s s2:=m'.trans (Mv.of_kp (Mu:=Mu') k2) hm'
   have hm2 : ∀ a ∈ Mu',a ∈ Mu ∨ s.heap.get? a = none:=hm'
   split at h'
   ·rename_i g2 hg2
    refine wpAny_mono (hb _ _ _ _ _ _ (S'.kp k2) (F'.kp k2) hg2) (fun f s3 hf =>?_) fun _ _ e =>e
    refine bc fun hN =>?_
    obtain ⟨rfl,nx⟩:=hf
    refine hN ?_; clear hN
    exact ⟨k,Nat.lt_succ_self _,g2,nx.trans m2 hm2,h'⟩
   ·rename_i g2 hg2
    obtain rfl:=oj h'
    refine wpAny_mono (hb _ _ _ _ _ _ (S'.kp k2) (F'.kp k2) hg2) (fun f s3 hf =>?_) fun _ _ e =>e
    refine bc fun hN =>?_
    obtain ⟨rfl,nx⟩:=hf
    refine hN ?_; clear hN
    exact ⟨rfl,nx.trans m2 hm2⟩
   ·rename_i v g2 hg2
    obtain rfl:=oj h'
    refine wpAny_mono (hb _ _ _ _ _ _ (S'.kp k2) (F'.kp k2) hg2) (fun f s3 hf =>?_) fun _ _ e =>e
    have hr:=FlP.trans m2 hm2 hf
    refine bc fun hN =>?_
    obtain ⟨u,Mu3,rfl,r1,r2,r3,r4⟩:=hr
    refine hN ?_; clear hN
    exact ⟨u,Mu3,rfl,r1,r2,r3,r4⟩
   ·exact nS h'
  ·rename_i ht
   obtain rfl:=oj h'
   refine IT _ _ _ _ _ _ _ _ _ _ _ S' hA ht fun s2 k2 =>?_
   rw [if_neg (by decide)]
   refine wpAny_execs_nil ⟨rfl,H',Mu',S'.kp k2,F'.kp k2,m'.trans (Mv.of_kp (Mu:=Mu') k2) hm',hm'⟩
  ·exact nS h'
noncomputable def TurnOK (X : Gx) (B : Heap) (Hc : List Addr) (sc : Scope) (env : Env) (A : Around) (tgt : Expr) (I : Addr) (wr : List Addr) (T : Nat → Heap → Prop) (xs : List V) (bind : V → Gam → Option Gam) (Ok : List Addr → List Addr → Shared → Prop) : Prop :=
 ∀ (i : Nat) (H Mu : List Addr) (g g' : Gam) (s : Shared) (E : Value → Shared → Prop) (Q : Shared → Prop) (hi : i < xs.length),T i s.heap → St X sc env H Mu g s → Fm X B Hc H Mu env s → Ok H Mu s → bind xs[i] g = some g' →
  (∀ s',St X sc env H Mu g' s' → Fm X B Hc H Mu env s' → Mv (wr ++ Mu) s s' → T (i + 1) s'.heap → Q s') →
  wpAny (model X.prog X.w) A (pyNext (.ref I)) (fun r s₁ =>∃ v,r = some v ∧ wpAny (model X.prog X.w) A (letOwnedTupleGo tgt (.ref I) v) (fun _ s₂ =>wpAny (model X.prog X.w) A (assign tgt env v) (fun _ s₃ =>Q s₃) E s₂) E s₁) E s
noncomputable def DoneOK (X : Gx) (B : Heap) (Hc : List Addr) (sc : Scope) (env : Env) (A : Around) (I : Addr) (wr : List Addr) (T : Nat → Heap → Prop) (xs : List V) (Ok : List Addr → List Addr → Shared → Prop) : Prop :=
 ∀ (H Mu : List Addr) (g : Gam) (s : Shared) (E : Value → Shared → Prop) (Q : Shared → Prop),T xs.length s.heap → St X sc env H Mu g s → Fm X B Hc H Mu env s → Ok H Mu s →
  (∀ s',St X sc env H Mu g s' → Fm X B Hc H Mu env s' → Mv (wr ++ Mu) s s' → Q s') → wpAny (model X.prog X.w) A (pyNext (.ref I)) (fun r s₁ =>r = none ∧ Q s₁) E s
inductive FI (X : Gx) (B : Heap) (Hc : List Addr) (sc : Scope) (env : Env) (wr Mu : List Addr) (T : Nat → Heap → Prop) (xs : List V) (bind : V → Gam → Option Gam) (bv : Gam → Option Fl) (fl : Fl) (s₂ : Shared) (k : Nat) (s' : Shared) : Prop
 | mk (i : Nat) (H' Mu' : List Addr) (g' : Gam) (hi : i ≤ xs.length) (e : k = xs.length - i) (S : St X sc env H' Mu' g' s') (F : Fm X B Hc H' Mu' env s') (hT : T i s'.heap) (m : Mv (wr ++ Mu) s₂ s') (hm : ∀ a ∈ Mu',a ∈ Mu ∨ s₂.heap.get? a = none) (h : forV bind bv (xs.drop i) g' = some fl) : FI X B Hc sc env wr Mu T xs bind bv fl s₂ k s'
theorem for_core {tgt : Expr} {I : Addr} {fp wr : List Addr} {T : Nat → Heap → Prop} {xs : List V} {bind : V → Gam → Option Gam} {b : List Stmt} {bv : Gam → Option Fl} {Ok : List Addr → List Addr → Shared → Prop} {s₂ : Shared} {fl : Fl} (hb : BodyOK X B Hc sc env A b bv)
  (hlive : ∀ i h,T i h → ∀ a ∈ wr,∃ o,h.get? a = some o) (turn : TurnOK X B Hc sc env A tgt I wr T xs bind Ok) (done : DoneOK X B Hc sc env A I wr T xs Ok) (hsub : ∀ a ∈ wr,a ∈ fp) (frame : ∀ i h h',T i h → (∀ a ∈ fp,∀ o,h.get? a = some o → h'.get? a = some o) → T i h')
  (S : St X sc env H Mu g s₂) (F : Fm X B Hc H Mu env s₂) (k : Kp s s₂) (hM : ∀ a ∈ Mu,∃ o,s.heap.get? a = some o) (hfp : ∀ a ∈ fp,a ∉ Mu ∧ ∃ o,s₂.heap.get? a = some o) (hwr : ∀ a ∈ wr,s.heap.get? a = none) (hT : T 0 s₂.heap)
  (hok : ∀ H' Mu' s',Mv (wr ++ Mu) s₂ s' → Fm X B Hc H' Mu' env s' → (∀ a ∈ Mu',a ∈ Mu ∨ s₂.heap.get? a = none) → (∀ a ∈ Mu',a ∉ fp) → Ok H' Mu' s')
  (h : forV bind bv xs g = some fl) : codeAny (model X.prog X.w) A (.forLoop tgt (.ref I) b [] env) (RP X B Hc sc env Mu s fl A E) s₂:=by
 have toS : ∀ {s' : Shared},Mv (wr ++ Mu) s₂ s' → Mv Mu s s':=fun {s'} m =>by
  obtain ⟨h1,t1,rfl,k1⟩:=k
  obtain ⟨h2,t2,rfl,k2⟩:=m
  refine ⟨h2,t2,rfl,fun a o ha e =>k2 a o (fun hm =>?_) (k1 a o e)⟩
  rcases List.mem_append.mp hm with hm | hm
  ·rw [hwr a hm] at e; exact nS e
  ·exact ha hm
 have freshS : ∀ {Mu' : List Addr},(∀ a ∈ Mu',a ∈ Mu ∨ s₂.heap.get? a = none) → ∀ a ∈ Mu',a ∈ Mu ∨ s.heap.get? a = none:=fun hm a ha =>by
  rcases hm a ha with h | h
  ·exact .inl h
  ·exact .inr (aG k h)
 refine codeAny_forLoop_any (FI X B Hc sc env wr Mu T xs bind bv fl s₂) ?_ xs.length
  ⟨0,H,Mu,g,Nat.zero_le _,rfl,S,F,hT,Mv.of_kp (Kp.refl _),fun _ h =>.inl h,by simpa using h⟩
 rintro q s' ⟨i,H',Mu',g',hi,rfl,S',F',hT',m',hm',h'⟩
 have hdis : ∀ a ∈ Mu',a ∉ fp:=fun a ha hf =>by
  rcases hm' a ha with h | h
  ·exact (hfp a hf).1 h
  ·obtain ⟨o,e⟩:=(hfp a hf).2
   rw [h] at e; exact nS e
 have ok':=hok H' Mu' s' m' F' hm' hdis
 rcases Nat.lt_or_ge i xs.length with hlt | hge
 ·rw [List.drop_eq_getElem_cons hlt] at h'
  unfold forV at h'
  split at h'
  ·rename_i g1 hg1
   refine wpAny_mono (turn i H' Mu' g' g1 s' _ (fun s3 =>wpAny (model X.prog X.w) A (execs b env) (fun f s₃ =>match f with
      | .next | .cont =>∃ m,m < xs.length - i ∧ FI X B Hc sc env wr Mu T xs bind bv fl s₂ m s₃
      | .brk =>RP X B Hc sc env Mu s fl A E (.ok .next) s₃
      | .ret v =>RP X B Hc sc env Mu s fl A E (.ok (.ret v)) s₃) (notedBy (model X.prog X.w) A env fun e s' =>RP X B Hc sc env Mu s fl A E (.error e) s') s3) hlt hT' S' F' ok' hg1 fun s3 S3 F3 m3 hT3 =>?_) (fun r s1 h1 =>?_) fun _ _ e =>e
   ·have m23 : Mv (wr ++ Mu) s₂ s3:=m'.trans m3 fun a ha =>by
     rcases List.mem_append.mp ha with h | h
     ·exact .inl (List.mem_append_left _ h)
     ·rcases hm' a h with h | h
      ·exact .inl (List.mem_append_right _ h)
      ·exact .inr h
    have hm23 : ∀ a ∈ Mu',a ∈ wr ++ Mu ∨ s₂.heap.get? a = none:=fun a ha =>by
     rcases hm' a ha with h | h
     ·exact .inl (List.mem_append_right _ h)
     ·exact .inr h
    have keepT : ∀ {s4 : Shared},Mv Mu' s3 s4 → T (i + 1) s4.heap:=fun {s4} m4 =>frame _ _ _ hT3 fun a ha o e =>m4.keep a o (fun hm =>hdis a hm ha) e
    split at h'
    ·rename_i g2 hg2
     refine wpAny_mono (hb _ _ _ _ _ _ S3 F3 hg2) (fun f s4 hf =>?_) fun _ _ e =>e
     refine bc fun hN =>?_
     obtain ⟨rfl,H4,Mu4,S4,F4,m4,hm4⟩:=hf
     refine hN ?_; clear hN
     refine ⟨xs.length - (i + 1),Nat.sub_lt_sub_left hlt (Nat.lt_succ_self i),i + 1,H4,Mu4,g2,hlt,rfl,S4,F4,keepT m4,m23.trans m4 hm23,fun a ha =>?_,h'⟩
     rcases hm4 a ha with h | h
     ·exact hm' a h
     ·by_cases hx : a ∈ wr ++ Mu
      ·rcases List.mem_append.mp hx with hx | hx
       ·exfalso
        refine bc fun hN =>?_
        obtain ⟨o',e'⟩:=hlive _ _ hT3 a hx
        refine hN ?_; clear hN
        rw [h] at e'; exact nS e'
       ·exact .inl hx
      ·cases e : s₂.heap.get? a with
       | none =>exact .inr rfl
       | some o =>rw [m23.keep a o hx e] at h; cases h
    ·rename_i g2 hg2
     obtain rfl:=oj h'
     refine wpAny_mono (hb _ _ _ _ _ _ S3 F3 hg2) (fun f s4 hf =>?_) fun _ _ e =>e
     refine bc fun hN =>?_
     obtain ⟨rfl,nx⟩:=hf
     refine hN ?_; clear hN
     exact ⟨rfl,nx.trans (toS m23) (freshS hm')⟩
    ·rename_i v g2 hg2
     obtain rfl:=oj h'
     refine wpAny_mono (hb _ _ _ _ _ _ S3 F3 hg2) (fun f s4 hf =>?_) fun _ _ e =>e
     refine bc fun hN =>?_
     obtain ⟨u,Mu3,rfl,r1,r2,r3,r4⟩:=FlP.trans (toS m23) (freshS hm') hf
     refine hN ?_; clear hN
     exact ⟨u,Mu3,rfl,r1,r2,r3,r4⟩
    ·exact nS h'
   ·obtain ⟨v,rfl,h1⟩:=h1
    exact h1
  ·exact nS h'
 ·have hie : i = xs.length:=Nat.le_antisymm hi hge
  subst hie
  rw [List.drop_length] at h'
  simp only [forV,Option.some.injEq] at h'; subst h'
  refine wpAny_mono (done H' Mu' g' s' _ (fun s3 =>wpAny (model X.prog X.w) A (execs [] env) (fun f s₃ =>RP X B Hc sc env Mu s (.next g') A E (.ok f) s₃) (notedBy (model X.prog X.w) A env fun e s' =>RP X B Hc sc env Mu s (.next g') A E (.error e) s') s3) hT' S' F' ok' fun s3 S3 F3 m3 =>?_) (fun r s1 h1 =>?_) fun _ _ e =>e
  ·refine wpAny_execs_nil ⟨rfl,H',Mu',S3,F3,?_,freshS hm'⟩
   exact toS (m'.trans m3 fun a ha =>by
     rcases List.mem_append.mp ha with h | h
     ·exact .inl (List.mem_append_left _ h)
     ·rcases hm' a h with h | h
      ·exact .inl (List.mem_append_right _ h)
      ·exact .inr h)
  ·obtain ⟨rfl,h1⟩:=h1
   exact h1
end
section
variable {X : Gx} {G : Ge} {N n : Nat} {B : Heap} {Hc H Mu : List Addr} {sc : Scope} {env : Env} {g g' : Gam} {s : Shared} {A : Around} {E : Value → Shared → Prop}
theorem Mv.left {wr Mu : List Addr} {s s' : Shared} (m : Mv Mu s s') : Mv (wr ++ Mu) s s':=by
 obtain ⟨h,t,rfl,k⟩:=m
 exact ⟨h,t,rfl,fun b o hb e =>k b o (fun hm =>hb (List.mem_append_right _ hm)) e⟩
theorem Mv.step {wr Mu : List Addr} {s s' s'' : Shared} (a : Mv (wr ++ Mu) s s') (b : Mv (wr ++ Mu) s' s'') : Mv (wr ++ Mu) s s'':=a.trans b fun _ h =>.inl h
theorem walk_turn (hX : X.p [] = X) (hh : A.handled = none) {tgt : Expr} {I : Addr} {fp wr : List Addr} {P : Nat → Value → Prop} {T : Nat → Heap → Prop} {xs : List V} {s₁ : Shared} (W : Walks X.prog X.w A I fp wr xs.length P T) (F1 : Fm X B Hc H Mu env s₁) (hw : ∀ b ∈ wr,s₁.heap.get? b = none)
  (hP : ∀ i u,P i u → ∃ x,xs[i]? = some x ∧ Rep (hideAll s₁.heap H) x u) (hns : ∀ (i : Nat) (h : Heap),T i h → ∀ b ∈ wr,(∃ o,h.get? b = some o) ∧ ∀ o,h.get? b = some o → ¬ cV o ∧ o.data ≠ .plain)
  (hgo : ∀ (i : Nat) (u : Value) (s' : Shared) (tgt : Expr) (Q : Unit → Shared → Prop) (E : Value → Shared → Prop),T (i + 1) s'.heap → Q () s' → wpAny (model X.prog X.w) A (letOwnedTupleGo tgt (.ref I) u) Q E s') :
  TurnOK X B Hc sc env A tgt I wr T xs (cg sc tgt) (fun H' Mu' s' =>aI (hideAll s₁.heap H) (hideAll s'.heap H') ∧ ∀ a ∈ Mu',a ∉ fp) ∧
  DoneOK X B Hc sc env A I wr T xs (fun H' Mu' s' =>aI (hideAll s₁.heap H) (hideAll s'.heap H') ∧ ∀ a ∈ Mu',a ∉ fp):=by
 have hB : ∀ a o,B.get? a = some o → a ∉ wr:=fun a o e hm =>by have:=F1.keep a o e; rw [hw a hm] at this; exact nS this
 constructor
 ·intro i H' Mu' g g' s' E Q hi hT S F hok hb q
  refine W.item i s' _ _ hi hT fun v h' tk hPv hT1 kb =>⟨v,rfl,?_⟩
  refine bc fun hN =>?_
  obtain ⟨S1,F',kr⟩:=S.irrP (c:=fun b =>b ∈ wr) (t:=tk) F kb (fun a ha hm =>hok.2 a ha (W.sub a hm)) hB fun a o hm e =>(hns i _ hT a hm).2 o e
  obtain ⟨x,ex,rx⟩:=hP i v hPv
  refine hN ?_; clear hN
  rw [List.getElem?_eq_getElem hi] at ex; obtain rfl:=oj ex
  refine hgo i v { s' with heap:=h',toks:=tk } tgt _ _ hT1 ?_
  refine bind_ok hX hh S1 F' hb ((rx.mono hok.1).mono kr) fun s2 s3 k2 N =>q s3 N.1 N.2.1 ?_ ?_
  ·have m0 : Mv (wr ++ Mu') s' { s' with heap:=h',toks:=tk }:=⟨h',tk,rfl,fun b o hb e =>kb b o (fun hm =>hb (List.mem_append_left _ hm)) e⟩
   exact (m0.step (Mv.of_kp k2)).step N.2.2.1.left
  ·exact W.frame _ _ _ hT1 fun b hb o e =>N.2.2.1.keep b o (fun hm =>hok.2 b hm hb) (k2.keep b o e)
 ·intro H' Mu' g s' E Q hT S F hok q
  refine W.done s' _ _ hT fun h' tk kb =>⟨rfl,?_⟩
  refine bc fun hN =>?_
  obtain ⟨S1,F',kr⟩:=S.irrP (c:=fun b =>b ∈ wr) (t:=tk) F kb (fun a ha hm =>hok.2 a ha (W.sub a hm)) hB fun a o hm e =>(hns _ _ hT a hm).2 o e
  refine hN ?_; clear hN
  exact q _ S1 F' ⟨h',tk,rfl,fun b o hb e =>kb b o (fun hm =>hb (List.mem_append_left _ hm)) e⟩
theorem for_ok (hX : X.p [] = X) (hG : GOk2 X G N) (hA : Room A (N + n)) {tgt it : Expr} {b : List Stmt} {pos : Pos} {bv : Gam → Option Fl} {xs : List V} {fl : Fl} (hb : BodyOK X B Hc sc env A b bv) (S : St X sc env H Mu g s) (F : Fm X B Hc H Mu env s)
  (hi : evI n G sc g it = some xs) (h : forV (cg sc tgt) bv xs g = some fl) : wpAny (model X.prog X.w) A (exec (.For tgt it b [] pos) env) (fun f s' =>FlP X B Hc sc env Mu s fl f s') E s:=by
 refine wpAny_For ((fL hG.toGOk n).i _ _ _ _ _ _ _ _ _ _ _ S hA hi fun itv s₁ s₂ k1 k2 IT =>?_) (folded_of hi)
 refine bc fun hN =>?_
 obtain ⟨I,fp,wr,P,T,rfl,W,hT0,hw,hfp,hP,hns,hgo⟩:=IT
 refine hN ?_; clear hN
 have S1:=S.kp k1
 have F1:=F.kp k1
 obtain ⟨turn,done⟩:=walk_turn hX hA.hh (tgt:=tgt) W F1 (fun b hb =>(hw b hb).1) hP hns hgo
 have live1 : ∀ a ∈ Mu,∃ o,s.heap.get? a = some o:=F.live
 refine for_core hb (fun i h hT a ha =>(hns i h hT a ha).1) turn done W.sub (fun i h h' hT hk =>W.frame i h h' hT hk) (S1.kp k2) (F1.kp k2) (k1.trans k2) live1 (fun a ha =>?_) (fun a ha =>aG k1 (hw a ha).1) hT0 (fun H' Mu' s' m F' hm hd =>⟨?_,hd⟩) h
 ·rcases hfp a ha with h1 | ⟨o,h1,h2,h3⟩
  ·refine ⟨fun hm =>?_,?_⟩
   ·obtain ⟨o,e⟩:=F1.live a hm
    rw [h1.2.1] at e; exact nS e
   ·exact (hns 0 _ hT0 a h1.1).1
  ·exact ⟨fun hm =>F1.ns a hm h2 o h1 h3,o,k2.keep a o h1⟩
 ·refine F1.seqKeep F' ?_ fun a ha =>?_
  ·obtain ⟨h1,t1,rfl,kk⟩:=k2
   obtain ⟨h2,t2,rfl,kk2⟩:=m
   refine ⟨h2,t2,rfl,fun a o ha e =>kk2 a o (fun hm =>?_) (kk a o e)⟩
   rcases List.mem_append.mp hm with hm | hm
   ·rw [(hw a hm).1] at e; exact nS e
   ·exact ha hm
  ·rcases hm a ha with h | h
   ·exact .inl h
   ·exact .inr (aG k2 h)
end
theorem eI : ∀ (xs : List V) (k : Nat),(dD k xs).length = xs.length
 | [],_ =>rfl
 | _ :: r,k =>congrArg Nat.succ (eI r (k + 1))
theorem enumL_get : ∀ (xs : List V) (k i : Nat) (h : i < (dD k xs).length) (h' : i < xs.length),(dD k xs)[i] = .tup [.int ((k + i : Nat) : Int),xs[i]]
 | [],_,_,_,h' =>by simp at h'
 | x :: r,k,0,_,_ =>rfl
 | x :: r,k,i + 1,h,h' =>by
  refine (enumL_get r (k + 1) i (Nat.lt_of_succ_lt_succ h) (Nat.lt_of_succ_lt_succ h')).trans ?_
  rw [Nat.add_right_comm]; rfl
section
variable {X : Gx} {G : Ge} {N n : Nat} {B : Heap} {Hc H Mu : List Addr} {sc : Scope} {env : Env} {g g' : Gam} {s : Shared} {A : Around} {E : Value → Shared → Prop}
noncomputable def EnT (Ea It l : Addr) (us : List Value) (i : Nat) (h : Heap) : Prop:=∃ old,IsEnum h Ea It (i : Int) old ∧ h.IsListIter It l i ∧ h.IsList l us.toArray
theorem enum_turn (hX : X.p [] = X) (hh : A.handled = none) {ts : List Expr} {k0 : Nat} {tp : Pos} {Ea It l : Addr} {xs : List V} {us : List Value} {s₁ : Shared} (hEI : Ea ≠ It) (hEl : l ≠ Ea) (hIl : l ≠ It) (F1 : Fm X B Hc H Mu env s₁) (hw : ∀ b ∈ [Ea,It],s₁.heap.get? b = none)
  (hr : Reps (hideAll s₁.heap H) xs us) :
  TurnOK X B Hc sc env A (.Tuple ts k0 tp) Ea [Ea,It] (EnT Ea It l us) (dD 0 xs) (cg sc (.Tuple ts k0 tp)) (fun H' Mu' s' =>aI (hideAll s₁.heap H) (hideAll s'.heap H') ∧ ∀ a ∈ Mu',a ∉ [Ea,It,l]) ∧
  DoneOK X B Hc sc env A Ea [Ea,It] (EnT Ea It l us) (dD 0 xs) (fun H' Mu' s' =>aI (hideAll s₁.heap H) (hideAll s'.heap H') ∧ ∀ a ∈ Mu',a ∉ [Ea,It,l]):=by
 have hB : ∀ a o,B.get? a = some o → a ∉ [Ea,It]:=fun a o e hm =>by have:=F1.keep a o e; rw [hw a hm] at this; exact nS this
 have sub : ∀ b ∈ [Ea,It],b ∈ [Ea,It,l]:=fun b hb =>by simp at hb ⊢; rcases hb with h | h <;> simp [h]
 have hc : ∀ {i : Nat} {h : Heap},EnT Ea It l us i h → ∀ a o,a ∈ [Ea,It] → h.get? a = some o → ¬ cV o ∧ o.data ≠ .plain:=fun {i h} ⟨old,he,⟨o',ho',_,hd'⟩,_⟩ a o hm e =>by
  simp only [List.mem_cons,List.mem_nil_iff,or_false] at hm
  rcases hm with rfl | rfl
  ·have he' : h.get? _ = some _:=he
   rw [e] at he'; obtain rfl:=oj he'
   exact ⟨fun ⟨_,_,hq⟩ =>(by cases hq),fun hq =>by cases hq⟩
  ·rw [e] at ho'; obtain rfl:=oj ho'
   exact ⟨fun ⟨_,_,hq⟩ =>(by rw [hd'] at hq; cases hq),fun hq =>by rw [hd'] at hq; cases hq⟩
 have hlen:=hr.length
 constructor
 ·intro i H' Mu' g g' s' E Q hi hT S F hok hb q
  have hi' : i < xs.length:=by rw [eI] at hi; exact hi
  refine bc fun hN =>?_
  obtain ⟨old,he,hit,hl⟩:=id hT
  refine hN ?_; clear hN
  have hiu : i < us.length:=by lia
  have hx : us.toArray[i]? = some us[i]:=by simp [hiu]
  obtain ⟨x,ex,rx⟩ : ∃ x,xs[i]? = some x ∧ Rep (hideAll s₁.heap H) x us[i]:=by
   refine bc fun hN =>?_
   obtain ⟨v,e1,rv⟩:=hr.get (List.getElem?_eq_getElem hi')
   refine hN ?_; clear hN
   rw [List.getElem?_eq_getElem hiu] at e1; obtain rfl:=oj e1
   exact ⟨_,List.getElem?_eq_getElem hi',rv⟩
  rw [List.getElem?_eq_getElem hi'] at ex; obtain rfl:=oj ex
  simp only [enumL_get xs 0 i hi hi',Nat.zero_add] at hb
  refine wpAny_pyNext_enum_item he hit hl hx hEI fun h1 heo hit1 ht1 hz1 hk1 =>⟨_,rfl,?_⟩
  refine wpAny_letOwnedTupleGo_enum heo fun h2 he2 hs2 =>?_
  have hs2' : Heap.SameBut Ea h1 h2:=hs2
  have kb : ∀ b o,b ∉ [Ea,It] → s'.heap.get? b = some o → h2.get? b = some o:=fun b o hb e =>by
   simp only [List.mem_cons,List.mem_nil_iff,or_false,not_or] at hb
   exact hs2'.extBut b o hb.1 (hk1 b o hb.1 hb.2 e)
  refine bc fun hN =>?_
  obtain ⟨S1,F',kr⟩:=S.irrP (c:=fun b =>b ∈ [Ea,It]) (h':=h2) (t:=s'.toks + 1) F kb (fun a ha hm =>hok.2 a ha (sub a hm)) hB fun a o hm e =>hc hT a o hm e
  refine hN ?_; clear hN
  have hEsz : Ea ≠ s'.heap.objs.size:=Nat.ne_of_lt (Heap.lt_size he)
  have ht2 : h2.get? s'.heap.objs.size = some { cls:=.type "tuple",data:=.seq #[.int i s'.toks,us[i]] }:=hs2'.extBut _ _ hEsz.symm ht1
  have hnH : s'.heap.objs.size ∉ H':=S.ho.fresh
  have rt : Rep (hideAll h2 H') (.tup [.int (i : Int),xs[i]]) (.ref s'.heap.objs.size):=by
   unfold Rep
   refine ⟨_,[.int i s'.toks,us[i]],rfl,⟨_,hideAll_get H' ht2 hnH,rfl,_,rfl⟩,.cons (by unfold Rep; exact ⟨_,rfl⟩) (.cons ((rx.mono hok.1).mono kr) .nil)⟩
  refine bind_ok hX hh S1 F' hb rt fun s2 s3 k2 Nn =>q s3 Nn.1 Nn.2.1 ?_ ?_
  ·have m0 : Mv ([Ea,It] ++ Mu') s' { s' with heap:=h2,toks:=s'.toks + 1 }:=⟨h2,_,rfl,fun b o hb e =>kb b o (fun hm =>hb (List.mem_append_left _ hm)) e⟩
   exact (m0.step (Mv.of_kp k2)).step Nn.2.2.1.left
  ·have keepF : ∀ b ∈ [Ea,It,l],∀ o,h2.get? b = some o → s3.heap.get? b = some o:=fun b hb o e =>Nn.2.2.1.keep b o (fun hm =>hok.2 b hm hb) (k2.keep b o e)
   refine ⟨us[i],?_,?_,?_⟩
   ·have : ((i + 1 : Nat) : Int) = (i : Int) + 1:=by push_cast; rfl
    rw [this]; exact keepF Ea (by simp) _ he2
   ·exact (hit1.extBut hs2'.extBut hEI.symm).at fun o e =>keepF It (by simp) o e
   ·exact ((hl.at fun o e =>hk1 l o hEl hIl e).extBut hs2'.extBut hEl).at fun o e =>keepF l (by simp) o e
 ·intro H' Mu' g s' E Q hT S F hok q
  rw [eI] at hT
  refine bc fun hN =>?_
  obtain ⟨old,he,hit,hl⟩:=id hT
  refine hN ?_; clear hN
  refine wpAny_pyNext_enum_end hh he hit hl (by simp [hlen]) fun h' he' =>⟨rfl,?_⟩
  have kb : ∀ b o,b ∉ [Ea,It] → s'.heap.get? b = some o → h'.get? b = some o:=fun b o hb e =>by
   simp only [List.mem_cons,List.mem_nil_iff,or_false,not_or] at hb
   exact he' b o hb.2 e
  refine bc fun hN =>?_
  obtain ⟨S1,F',kr⟩:=S.irrP (c:=fun b =>b ∈ [Ea,It]) (h':=h') (t:=s'.toks) F kb (fun a ha hm =>hok.2 a ha (sub a hm)) hB fun a o hm e =>hc hT a o hm e
  refine hN ?_; clear hN
  exact q _ S1 F' ⟨h',_,rfl,fun b o hb e =>kb b o (fun hm =>hb (List.mem_append_left _ hm)) e⟩
theorem forEnum_ok (hX : X.p [] = X) (hG : GOk2 X G N) (hA : Room A (N + n)) {ts : List Expr} {k0 : Nat} {tp pf pc pos : Pos} {e : Expr} {b : List Stmt} {bv : Gam → Option Fl} {xs : List V} {fl : Fl} (hb : BodyOK X B Hc sc env A b bv) (S : St X sc env H Mu g s) (F : Fm X B Hc H Mu env s)
  (hf : br sc "enumerate" = true) (he : ev n G sc g e = some (.list xs)) (h : forV (cg sc (.Tuple ts k0 tp)) bv (dD 0 xs) g = some fl) :
  wpAny (model X.prog X.w) A (exec (.For (.Tuple ts k0 tp) (.Call (.Name "enumerate" pf) [e] [] pc) b [] pos) env) (fun f s' =>FlP X B Hc sc env Mu s fl f s') E s:=by
 refine wpAny_For ?_
 refine wpAny_Call_Name_kw (et S hf (by decide) ?_)
 have hbv : cy "enumerate" = .type "enumerate":=by decide
 rw [hbv]
 refine callWith_of (P:=fun _ =>True) (by rw [bj he]; rfl) (fun h _ =>⟨.machine,.inr (.inl rfl),Looks.of_pure rfl⟩) ?_
 rw [bj he]
 refine evalArgs_plain (x:=eval e env) (rest:=[]) (spliced_cons ((fL hG.toGOk n).e _ _ _ _ _ _ _ _ _ _ _ S hA he fun u s₁ k1 r =>spliced_nil ⟨trivial,?_⟩))
 unfold Rep at r
 refine bc fun hN =>?_
 obtain ⟨l,us,rfl,hl,hr⟩:=r
 obtain ⟨ol,hol,hcl,nl,hdl⟩:=id hl
 refine hN ?_; clear hN
 have hll:=Heap.lt_size (of_hideAll H hol)
 refine call_enumerate_list (aK hl) fun h' hE hI hsz hk =>?_
 refine wpAny_pyIter_enum hE ?_
 have S1:=S.kp k1
 have F1:=F.kp k1
 have k2 : Kp s₁ { s₁ with heap:=h' }:=Kp.mk' (t:=s₁.toks) hk
 have hw : ∀ b ∈ [s₁.heap.objs.size + 1,s₁.heap.objs.size],s₁.heap.get? b = none:=fun b hb =>by
  cases e : s₁.heap.get? b with
  | none =>rfl
  | some o =>
   have:=Heap.lt_size e
   simp only [List.mem_cons,List.mem_nil_iff,or_false] at hb
   rcases hb with rfl | rfl
   ·exact absurd this (Nat.not_lt.mpr (Nat.le_succ _))
   ·exact absurd this (Nat.lt_irrefl _)
 have n1 : l ≠ s₁.heap.objs.size + 1:=Nat.ne_of_lt (Nat.lt_succ_of_lt hll)
 have n2 : l ≠ s₁.heap.objs.size:=Nat.ne_of_lt hll
 refine bc fun hN =>?_
 obtain ⟨turn,done⟩:=enum_turn (ts:=ts) (k0:=k0) (tp:=tp) (A:=A) (l:=l) (sc:=sc) hX hA.hh (Nat.succ_ne_self _) n1 n2 F1 hw hr
 refine hN ?_; clear hN
 have hlive : ∀ i h,EnT (s₁.heap.objs.size + 1) s₁.heap.objs.size l us i h → ∀ a ∈ [s₁.heap.objs.size + 1,s₁.heap.objs.size],∃ o,h.get? a = some o:=fun i h ⟨old,he,⟨o',ho',_⟩,_⟩ a ha =>by
  simp only [List.mem_cons,List.mem_nil_iff,or_false] at ha
  rcases ha with rfl | rfl
  ·exact ⟨_,he⟩
  ·exact ⟨_,ho'⟩
 have hT0 : EnT (s₁.heap.objs.size + 1) s₁.heap.objs.size l us 0 h':=⟨.none,hE,hI,(aK hl).at fun o e =>hk l o e⟩
 refine for_core (fp:=[s₁.heap.objs.size + 1,s₁.heap.objs.size,l]) hb hlive turn done (fun a ha =>by simp at ha ⊢; rcases ha with h | h <;> simp [h]) (fun i h h2 ⟨old,a1,a2,a3⟩ hk =>⟨old,hk _ (by simp) _ a1,a2.at fun o e =>hk _ (by simp) o e,a3.at fun o e =>hk _ (by simp) o e⟩)
  (S1.kp k2) (F1.kp k2) (k1.trans k2) F.live (fun a ha =>?_) (fun a ha =>aG k1 (hw a ha)) hT0 (fun H' Mu' s' m F' hm hd =>⟨?_,hd⟩) h
 ·by_cases hal : a = l
  ·subst hal
   exact ⟨fun hm =>F1.ns _ hm (bq hol) ol (of_hideAll H hol) ⟨_,_,hdl⟩,ol,hk _ ol (of_hideAll H hol)⟩
  ·have ha' : a ∈ [s₁.heap.objs.size + 1,s₁.heap.objs.size]:=by simp at ha ⊢; rcases ha with h | h | h <;> simp_all
   refine ⟨fun hm =>?_,hlive 0 _ hT0 a ha'⟩
   refine bc fun hN =>?_
   obtain ⟨o,e⟩:=F1.live a hm
   refine hN ?_; clear hN
   rw [hw a ha'] at e; exact nS e
 ·refine F1.seqKeep F' ?_ fun a ha =>?_
  ·refine bc fun hN =>?_
   obtain ⟨h2,t2,rfl,kk2⟩:=m
   refine hN ?_; clear hN
   refine ⟨h2,t2,rfl,fun a o ha e =>kk2 a o (fun hm =>?_) (hk a o e)⟩
   rcases List.mem_append.mp hm with hm | hm
   ·rw [hw a hm] at e; exact nS e
   ·exact ha hm
  ·rcases hm a ha with h | h
   ·exact .inl h
   ·exact .inr (aG k2 h)
end
noncomputable def thawA : AV → AV
 | .own xs =>.val (.list xs)
 | a =>a
theorem dm (x : Str) : ∀ (g : Gam),(thaw g).lookup x = (g.lookup x).map thawA
 | [] =>rfl
 | (y,.own xs) :: r =>by
  rw [thO,List.lookup_cons,List.lookup_cons]
  cases x == y
  ·exact dm x r
  ·rfl
 | (y,.val v) :: r =>by
  rw [thV,List.lookup_cons,List.lookup_cons]
  cases x == y
  ·exact dm x r
  ·rfl
 | (y,.inst C fl) :: r =>by
  rw [thI,List.lookup_cons,List.lookup_cons]
  cases x == y
  ·exact dm x r
  ·rfl
section
variable {X : Gx} {G : Ge} {N n : Nat} {B : Heap} {Hc H Mu : List Addr} {sc : Scope} {env : Env} {g g' : Gam} {s : Shared} {A : Around} {E : Value → Shared → Prop}
theorem St.thaw (S : St X sc env H Mu g s) (F : Fm X B Hc H Mu env s) : St X sc env Hc Mu (thaw g) s:=by
 refine bc fun hN =>?_
 obtain ⟨m,ad,hn,hd,inj,h1,h2⟩:=S.held
 refine hN ?_; clear hN
 have kr : aI (hideAll s.heap H) (hideAll s.heap Hc):=.of (hide_sub F.hc)
 have core : ∀ y,aV ((Mine.thaw g).lookup y) → aV (g.lookup y):=fun y c =>by
  rw [dm] at c
  cases e : g.lookup y with
  | none =>rw [e] at c; exact c
  | some av =>
   rw [e] at c
   cases av with
   | val v =>exact c
   | own xs =>exact trivial
   | inst C fl =>exact trivial
 refine ⟨S.base,S.kind,S.glob,S.blt,S.kinds,fun a ha =>S.ho a (F.hc a ha),m,ad,hn,fun x av hx hl =>?_,fun x y hx hy c1 c2 =>inj x y hx hy (core x c1) (core y c2),h1,fun y hy c =>h2 y hy (core y c)⟩
 rw [dm] at hl
 refine bc fun hN =>?_
 refine au hl fun av0 h0 hEqq2 =>?_
 subst hEqq2
 refine hN ?_; clear hN
 have hh:=hd x av0 hx h0
 cases av0 with
 | val v =>obtain ⟨u,a,r⟩:=hh; exact ⟨u,a,r.mono kr⟩
 | own xs =>
  refine bc fun hN =>?_
  obtain ⟨us,e1,e2,⟨o,ho,e3,e4,e5⟩,e6,e7,r⟩:=hh
  refine hN ?_; clear hN
  refine ⟨.ref (ad x),.inl ⟨e1,e2⟩,?_⟩
  unfold Rep
  refine ⟨ad x,us,rfl,⟨o,hideAll_get Hc ho fun hm =>?_,e3,e5⟩,r.mono kr⟩
  refine bc fun hN =>?_
  obtain ⟨o',ho'⟩:=F.hcb _ hm
  refine hN ?_; clear hN
  rw [F.mu _ e7] at ho'; exact nS ho'
 | inst C fl =>
  refine bc fun hN =>?_
  obtain ⟨ix,Ca,es,k,e1,e2,e3,e4,e5,e6,e7,e8,r⟩:=hh
  refine hN ?_; clear hN
  exact ⟨ix,Ca,es,k,e1,e2,e3,e4,e5,fun hm =>e6 (F.hc _ hm),e7,e8,r.mono kr⟩
noncomputable def ExsOK (X : Gx) (G : Ge) (N n : Nat) : Prop:=∀ (B : Heap) (Hc : List Addr) (sc : Scope) (env : Env) (A : Around) (mu : List Str) (ss : List Stmt),Room A (N + n) → BodyOK X B Hc sc env A ss (exs n G sc mu ss)
noncomputable def ExOK (X : Gx) (G : Ge) (N n : Nat) : Prop:=∀ (B : Heap) (Hc : List Addr) (sc : Scope) (env : Env) (A : Around) (mu : List Str) (st : Stmt),Room A (N + n) →
 ∀ (H Mu : List Addr) (g : Gam) (s : Shared) (E : Value → Shared → Prop) (fl : Fl),St X sc env H Mu g s → Fm X B Hc H Mu env s → ex n G sc mu st g = some fl → wpAny (model X.prog X.w) A (exec st env) (fun f s' =>FlP X B Hc sc env Mu s fl f s') E s
theorem exs_ok (I : ExOK X G N n) (Is : ExsOK X G N n) : ExsOK X G N (n + 1):=by
 intro B Hc sc env A mu ss hA H Mu g s E fl S F h
 unfold exs at h
 split at h
 ·obtain rfl:=oj h
  exact wpAny_execs_nil ⟨rfl,H,Mu,S,F,Mv.of_kp (Kp.refl s),fun _ h =>.inl h⟩
 ·rename_i st r
  cases he : ex n G sc mu st g with
  | none =>rw [he] at h; exact nS h
  | some fl1 =>
   rw [he] at h
   refine wpAny_execs_cons (wpAny_mono (I B Hc sc env A mu st hA.up H Mu g s E fl1 S F he) (fun f s' hf =>?_) fun _ _ e =>e)
   cases fl1 with
   | next g1 =>
    refine bc fun hN =>?_
    obtain ⟨rfl,H',Mu',S',F',m',hm'⟩:=hf
    refine hN ?_; clear hN
    exact wpAny_mono (Is B Hc sc env A mu r hA.up H' Mu' g1 s' E fl S' F' h) (fun f s'' h2 =>FlP.trans m' hm' h2) fun _ _ e =>e
   | brk g1 =>obtain rfl:=oj h; obtain ⟨rfl,nx⟩:=hf; exact ⟨rfl,nx⟩
   | ret v g1 =>obtain rfl:=oj h; obtain ⟨u,Mu',rfl,r1,r2,r3,r4⟩:=hf; exact ⟨u,Mu',rfl,r1,r2,r3,r4⟩
theorem one_arg {es : List Expr} {v : V} (h : az (ev n G sc g) es = some [v]) : es.length < 20:=by have:=mapO_len h; simp at this; lia
theorem append_ok (hG : GOk2 X G N) (hA : Room A (N + n)) {x : Str} {px pa p pos : Pos} {es : List Expr} {v : V} {xs : List V} (S : St X sc env H Mu g s) (F : Fm X B Hc H Mu env s) (hx : ax sc x = true) (hl : g.lookup x = some (.own xs)) (hline : bJ pa p = true)
  (e : az (ev n G sc g) es = some [v]) (hz : xs.length < lid) : wpAny (model X.prog X.w) A (exec (.Expr (.Call (.Attribute (.Name x px) "append" pa) es [] p) pos) env) (fun f s' =>FlP X B Hc sc env Mu s (.next (ae x (.own (xs ++ [v])) g)) f s') E s:=by
 refine gI (fL hG.toGOk n).e hA S F hx hl hline (one_arg e) e slot_list_append PySem.F.type_list_append fun s' a us ws Q h1 h2 h3 q =>?_
 obtain ⟨u,rfl,hu⟩:=h3.one
 have:=h2.length; have:=cL
 exact append_own h1 (by lia) fun h' h4 kb =>q h' _ h4 (h2.append (.cons hu .nil)) kb
theorem extend_ok (hG : GOk2 X G N) (hA : Room A (N + n)) {x : Str} {px pa p pos : Pos} {es : List Expr} {ys : List V} {xs : List V} (S : St X sc env H Mu g s) (F : Fm X B Hc H Mu env s) (hx : ax sc x = true) (hl : g.lookup x = some (.own xs)) (hline : bJ pa p = true)
  (e : az (ev n G sc g) es = some [.list ys]) (hz : xs.length + ys.length ≤ lid) : wpAny (model X.prog X.w) A (exec (.Expr (.Call (.Attribute (.Name x px) "extend" pa) es [] p) pos) env) (fun f s' =>FlP X B Hc sc env Mu s (.next (ae x (.own (xs ++ ys)) g)) f s') E s:=by
 refine gI (fL hG.toGOk n).e hA S F hx hl hline (one_arg e) e PySem.F.slot_list_extend PySem.F.type_list_extend fun s' a us ws Q h1 h2 h3 q =>?_
 obtain ⟨u,rfl,hu⟩:=h3.one
 unfold Rep at hu
 obtain ⟨b,ws,rfl,hb,hr⟩:=hu
 have:=h2.length; have:=hr.length; have:=cL
 exact extend_own h1 (aK hb) (by lia) fun h' h4 kb =>q h' _ h4 (h2.append hr) kb
theorem reverse_ok (hG : GOk2 X G N) (hA : Room A (N + n)) {x : Str} {px pa p pos : Pos} {es : List Expr} {xs : List V} (S : St X sc env H Mu g s) (F : Fm X B Hc H Mu env s) (hx : ax sc x = true) (hl : g.lookup x = some (.own xs)) (hline : bJ pa p = true)
  (e : az (ev n G sc g) es = some []) (hz : xs.length ≤ lid) : wpAny (model X.prog X.w) A (exec (.Expr (.Call (.Attribute (.Name x px) "reverse" pa) es [] p) pos) env) (fun f s' =>FlP X B Hc sc env Mu s (.next (ae x (.own xs.reverse) g)) f s') E s:=by
 refine gI (fL hG.toGOk n).e hA S F hx hl hline (by rw [mapO_nil e]; decide) e PySem.F.slot_list_reverse PySem.F.type_list_reverse fun s' a us ws Q h1 h2 h3 q =>?_
 unfold Reps at h3; subst h3
 have:=h2.length; have:=cL
 exact reverse_own h1 (by lia) fun h' h4 kb =>q h' _ h4 h2.reverse kb
end
section
variable {X : Gx} {G : Ge} {N n : Nat} {B : Heap} {Hc H Mu : List Addr} {sc : Scope} {env : Env} {g : Gam} {s : Shared} {A : Around} {E : Value → Shared → Prop}
theorem ex_meth (hG : GOk2 X G N) (hA : Room A (N + n)) (S : St X sc env H Mu g s) (F : Fm X B Hc H Mu env s) {x m : Str} {px pa p q : Pos} {es : List Expr} {xs vs : List V} {fl : Fl} (hx : ax sc x = true) (hl : bJ pa p = true) (hg : g.lookup x = some (.own xs)) (hvs : az (ev n G sc g) es = some vs) (h : methK m x g xs vs = some fl) :
  wpAny (model X.prog X.w) A (exec (.Expr (.Call (.Attribute (.Name x px) m pa) es [] p) q) env) (fun f s' =>FlP X B Hc sc env Mu s fl f s') E s:=by
 unfold methK at h
 split at h
 ·rename_i hm
  have:=beq_iff_eq.mp hm
  subst this
  refine bc fun hN =>?_
  refine aa h fun v hv h2 =>?_
  refine aL h2 fun hz h3 =>?_
  refine hN ?_; clear hN
  obtain rfl:=oj h3
  clear h h2
  cases bh hv
  exact append_ok hG hA S F hx hg hl hvs hz
 ·split at h
  ·rename_i hm
   have:=beq_iff_eq.mp hm
   subst this
   refine bc fun hN =>?_
   refine aa h fun v hv h2 =>?_
   refine aa h2 fun ys hy h3 =>?_
   refine aL h3 fun hz h4 =>?_
   refine hN ?_; clear hN
   obtain rfl:=oj h4
   clear h h2 h3
   cases bh hv
   cases bp hy
   exact extend_ok hG hA S F hx hg hl hvs hz
  ·split at h
   ·rename_i hm
    have:=beq_iff_eq.mp hm
    subst this
    refine bc fun hN =>?_
    refine aE h fun he h =>?_
    refine aL h fun hz h =>?_
    refine hN ?_; clear hN
    obtain rfl:=oj h
    cases List.isEmpty_iff.mp he
    exact reverse_ok hG hA S F hx hg hl hvs hz
   ·exact nS h
theorem ex_feed (hG : GOk2 X G N) (hA : Room A (N + n)) (S : St X sc env H Mu g s) (F : Fm X B Hc H Mu env s) {x : Str} {px p : Pos} {e y : Expr} {o m : Str} {es : List Expr} {fl : Fl} (hf : fy sc x e = some (y,o,m,es)) (h : feedK G x o m g ((ev n G sc g y).bind aW) (az (ev n G sc g) es) = some fl) :
  wpAny (model X.prog X.w) A (exec (.Assign [.Name x px] e p) env) (fun f s' =>FlP X B Hc sc env Mu s fl f s') E s:=by
 refine bc fun hN =>?_
 refine aa hf fun yc h1 f1 =>?_
 refine aa f1 fun yn h2 f2 =>?_
 refine aa f2 fun le h3 f3 =>?_
 refine aa f3 fun a h4 f4 =>?_
 refine aa f4 fun om h5 f5 =>?_
 refine aE f5 fun hc f6 =>?_
 refine hN ?_; clear hN
 cases f6
 clear hf f1 f2 f3 f4 f5
 refine bc fun hN =>?_
 obtain ⟨pb,rfl⟩:=addOf_some h1
 obtain ⟨py,ey⟩:=aT h2
 obtain ⟨pl,pd,ec⟩:=dg h3
 rw [bh h4] at ec
 obtain ⟨po,rfl⟩:=methOf_some h5
 refine hN ?_; clear hN
 rw [ec]
 rw [ey] at h ⊢
 simp only [Bool.and_eq_true,decide_eq_true_eq] at hc
 refine bc fun hN =>?_
 obtain ⟨⟨⟨⟨⟨⟨c1,c2⟩,c3⟩,c4⟩,c5⟩,c6⟩,c7⟩:=hc
 refine hN ?_; clear hN
 have cl:=beq_iff_eq.mp c1
 rw [cl] at c6 ⊢
 refine bc fun hN =>?_
 refine aa h fun cf hl g1 =>?_
 refine aa g1 fun ys hy g2 =>?_
 refine aa g2 fun vs hvs g3 =>?_
 refine aa g3 fun r hr g4 =>?_
 refine aa g4 fun zs hz g5 =>?_
 refine aL g5 fun hlen g6 =>?_
 refine hN ?_; clear hN
 obtain rfl:=oj g6
 refine bc fun hN =>?_
 refine aE hr fun hn hm =>?_
 refine aa hy fun v hv hy =>?_
 rw [bp hy] at hv
 obtain ⟨w,fl'⟩:=r
 refine hN ?_; clear hN
 have hw : w = .list zs:=bp hz
 subst hw
 exact told_ok hG hA S F c5 c6 c7 c2 c3 (dP hl) hv hvs (Option.isNone_iff_eq_none.mp hn) hm hlen
theorem name2_true {t : Expr} (h : name2 t = true) : ∃ ts k p,t = .Tuple ts k p:=by
 unfold name2 at h
 cases ht : cW t with
 | none =>rw [ht] at h; cases h
 | some ts =>obtain ⟨k,p,rfl⟩:=ff ht; exact ⟨ts,k,p,rfl⟩
theorem ex_ok (hX : X.p [] = X) (hG : GOk2 X G N) (Is : ExsOK X G N n) : ExOK X G N (n + 1):=by
 intro B Hc sc env A mu st hA H Mu g s E fl S F h
 have SS:=fL hG.toGOk n
 have hA':=hA.up
 have body : ∀ ss,BodyOK X B Hc sc env A ss (exs n G sc mu ss):=fun ss =>Is B Hc sc env A mu ss hA'
 cases st with
 | Return o p =>
  refine bc fun hN =>?_
  refine aa (show (o.bind fun e =>(ev n G sc (thaw g) e).map fun v =>Fl.ret v (thaw g)) = some fl from h) fun e hEqq1 h =>?_
  subst hEqq1
  refine au h fun v hv hEqq2 =>?_
  subst hEqq2
  refine hN ?_; clear hN
  exact wpAny_Return_some (SS.e _ _ _ _ _ _ _ _ _ _ _ (S.thaw F) hA' hv fun u s' k r =>⟨u,Mu,rfl,r,(S.thaw F).kp k,Mv.of_kp k,(F.kp k).keep⟩)
 | Break p =>
  cases (show some (Fl.brk g) = some fl from h)
  exact wpAny_Break ⟨rfl,H,Mu,S,F,Mv.of_kp (Kp.refl s),fun _ h =>.inl h⟩
 | If t a b p =>
  refine bc fun hN =>?_
  obtain ⟨c,ht,h⟩:=gG (show iteO (evT n G sc g t) (exs n G sc mu a g) (exs n G sc mu b g) = some fl from h)
  refine hN ?_; clear hN
  refine wpAny_If (SS.t _ _ _ _ _ _ _ _ _ _ _ S hA' ht fun s' k =>?_)
  cases c with
  | true =>exact wpAny_mono (body _ _ _ _ _ _ _ (S.kp k) (F.kp k) h) (fun f s'' hf =>FlP.trans (Mv.of_kp k) (fun _ h =>.inl h) hf) fun _ _ e =>e
  | false =>exact wpAny_mono (body _ _ _ _ _ _ _ (S.kp k) (F.kp k) h) (fun f s'' hf =>FlP.trans (Mv.of_kp k) (fun _ h =>.inl h) hf) fun _ _ e =>e
 | While t b e p =>
  refine bc fun hN =>?_
  refine aE (show (if e.isEmpty = true then fQ (evT n G sc · t) (exs n G sc mu b) 65536 g else .none) = some fl from h) fun he h =>?_
  refine hN ?_; clear hN
  cases List.isEmpty_iff.mp he
  exact wpAny_While (while_ok SS.t hA' (body _) S F h)
 | For t it b e p =>
  obtain ⟨he,h⟩:=ite_some' (show (if e.isEmpty = true then (match gB sc t it with
   | some a =>((ev n G sc g a).bind aW).bind fun xs =>if xs.length ≤ lid then forV (cg sc t) (exs n G sc mu b) (dD 0 xs) g else .none
   | .none =>(evI n G sc g it).bind fun xs =>forV (cg sc t) (exs n G sc mu b) xs g) else .none) = some fl from h)
  cases hen : gB sc t it with
  | some a =>
   rw [hen] at h
   refine bc fun hN =>?_
   refine aa h fun xs hx h2 =>?_
   refine aa hx fun v hv hx2 =>?_
   refine aL h2 fun hz h3 =>?_
   refine aE hen fun hn hen2 =>?_
   refine aa hen2 fun c hc hen3 =>?_
   refine aE hen3 fun hf hen4 =>?_
   rw [Bool.and_eq_true] at hf
   obtain ⟨f,es⟩:=c
   obtain ⟨pf,pc,rfl⟩ : ∃ p q,it = .Call (.Name f p) es [] q:=dg hc
   obtain ⟨ts,k,tp,rfl⟩:=name2_true hn
   refine hN ?_; clear hN
   clear h h2 hx hen hen2 hen3 hc hn
   have hf2 : f = "enumerate":=beq_iff_eq.mp hf.2
   subst hf2
   cases bh hen4
   cases bp hx2
   cases List.isEmpty_iff.mp he
   exact forEnum_ok hX hG hA' (body _) S F hf.1 hv h3
  | none =>
   rw [hen] at h
   refine bc fun hN =>?_
   refine aa h fun xs hxs h2 =>?_
   refine hN ?_; clear hN
   clear h hen
   cases List.isEmpty_iff.mp he
   exact for_ok hX hG hA' (body _) S F hxs h2
 | Expr e p =>
  have h : (match eV e with
   | some c =>if (ax sc c.1.1 && bJ c.1.2.2 c.2.2) = true then (dQ (g.lookup c.1.1)).bind fun xs =>(az (ev n G sc g) c.2.1).bind fun vs =>methK c.1.2.1 c.1.1 g xs vs else .none
   | .none =>(bI e).bind fun _ =>(ev n G sc g e).bind fun v =>if aw v = true then some (.next g) else .none) = some fl:=h
  cases hm : eV e with
  | some c =>
   rw [hm] at h
   refine bc fun hN =>?_
   obtain ⟨px,rfl⟩:=methOf_some hm
   refine aE h fun hx h =>?_
   rw [Bool.and_eq_true] at hx
   refine aa h fun xs hg h =>?_
   refine aa h fun vs hvs h =>?_
   refine hN ?_; clear hN
   exact ex_meth hG hA' S F hx.1 hx.2 (eW hg) hvs h
  | none =>
   rw [hm] at h
   refine bc fun hN =>?_
   refine aa h fun c hc h2 =>?_
   refine aa h2 fun v hv h3 =>?_
   refine aE h3 fun hn h4 =>?_
   refine hN ?_; clear hN
   obtain rfl:=oj h4
   refine bc fun hN =>?_
   obtain ⟨pf,q,rfl⟩:=dg hc
   refine hN ?_; clear hN
   cases eN hn
   exact wpAny_Expr_any (SS.e _ _ _ _ _ _ _ _ _ _ _ S hA' hv fun u s' k r =>⟨rfl,H,Mu,S.kp k,F.kp k,Mv.of_kp k,fun _ h =>.inl h⟩) (fG S) rfl
 | Assign ts e p =>
  obtain ⟨t,ht,h⟩:=cx (show ((one ts).bind fun t =>(match cW t with
   | some us =>(match cW e with
    | some es =>if (us.length = es.length && swOk es && es.length ≤ 30) = true then (az (fun (p : Expr × Expr) =>evR n G sc g (ez mu p.1) p.2) (us.zip es)).bind fun as =>gf G sc us as g else .none
    | .none =>(ev n G sc g e).bind fun v =>(cg sc t v g).map .next)
   | .none =>(match (aN t).bind fun x =>(fy sc x e).map fun f =>(x,f) with
    | some f =>feedK G f.1 f.2.2.1 f.2.2.2.1 g ((ev n G sc g f.2.1).bind aW) (az (ev n G sc g) f.2.2.2.2)
    | .none =>(evR n G sc g (ez mu t) e).bind fun a =>(asg G sc t a g).map .next))) = some fl from h)
  rw [bh ht]
  clear ht
  cases htu : cW t with
  | some us =>
   rw [htu] at h
   refine bc fun hN =>?_
   obtain ⟨k,q,rfl⟩:=ff htu
   refine hN ?_; clear hN
   dsimp only at h
   cases hte : cW e with
   | some es =>
    rw [hte] at h
    refine bc fun hN =>?_
    obtain ⟨k2,q2,rfl⟩:=ff hte
    refine aE h fun hc h =>?_
    simp only [Bool.and_eq_true,decide_eq_true_eq] at hc
    refine aa h fun as has h =>?_
    refine hN ?_; clear hN
    unfold gf at h
    split at h
    ·rename_i xs hxs
     refine bc fun hN =>?_
     refine aE h fun hs h =>?_
     refine hN ?_; clear hN
     obtain rfl:=oj h
     simp only [Bool.and_eq_true,decide_eq_true_eq] at hs
     exact tupNames_ok hX hG hA' S F hc.1.1 hc.2 hc.1.2 has hxs hs.1 hs.2
    ·rename_i hxs
     refine bc fun hN =>?_
     refine aa h fun vs hv h =>?_
     refine au h fun g1 hg1 hEqq2 =>?_
     subst hEqq2
     refine hN ?_; clear hN
     exact tupAttrs_ok hX hG hA' S F hc.1.1 hc.2 hc.1.2 has hxs hv hg1
   | none =>
    rw [hte] at h
    refine bc fun hN =>?_
    refine aa h fun v hv h =>?_
    refine au h fun g1 hg1 hEqq2 =>?_
    subst hEqq2
    refine hN ?_; clear hN
    exact tupVal_ok hX hG hA' S F hv (fun es k p he =>by rw [he] at hte; cases hte) hg1
  | none =>
   rw [htu] at h
   dsimp only at h
   cases hfe : (aN t).bind fun x =>(fy sc x e).map fun f =>(x,f) with
   | some f =>
    rw [hfe] at h
    refine bc fun hN =>?_
    refine aa hfe fun x hn hfe =>?_
    refine au hfe fun f hf hEqq2 =>?_
    subst hEqq2
    obtain ⟨px,rfl⟩:=aT hn
    refine hN ?_; clear hN
    exact ex_feed hG hA' S F hf h
   | none =>
    rw [hfe] at h
    refine bc fun hN =>?_
    refine aa h fun av hav h =>?_
    refine au h fun g1 hg1 hEqq2 =>?_
    subst hEqq2
    refine hN ?_; clear hN
    cases t with
    | Name x px =>
     refine bc fun hN =>?_
     refine aE (show (if gu sc x av = true then some (ae x av g) else .none) = some g1 from hg1) fun hs hg1 =>?_
     refine hN ?_; clear hN
     obtain rfl:=oj hg1
     exact assign_name hX hG hA' S F hav hs
    | Attribute b f pa =>
     refine bc fun hN =>?_
     refine aa (show ((aN b).bind fun x =>(valO av).bind fun v =>if ax sc x = true then (cz (g.lookup x)).bind (setFld G x f v g) else .none) = some g1 from hg1) fun x hn _ =>?_
     obtain ⟨px,rfl⟩:=aT hn
     refine hN ?_; clear hN
     exact assign_attr hX hG hA' S F hav hg1
    | _ =>exact nomatch (show (Option.none : Option Gam) = some g1 from hg1)
 | _ =>exact nomatch (show (Option.none : Option Fl) = some fl from h)
theorem exs_sound (hX : X.p [] = X) (hG : GOk2 X G N) : ∀ n,ExOK X G N n ∧ ExsOK X G N n
 | 0 =>⟨fun _ _ _ _ _ _ _ _ _ _ _ _ _ fl _ _ h =>(nomatch (show (Option.none : Option Fl) = some fl from h)),fun _ _ _ _ _ _ _ _ _ _ _ _ _ fl _ _ h =>(nomatch (show (Option.none : Option Fl) = some fl from h))⟩
 | n + 1 =>let ⟨a,b⟩:=exs_sound hX hG n
  ⟨ex_ok hX hG b,exs_ok a b⟩
end
theorem bindL_at {kindOf : Str → Option NameKind} {x : Str} (hk : kindOf x = some .local) : ∀ {bs : List (Str × Value)} {m : Str → Option Value},(bs.map (·.1)).Nodup → bindL kindOf bs m x = (bs.lookup x).or (m x)
 | [],m,_ =>by simp [bindL]
 | (n,v) :: r,m,h =>by
  obtain ⟨h1,h2⟩:=List.nodup_cons.mp h
  unfold bindL
  simp only [bindL_at hk h2,List.lookup_cons]
  by_cases hx : x = n
  ·subst hx
   have : r.lookup x = none:=by
    cases e : r.lookup x with
    | none =>rfl
    | some v =>exact absurd (List.mem_map_of_mem (aJ e)) h1
   simp only [this,if_pos hk]; simp
  ·have : (x == n) = false:=by simpa using hx
   rw [this]
   congr 1
   split <;> simp [hx]
theorem bindC_at {kindOf : Str → Option NameKind} {x : Str} (hk : kindOf x ≠ some .local) : ∀ {bs : List (Str × Value)} {m : Str → Option Value},(bs.map (·.1)).Nodup → bindC kindOf bs m x = (bs.lookup x).or (m x)
 | [],m,_ =>by simp [bindC]
 | (n,v) :: r,m,h =>by
  obtain ⟨h1,h2⟩:=List.nodup_cons.mp h
  unfold bindC
  simp only [bindC_at hk h2,List.lookup_cons]
  by_cases hx : x = n
  ·subst hx
   have : r.lookup x = none:=by
    cases e : r.lookup x with
    | none =>rfl
    | some v =>exact absurd (List.mem_map_of_mem (aJ e)) h1
   simp only [this,if_neg hk]; simp
  ·have : (x == n) = false:=by simpa using hx
   rw [this]
   congr 1
   split <;> simp [hx]
noncomputable def scOk (sc : Scope) (names : List Str) : Bool :=
 sc.kind == .function && !sc.isCoroutine && !sc.isGenerator && sc.names.all (fun p =>p.2 != .free) && decide ((cellsFrom 0 sc.names []).map (·.1)).Nodup && decide names.Nodup &&
  names.all (fun x =>sc.names.lookup x == some .local || (sc.names.lookup x == some .cell && ((cellsFrom 0 sc.names []).lookup x).isSome)) &&
  sc.names.all (fun p =>p.2 != .cell || ((cellsFrom 0 sc.names []).lookup p.1).isSome)
structure ScOk (sc : Scope) (names : List Str) : Prop where
 kind : sc.kind = .function
 co : sc.isCoroutine = false
 gen : sc.isGenerator = false
 free : ∀ p ∈ sc.names,p.2 ≠ .free
 cells : ((cellsFrom 0 sc.names []).map (·.1)).Nodup
 nd : names.Nodup
 par : ∀ x ∈ names,sc.names.lookup x = some .local ∨ (sc.names.lookup x = some .cell ∧ ((cellsFrom 0 sc.names []).lookup x).isSome = true)
 has : ∀ p ∈ sc.names,p.2 = .cell → ((cellsFrom 0 sc.names []).lookup p.1).isSome = true
theorem scOk_of {sc : Scope} {names : List Str} (h : scOk sc names = true) : ScOk sc names:=by
 unfold scOk at h
 simp only [Bool.and_eq_true,List.all_eq_true,Bool.or_eq_true,bne_iff_ne,beq_iff_eq,decide_eq_true_eq,Bool.not_eq_true'] at h
 obtain ⟨⟨⟨⟨⟨⟨⟨h1,h2⟩,h3⟩,h4⟩,h5⟩,h6⟩,h7⟩,h8⟩:=h
 exact ⟨h1,h2,h3,h4,h5,h6,h7,fun p hp hc =>(h8 p hp).resolve_left (fun hn =>hn hc)⟩
theorem gz {names : List (Str × NameKind)} {x : Str} {n m : Nat} (h : ((cellsFrom n names []).lookup x).isSome = true) : ((cellsFrom m names []).lookup x).isSome = true:=by
 have key : ∀ {l : List (Str × Addr)},(l.lookup x).isSome = true ↔ x ∈ l.map (·.1):=by
  intro l
  induction l with
  | nil =>simp
  | cons p r ih =>
   obtain ⟨y,c⟩:=p
   simp only [List.lookup_cons,List.map_cons,List.mem_cons]
   by_cases hx : x = y
   ·subst hx; simp
   ·have : (x == y) = false:=by simpa using hx
    simp only [this,ih]; simp [hx]
 rw [key] at h ⊢
 rw [cellsFrom_names names m n [] [] rfl]
 exact h
section
variable {X : Gx} {G : Ge} {N n : Nat} {B : Heap} {H : List Addr} {sc : Scope} {g : Gam} {s : Shared} {A : Around}
inductive GInst (X : Gx) (H D : List Addr) (h : Heap) (x : Str) (u : Value) (K : Option Addr) (fl : List (Str × V)) : Prop
 | mk (ix dx Ca : Addr) (es : List DictEntry) (n : Nat) (e1 : X.sv = some (ix,dx)) (e2 : x = ("self" : Str)) (e3 : u = .ref ix) (e4 : K = some Ca) (e5 : h.get? ix = some (instObj Ca dx)) (e6 : h.get? dx = some (dictOf es n)) (e7 : dx ∈ D) (e8 : ix ∉ D) (r : bR (hideAll h H) fl es) : GInst X H D h x u K fl
structure Given (X : Gx) (B : Heap) (H D : List Addr) (sc : Scope) (bs : List (Str × Value)) (g : Gam) (s : Shared) : Prop where
 b0 : Sub X.B0 B
 keep : Sub B s.heap
 hcb : HOk H B
 dOff : ∀ a ∈ D,B.get? a = none ∧ ∃ es n,s.heap.get? a = some (dictOf es n)
 pn : X.pn = []
 ent : ∀ x av,g.lookup x = some av → ∃ u,bs.lookup x = some u ∧ (match av with
  | .val v =>Rep (hideAll s.heap H) v u
  | .own _ =>False
  | .inst C fl =>GInst X H D s.heap x u (X.clsA C) fl)
 self : ∀ ix dx,X.sv = some (ix,dx) → bs.lookup ("self" : Str) = some (.ref ix)
theorem frame_up {D : List Addr} {bs : List (Str × Value)} {qual : Str} {func : Option Addr} {code : Value} {s' : Shared} {env : Env} (R : Given X B H D sc bs g s) (C : ScOk sc (bs.map (·.1)))
  (he : env = newEnv sc s.heap.objs.size mainGlobals (cellsFrom (s.heap.objs.size + 1) sc.names []) qual func code none builtinsNs)
  (x : InCallC s env.locals (bindL env.kindOf bs fun _ =>none) env.cells (bindC env.kindOf bs fun _ =>none) s') :
  St X sc env H (env.locals :: (env.cells.map (·.2) ++ D)) g s' ∧ Fm X B H H (env.locals :: (env.cells.map (·.2) ++ D)) env s':=by
 have k:=x.toInCall.keep
 have hsc : env.scope = sc:=by rw [he]; rfl
 have hcl : env.cells = cellsFrom (s.heap.objs.size + 1) sc.names []:=by rw [he]; rfl
 have hloc : env.locals = s.heap.objs.size:=by rw [he]; rfl
 have hkn : ∀ y,env.kindOf y = sc.names.lookup y:=fun y =>by unfold Env.kindOf; rw [hsc]
 have hnd : (env.cells.map (·.1)).Nodup:=by rw [hcl,cellsFrom_names sc.names _ 0 [] [] rfl]; exact C.cells
 have hcell : ∀ n c,(n,c) ∈ env.cells → s'.heap.IsCell c (bindC env.kindOf bs (fun _ =>none) n) ∧ s.heap.get? c = none:=fun n c hm =>by
  refine ⟨x.cell n c (lookup_of_mem_nodup hnd hm),?_⟩
  have:=x.above n c hm
  cases e : s.heap.get? c with
  | none =>rfl
  | some o =>rw [hloc] at this; exact absurd (Heap.lt_size e) (Nat.not_lt.mpr (Nat.le_of_lt this))
 have hLn : s.heap.get? env.locals = none:=by
  rw [hloc]; exact ck
 have off : ∀ a ∈ env.locals :: (env.cells.map (·.2) ++ D),B.get? a = none:=fun a ha =>by
  have none_of : s.heap.get? a = none → B.get? a = none:=fun h =>by
   cases e : B.get? a with
   | none =>rfl
   | some o =>rw [R.keep a o e] at h; cases h
  rcases List.mem_cons.mp ha with rfl | ha
  ·exact none_of hLn
  ·rcases List.mem_append.mp ha with ha | ha
   ·refine bc fun hN =>?_
    obtain ⟨p,hp,rfl⟩:=List.mem_map.mp ha
    refine hN ?_; clear hN
    exact none_of (hcell p.1 p.2 hp).2
   ·exact (R.dOff a ha).1
 have hH : ∀ a ∈ H,a ∉ env.locals :: (env.cells.map (·.2) ++ D):=fun a ha hm =>by
  refine bc fun hN =>?_
  obtain ⟨o,e⟩:=R.hcb a ha
  refine hN ?_; clear hN
  rw [off a hm] at e; exact nS e
 have kB : Sub B s'.heap:=fun b o e =>k b o (R.keep b o e)
 have hk : aI (hideAll s.heap H) (hideAll s'.heap H):=.of (cA k)
 have hbn : (bs.map (·.1)).Nodup:=C.nd
 have hns:=x.toInCall.ns
 refine ⟨⟨fun b o e =>kB b o (R.b0 b o e),by rw [hsc]; exact C.kind,by rw [he]; rfl,by rw [he]; rfl,⟨fun y h =>(hkn y).trans h,fun y h =>(hkn y).trans h,fun y h =>absurd rfl (C.free _ (aJ h)),fun y h =>(hkn y).trans h,fun y h =>?_⟩,fun a ha =>?_,_,fun _ =>(X.sv.map (·.2)).getD 0,hns,fun y av hy hl =>?_,fun y z hy hz c1 c2 _ =>?_,fun hs ix dx hsv =>?_,fun y hy c =>by rw [R.pn]; simp⟩,
  ⟨R.b0,kB,off,fun a ha =>?_,fun a ha =>.inl ha,fun a ha =>ha,R.hcb,fun a ha hn o e =>?_,⟨.head _,fun hm =>hH _ hm (.head _)⟩,fun y c h =>?_,fun y z c h1 h2 =>?_⟩⟩
 ·rw [hcl]
  rcases h with h | h
  ·exact gz (C.has _ (aJ h) rfl)
  ·exact absurd rfl (C.free _ (aJ h))
 ·refine bc fun hN =>?_
  obtain ⟨o,e⟩:=R.hcb a ha
  refine hN ?_; clear hN
  exact ⟨o,kB a o e⟩
 ·refine bc fun hN =>?_
  obtain ⟨u,hu,hr⟩:=R.ent y av hl
  refine hN ?_; clear hN
  have hyn : y ∈ bs.map (·.1):=List.mem_map_of_mem (aJ hu)
  have hat : At env s'.heap (bindL env.kindOf bs fun _ =>none) y u:=by
   rcases C.par y hyn with h | ⟨h,hc⟩
   ·refine .inl ⟨(hkn y).trans h,?_⟩
    simp only [bindL_at ((hkn y).trans h) hbn,hu]; rfl
   ·refine bc fun hN =>?_
    obtain ⟨c,hc'⟩:=Option.isSome_iff_exists.mp (gz (m:=s.heap.objs.size + 1) hc)
    refine hN ?_; clear hN
    rw [← hcl] at hc'
    refine .inr ⟨.inl ((hkn y).trans h),c,hc',?_⟩
    have:=(hcell y c (aJ hc')).1
    rw [bindC_at (by simp only [hkn,h]; decide) hbn,hu] at this
    exact this
  cases av with
  | val v =>exact ⟨u,hat,hr.mono hk⟩
  | own _ =>exact hr.elim
  | inst Cn fl =>
   refine bc fun hN =>?_
   obtain ⟨ix,dx,Ca,es,n,e1,e2,e3,e4,e5,e6,e7,e8,e9⟩:=hr
   refine hN ?_; clear hN
   subst e3
   have had : (X.sv.map (·.2)).getD 0 = dx:=by rw [e1]; rfl
   refine ⟨ix,Ca,es,n,hat,e4,?_,?_,?_,?_,fun hm =>?_,?_,e9.mono hk⟩
   ·show s'.heap.get? ix = some (instObj Ca ((X.sv.map (·.2)).getD 0))
    rw [had]; exact k _ _ e5
   ·show s'.heap.get? ((X.sv.map (·.2)).getD 0) = _
    rw [had]; exact k _ _ e6
   ·show (X.sv.map (·.2)).getD 0 ∈ _
    rw [had]; exact .tail _ (List.mem_append_right _ e7)
   ·show (X.sv.map (·.2)).getD 0 ∉ _
    rw [had]; exact fun hm =>hH _ hm (.tail _ (List.mem_append_right _ e7))
   ·rcases List.mem_cons.mp hm with h | hm
    ·simp only [h,hLn] at e5; exact nS e5
    ·rcases List.mem_append.mp hm with hm | hm
     ·obtain ⟨p,hp,hpe⟩:=List.mem_map.mp hm
      have:=(hcell p.1 p.2 hp).2
      simp only [hpe,e5] at this; cases this
     ·exact e8 hm
   ·show (X.sv.map (·.2)).getD 0 ≠ _
    rw [had]; intro h; simp only [h,hLn] at e6; exact nS e6
 ·have only : ∀ y,ax sc y = true → aV (g.lookup y) → y = ("self" : Str):=fun y hy c =>by
   cases e : g.lookup y with
   | none =>rw [e] at c; exact c.elim
   | some av =>
    rw [e] at c
    obtain ⟨u,_,hr⟩:=R.ent y av e
    cases av with
    | val v =>exact c.elim
    | own _ =>exact hr.elim
    | inst Cn fl =>obtain ⟨_,_,_,_,_,_,e2,_⟩:=hr; exact e2
  simp only [only y hy c1,only z hz c2]
 ·refine ⟨?_,by rw [hsv]; rfl⟩
  simp only [bindL_at ((hkn _).trans hs) hbn,R.self ix dx hsv]; rfl
 ·rcases List.mem_cons.mp ha with rfl | ha
  ·obtain ⟨o,_,_,ho,_⟩:=hns; exact ⟨o,ho⟩
  ·rcases List.mem_append.mp ha with ha | ha
   ·refine bc fun hN =>?_
    obtain ⟨p,hp,rfl⟩:=List.mem_map.mp ha
    obtain ⟨o,ho,_⟩:=(hcell p.1 p.2 hp).1
    refine hN ?_; clear hN
    exact ⟨o,ho⟩
   ·refine bc fun hN =>?_
    obtain ⟨_,es,k2,ho⟩:=R.dOff a ha
    refine hN ?_; clear hN
    exact ⟨_,k _ _ ho⟩
 ·rcases List.mem_cons.mp ha with rfl | ha
  ·exact ce hns e
  ·rcases List.mem_append.mp ha with ha | ha
   ·obtain ⟨p,hp,rfl⟩:=List.mem_map.mp ha
    obtain ⟨o',ho,hd⟩:=(hcell p.1 p.2 hp).1
    rw [e] at ho; obtain rfl:=oj ho
    exact fun ⟨_,_,hq⟩ =>by rw [hd] at hq; cases hq
   ·obtain ⟨_,es,k2,ho⟩:=R.dOff a ha
    rw [k _ _ ho] at e; obtain rfl:=oj e
    exact fun ⟨_,_,hq⟩ =>by cases hq
 ·exact ⟨.tail _ (List.mem_append_left _ (List.mem_map_of_mem (aJ h))),_,(hcell y c (aJ h)).1⟩
 ·exact name_of_addr x.apart (aJ h1) (aJ h2)
end
structure FnRec where
 names : List Str
 body : List Stmt
 sc : Scope
 mu : List Str
 pats : List (Nat × List Str)
 dfl : List (Str × V)
noncomputable def restOf (names : List Str) (kvs : List (Str × V)) : List V:=names.map fun x =>(kvs.lookup x).getD .none
structure FnAt (X : Gx) (r : FnRec) (f : Addr) (o : Obj) (fd : FuncData) : Prop where
 at_ : X.B0.get? f = some o
 data : o.data = .func fd
 code : X.B0.CodeRec fd.code fd.qualname
 body : fd.body = .stmts r.body
 sc : fd.scope = r.sc
 glob : fd.globals = mainGlobals
 blt : fd.builtins = builtinsNs
 clo : fd.closure = []
 bind : ∀ (us kus : List Value) (kwn : List Str) (s : Shared),(us.length,kwn) ∈ r.pats → kus.length = kwn.length → Sub X.B0 s.heap → ∃ ws,BindsTo s fd ⟨us,kwn.zip kus⟩ (r.names.zip (us ++ ws)) ∧ us.length + ws.length = r.names.length ∧
  ∀ h (kvs : List (Str × V)),kvs.map (·.1) = kwn → Reps h (kvs.map (·.2)) kus → Reps h (restOf (r.names.drop us.length) (kvs ++ r.dfl)) ws
noncomputable def Gx.v (X : Gx) (sv : Option (Addr × Addr)) : Gx:={ X with sv:=sv,pn:=[] }
theorem GOk2.v {X : Gx} {G : Ge} {N : Nat} (h : GOk2 X G N) (sv : Option (Addr × Addr)) : GOk2 (X.v sv) G N :=
 { cst:=h.cst,fn:=h.fn,pm:=fun C m vs r Ca h1 h2 =>let ⟨f,M,F⟩:=h.pm C m vs r Ca h1 h2; ⟨f,⟨M.get,M.find,M.fn,M.keep⟩,F⟩,flds:=fun C f Ca h1 h2 =>let F:=h.flds C f Ca h1 h2; ⟨F.get,F.has,F.find⟩,cls:=h.cls,mth:=fun C m fl vs r fl' Ca h1 h2 =>let ⟨f,M,F⟩:=h.mth C m fl vs r fl' Ca h1 h2; ⟨f,⟨M.get,M.find,M.fn,M.keep⟩,F⟩,sets:=fun C f Ca h1 h2 =>let F:=h.sets C f Ca h1 h2; ⟨F.set,F.over,F.take,F.has⟩ }
section
variable {X : Gx} {G : Ge} {N n : Nat} {B : Heap} {H : List Addr} {g : Gam} {s : Shared} {A : Around} {r : FnRec} {f : Addr} {o : Obj} {fd : FuncData}
inductive ERet (X : Gx) (B : Heap) (H : List Addr) (sc : Scope) (s : Shared) (v : V) (g' : Gam) (u : Value) (s' : Shared) : Prop
 | mk (e : HT s s') (b : Sub B s'.heap) (r : Rep (hideAll s'.heap H) v u) (env : Env) (Mu' : List Addr) (S : St X sc env H Mu' g' s') : ERet X B H sc s v g' u s'
inductive ENext (X : Gx) (B : Heap) (H : List Addr) (sc : Scope) (s : Shared) (g' : Gam) (u : Value) (s' : Shared) : Prop
 | mk (e : u = .none) (t : HT s s') (b : Sub B s'.heap) (env : Env) (H' Mu' : List Addr) (k : ∀ a ∈ H,a ∈ H') (S : St X sc env H' Mu' g' s') : ENext X B H sc s g' u s'
noncomputable def Ended (X : Gx) (B : Heap) (H : List Addr) (sc : Scope) (s : Shared) : Fl → Value → Shared → Prop
 | .ret v g',u,s' =>ERet X B H sc s v g' u s'
 | .next g',u,s' =>ENext X B H sc s g' u s'
 | .brk _,_,_ =>False
theorem fU (hG : GOk2 X G N) (hX : X.p [] = X) (K : FnAt X r f o fd) {D : List Addr} {bs : List (Str × Value)} {args : Args} {fl : Fl} {R : Result → Shared → Prop} (C : ScOk r.sc (bs.map (·.1))) (hA : Room A (N + n + 1)) (hs : Sub X.B0 s.heap)
  (hb : BindsTo s fd args bs) (GV : Given X B H D r.sc bs g s) (hfl : ∀ g',fl ≠ .brk g') (h : exs n G r.sc r.mu r.body g = some fl) (q : ∀ u s',Ended X B H r.sc s fl u s' → R (.ok (.ret u)) s') :
  codeAny (model X.prog X.w) A (.call (.ref f) args) R s:=by
 refine codeAny_call_function hA.d (hs _ _ K.at_) K.data (by rw [K.sc]; exact C.co) (by rw [K.sc]; exact C.gen) K.body (K.code.keeps hs) (hb _ _ _ _ ?_)
 simp only [K.sc,K.glob,K.clo,K.blt]
 refine wpAny_newFunctionEnv_cells C.kind (fun y hy =>?_) fun env he s' x =>?_
 ·rcases C.par y.1 (List.mem_map_of_mem hy) with h | ⟨h1,h2⟩
  ·exact .inl h
  ·exact .inr ⟨h1,gz h2⟩
 ·refine ⟨(X.lim.keeps hs).keeps x.toInCall.keep,codeAny_func ?_⟩
  refine bc fun hN =>?_
  obtain ⟨S,F⟩:=frame_up GV C he x
  refine hN ?_; clear hN
  have hA2 : Room (A.deeper env) (N + n):=⟨hA.hh,by have:=hA.depth; show A.depth + 1 + _ < 600; lia,by have:=hA.units; show A.units + 3 + _ < 9000; lia⟩
  refine bc fun hN =>?_
  obtain ⟨h1,t1,e1,_⟩:=x.done
  refine hN ?_; clear hN
  have same : ∀ {s'' : Shared},Mv (env.locals :: (env.cells.map (·.2) ++ D)) s' s'' → HT s s'':=fun {s''} m =>by
   refine bc fun hN =>?_
   obtain ⟨h2,t2,rfl,_⟩:=m
   refine hN ?_; clear hN
   exact ⟨h2,t2,by rw [e1]⟩
  refine wpAny_mono ((exs_sound hX hG n).2 _ _ _ _ _ _ _ hA2 _ _ _ _ (fun _ _ =>False) fl S F h) (fun fw s'' hf =>?_) fun _ _ e =>e.elim
  cases fl with
  | next g' =>
   refine bc fun hN =>?_
   obtain ⟨rfl,H',Mu',S',F',m,_⟩:=hf
   refine hN ?_; clear hN
   exact q _ _ ⟨rfl,same m,F'.keep,env,H',Mu',F'.hc,S'⟩
  | brk g' =>exact absurd rfl (hfl g')
  | ret v g' =>
   refine bc fun hN =>?_
   obtain ⟨u,Mu',rfl,hr,S',m,hB⟩:=hf
   refine hN ?_; clear hN
   exact q _ _ ⟨same m,hB,hr,env,Mu',S'⟩
noncomputable def runF (r : FnRec) (n : Nat) (G : Ge) (vs : List V) (kvs : List (Str × V)) : Option V :=
 if r.pats.contains (vs.length,kvs.map (·.1)) && scOk r.sc r.names then
  match exs n G r.sc r.mu r.body (r.names.zip ((vs ++ restOf (r.names.drop vs.length) (kvs ++ r.dfl)).map .val)) with
  | some (.ret v _) =>some v
  | some (.next _) =>some .none
  | _ =>Option.none
 else Option.none
theorem fI {α β : Type} {P : α → β → Prop} : ∀ {ns : List Str} {as : List α} {bs : List β} {x : Str} {a : α},as.length = bs.length → (∀ i (h1 : i < as.length) (h2 : i < bs.length),P as[i] bs[i]) → (ns.zip as).lookup x = some a → ∃ b,(ns.zip bs).lookup x = some b ∧ P a b
 | [],_,_,_,_,_,_,h =>by simp at h
 | _ :: _,[],_,_,_,_,_,h =>by simp at h
 | _ :: _,_ :: _,[],_,_,h,_,_ =>by simp at h
 | n :: ns,a :: as,b :: bs,x,c,hl,hP,h =>by
  simp only [List.zip_cons_cons,List.lookup_cons] at h ⊢
  cases hx : x == n with
  | true =>
   rw [hx] at h; obtain rfl:=oj h
   exact ⟨b,rfl,hP 0 (by simp) (by simp)⟩
  | false =>
   rw [hx] at h
   exact fI (by simpa using hl) (fun i h1 h2 =>hP (i + 1) (by simpa using h1) (by simpa using h2)) h
theorem Reps.at {h : Heap} : ∀ {vs : List V} {us : List Value},Reps h vs us → ∀ i (h1 : i < (vs.map AV.val).length) (h2 : i < us.length),∃ v,(vs.map AV.val)[i] = .val v ∧ Rep h v us[i]:=by
 intro vs us r i h1 h2
 have h1' : i < vs.length:=by simpa using h1
 refine bc fun hN =>?_
 obtain ⟨u,e,hr⟩:=r.get (List.getElem?_eq_getElem h1')
 refine hN ?_; clear hN
 rw [List.getElem?_eq_getElem h2] at e; obtain rfl:=oj e
 exact ⟨vs[i],by simp,hr⟩
theorem fnSpec_of (hG : GOk2 X G N) (K : FnAt X r f o fd) {vs : List V} {kvs : List (Str × V)} {v : V} (h : runF r n G vs kvs = some v) : FnSpec X (N + n + 1) (.ref f) vs kvs v:=by
 intro A s H us kus Q E hA hs ho hr hk q
 unfold runF at h
 split at h
 ·rename_i hc
  simp only [Bool.and_eq_true,List.contains_iff_mem] at hc
  have C:=scOk_of hc.2
  have hul:=hr.length
  have hkl:=hk.length
  refine bc fun hN =>?_
  obtain ⟨ws,hb,hwl,hw⟩:=K.bind us kus (kvs.map (·.1)) s (by rw [hul]; exact hc.1) (by rw [hkl]; simp) hs
  refine hN ?_; clear hN
  have hws:=hw (hideAll s.heap H) kvs rfl hk
  have hall : Reps (hideAll s.heap H) (vs ++ restOf (r.names.drop vs.length) (kvs ++ r.dfl)) (us ++ ws):=by
   rw [hul] at hws
   exact hr.append hws
  have hX : (X.v none).p [] = X.v none:=rfl
  have K' : FnAt (X.v none) r f o fd:=⟨K.at_,K.data,K.code,K.body,K.sc,K.glob,K.blt,K.clo,K.bind⟩
  have hfst : (r.names.zip (us ++ ws)).map (·.1) = r.names:=List.map_fst_zip (by rw [List.length_append]; lia)
  have GV : Given (X.v none) s.heap H [] r.sc (r.names.zip (us ++ ws)) (r.names.zip ((vs ++ restOf (r.names.drop vs.length) (kvs ++ r.dfl)).map .val)) s:=by
   refine ⟨hs,fun _ _ e =>e,ho,fun a ha =>(by cases ha),rfl,fun x av hl =>?_,fun ix dx e =>by cases e⟩
   have:=fI (P:=fun (a : AV) (u : Value) =>∃ v,a = .val v ∧ Rep (hideAll s.heap H) v u) (bs:=us ++ ws) (by rw [List.length_map]; exact hall.length.symm) (hall.at) hl
   refine bc fun hN =>?_
   obtain ⟨u,hu,v,rfl,hv⟩:=this
   refine hN ?_; clear hN
   exact ⟨u,hu,hv⟩
  have go : ∀ fl,exs n G r.sc r.mu r.body (r.names.zip ((vs ++ restOf (r.names.drop vs.length) (kvs ++ r.dfl)).map .val)) = some fl → (∀ g',fl ≠ .brk g') → (∀ u s',Ended (X.v none) s.heap H r.sc s fl u s' → Kp s s' ∧ Rep (hideAll s'.heap H) v u) →
    wpAny (model X.prog X.w) A (call (.ref f) us ((kvs.map (·.1)).zip kus)) Q E s:=fun fl hfl hnb hend =>
   wpAny_call (fU (X:=X.v none) (hG.v none) hX K' (by rw [hfst]; exact C) hA hs hb GV hnb hfl fun u s' he =>let ⟨k,rr⟩:=hend u s' he; q u s' k rr)
  split at h
  ·rename_i v' g' hfl
   obtain rfl:=oj h
   refine go _ hfl (fun _ h =>by cases h) fun u s' ⟨⟨h1,t1,e1⟩,hB,hr',_,_,_⟩ =>⟨⟨h1,t1,e1,?_⟩,hr'⟩
   subst e1; exact hB
  ·rename_i g' hfl
   obtain rfl:=oj h
   refine go _ hfl (fun _ h =>by cases h) fun u s' ⟨hu,⟨h1,t1,e1⟩,hB,_,_,_,_,_⟩ =>⟨⟨h1,t1,e1,?_⟩,by unfold Rep; exact hu⟩
   subst e1; exact hB
  ·exact nS h
 ·exact nS h
end
section
variable {X : Gx} {G : Ge} {N n : Nat} {B : Heap} {H : List Addr} {g : Gam} {s : Shared} {A : Around} {r : FnRec} {f : Addr} {o : Obj} {fd : FuncData}
theorem self_fields {sc : Scope} {env : Env} {H' Mu' : List Addr} {g' : Gam} {s'' : Shared} {ix dx : Addr} {C : Str} {fl : List (Str × V)} (S : St X sc env H' Mu' g' s'') (hsv : X.sv = some (ix,dx)) (hk : sc.names.lookup ("self" : Str) = some .local) (hl : g'.lookup ("self" : Str) = some (.inst C fl)) :
  ∃ es n,s''.heap.get? dx = some (dictOf es n) ∧ bR (hideAll s''.heap H') fl es:=by
 refine bc fun hN =>?_
 obtain ⟨m,ad,hn,hd,inj,h1,h2⟩:=S.held
 obtain ⟨e1,e2⟩:=h1 hk ix dx hsv
 have hloc : ax sc ("self" : Str) = true:=by
  unfold ax
  rw [hk]
  have : dbg ("self" : Str) = false:=by decide
  rw [this]; rfl
 obtain ⟨ix',Ca,es,n,a,_,_,e4,_,_,_,_,rf⟩:=hd _ _ hloc hl
 refine hN ?_; clear hN
 rw [e2] at e4
 exact ⟨es,n,e4,rf⟩
noncomputable def fJ (r : FnRec) (k : Nat) : Bool:=r.pats.contains (k + 1,[]) && scOk r.sc r.names && r.names.head? == some ("self" : Str) && r.sc.names.lookup ("self" : Str) == some .local
noncomputable def dG (r : FnRec) (vs : List V) : Gam:=(r.names.drop 1).zip ((vs ++ restOf (r.names.drop (vs.length + 1)) r.dfl).map .val)
noncomputable def runP (r : FnRec) (n : Nat) (G : Ge) (vs : List V) : Option V :=
 if fJ r vs.length then
  match exs n G r.sc r.mu r.body (dG r vs) with
  | some (.ret v _) =>some v
  | _ =>Option.none
 else Option.none
noncomputable def runM (r : FnRec) (n : Nat) (G : Ge) (C : Str) (fl : List (Str × V)) (vs : List V) : Option (V × List (Str × V)) :=
 if fJ r vs.length then
  match exs n G r.sc r.mu r.body (("self",.inst C fl) :: dG r vs) with
  | some (.ret v g') =>match g'.lookup ("self" : Str) with
   | some (.inst _ fl') =>some (v,fl')
   | _ =>Option.none
  | _ =>Option.none
 else Option.none
noncomputable def runC (r : FnRec) (n : Nat) (G : Ge) (C : Str) (vs : List V) : Option (List (Str × V)) :=
 if fJ r vs.length then
  match exs n G r.sc r.mu r.body (("self",.inst C []) :: dG r vs) with
  | some (.next g') =>match g'.lookup ("self" : Str) with
   | some (.inst _ fl') =>some fl'
   | _ =>Option.none
  | _ =>Option.none
 else Option.none
theorem FnAt.v (K : FnAt X r f o fd) (sv : Option (Addr × Addr)) : FnAt (X.v sv) r f o fd:=⟨K.at_,K.data,K.code,K.body,K.sc,K.glob,K.blt,K.clo,K.bind⟩
inductive MPe (H : List Addr) (h : Heap) (bs : List (Str × Value)) (x : Str) (av : AV) : Prop
 | mk (ne : x ≠ ("self" : Str)) (u : Value) (v : V) (h1 : bs.lookup x = some u) (e : av = .val v) (r : Rep (hideAll h H) v u) : MPe H h bs x av
inductive MPars (H : List Addr) (s : Shared) (r : FnRec) (fd : FuncData) (u0 : Value) (vs : List V) (us : List Value) : Prop
 | mk (bs : List (Str × Value)) (hb : BindsTo s fd ⟨u0 :: us,[]⟩ bs) (hn : bs.map (·.1) = r.names) (C : ScOk r.sc r.names) (hself : bs.lookup ("self" : Str) = some u0) (hloc : r.sc.names.lookup ("self" : Str) = some .local)
   (he : ∀ x av,(dG r vs).lookup x = some av → MPe H s.heap bs x av) : MPars H s r fd u0 vs us
theorem meth_pars (K : FnAt X r f o fd) {vs : List V} {us : List Value} (u0 : Value) (hs : Sub X.B0 s.heap) (hc : fJ r vs.length = true) (hr : Reps (hideAll s.heap H) vs us) :
  MPars H s r fd u0 vs us:=by
 unfold fJ at hc
 simp only [Bool.and_eq_true,List.contains_iff_mem,beq_iff_eq] at hc
 refine bc fun hN =>?_
 obtain ⟨⟨⟨h1,h2⟩,h3⟩,h4⟩:=hc
 have C:=scOk_of h2
 have hul:=hr.length
 obtain ⟨ws,hb,hwl,hw⟩:=K.bind (u0 :: us) [] [] s (by simpa [hul] using h1) rfl hs
 have hws:=hw (hideAll s.heap H) [] rfl .nil
 obtain ⟨rest,hn⟩ : ∃ rest,r.names = ("self" : Str) :: rest:=by
  cases e : r.names with
  | nil =>rw [e] at h3; exact nS h3
  | cons a b =>rw [e] at h3; obtain rfl:=oj h3; exact ⟨b,rfl⟩
 have hnd:=C.nd
 rw [hn] at hnd
 obtain ⟨hn1,hn2⟩:=List.nodup_cons.mp hnd
 refine hN ?_; clear hN
 refine ⟨_,hb,List.map_fst_zip (by rw [List.length_append]; lia),C,by rw [hn]; rfl,h4,fun x av hl =>?_⟩
 have hall : Reps (hideAll s.heap H) (vs ++ restOf (r.names.drop (vs.length + 1)) r.dfl) (us ++ ws):=by
  have : (u0 :: us).length = vs.length + 1:=by simp [hul]
  simp only [this,List.nil_append] at hws
  exact hr.append hws
 unfold dG at hl
 refine bc fun hN =>?_
 obtain ⟨u,hu,v,rfl,hv⟩:=fI (P:=fun (a : AV) (u : Value) =>∃ v,a = .val v ∧ Rep (hideAll s.heap H) v u) (bs:=us ++ ws) (by rw [List.length_map]; exact hall.length.symm) (hall.at) hl
 refine hN ?_; clear hN
 have hx : x ≠ ("self" : Str):=fun h =>by
  have:=(List.of_mem_zip (aJ hl)).1
  rw [hn] at this
  exact hn1 (h ▸ this)
 refine ⟨hx,u,v,?_,rfl,hv⟩
 rw [hn] at hu ⊢
 show List.lookup x ((("self" : Str),u0) :: rest.zip (us ++ ws)) = some u
 rw [List.lookup_cons]
 have : (x == ("self" : Str)) = false:=by simpa using hx
 rw [this]; exact hu
theorem pmSpec_of (hG : GOk2 X G N) (K : FnAt X r f o fd) {Ca : Addr} {vs : List V} {v : V} (h : runP r n G vs = some v) : PmSpec X (N + n + 1) Ca f vs v:=by
 intro A s H ix dx us Q E hA hs ho hix hr q
 unfold runP at h
 split at h
 ·rename_i hc
  refine bc fun hN =>?_
  obtain ⟨bs,hb,hbn,C,hself,hloc,hent⟩:=meth_pars (H:=H) K (.ref ix) hs hc hr
  refine hN ?_; clear hN
  split at h
  ·rename_i v' g' hfl
   obtain rfl:=oj h
   have GV : Given (X.v none) s.heap H [] r.sc bs (dG r vs) s:=by
    refine ⟨hs,fun _ _ e =>e,ho,fun a ha =>(by cases ha),rfl,fun x av hl =>?_,fun ix dx e =>by cases e⟩
    refine bc fun hN =>?_
    obtain ⟨_,u,v,h1,rfl,h3⟩:=hent x av hl
    refine hN ?_; clear hN
    exact ⟨u,h1,h3⟩
   refine wpAny_call (fU (X:=X.v none) (hG.v none) rfl (K.v none) (by rw [hbn]; exact C) hA hs hb GV (fun _ h =>by cases h) hfl fun u s' ⟨⟨h1,t1,e1⟩,hB,hr',_,_,_⟩ =>q u s' ⟨h1,t1,e1,?_⟩ hr')
   subst e1; exact hB
  ·exact nS h
 ·exact nS h
theorem given_self {ix dx Ca : Addr} {C : Str} {fl : List (Str × V)} {es : List DictEntry} {k : Nat} {bs : List (Str × Value)} {vs : List V} (hs : Sub X.B0 s.heap) (ho : HOk H s.heap) (hix : s.heap.get? ix = some (instObj Ca dx)) (hdx : s.heap.get? dx = some (dictOf es k)) (hdH : dx ∉ H) (hdB : X.B0.get? dx = none) (hCa : X.clsA C = some Ca)
  (hfl : bR (hideAll s.heap H) fl es) (hself : bs.lookup ("self" : Str) = some (.ref ix)) (hent : ∀ x av,(dG r vs).lookup x = some av → MPe H s.heap bs x av) :
  Given (X.v (some (ix,dx))) (hideAll s.heap [dx]) H [dx] r.sc bs (("self",.inst C fl) :: dG r vs) s:=by
 have hne : ix ≠ dx:=fun h =>by simp only [h,hdx] at hix; cases hix
 refine ⟨fun b o (e : X.B0.get? b = some o) =>hideAll_get _ (hs b o e) (fun hm =>by rw [List.mem_singleton.mp hm] at e; rw [hdB] at e; exact nS e),fun b o e =>of_hideAll _ e,fun a ha =>?_,fun a ha =>?_,rfl,fun x av hl =>?_,fun i d e =>?_⟩
 ·refine bc fun hN =>?_
  obtain ⟨ob,e⟩:=ho a ha
  refine hN ?_; clear hN
  exact ⟨ob,hideAll_get _ e fun hm =>hdH (by rw [← List.mem_singleton.mp hm]; exact ha)⟩
 ·rw [List.mem_singleton.mp ha]
  exact ⟨hideAll_none _ (.head _),es,k,hdx⟩
 ·rw [List.lookup_cons] at hl
  by_cases hx : x = ("self" : Str)
  ·subst hx
   simp only [beq_self_eq_true] at hl
   obtain rfl:=oj hl
   exact ⟨.ref ix,hself,ix,dx,Ca,es,k,rfl,rfl,rfl,hCa,hix,hdx,.head _,fun hm =>hne (List.mem_singleton.mp hm),hfl⟩
  ·have : (x == ("self" : Str)) = false:=by simpa using hx
   rw [this] at hl
   refine bc fun hN =>?_
   obtain ⟨_,u,v,h1,rfl,h3⟩:=hent x av hl
   refine hN ?_; clear hN
   exact ⟨u,h1,h3⟩
 ·cases e; exact hself
theorem mSpec_of (hG : GOk2 X G N) (K : FnAt X r f o fd) {Ca : Addr} {C : Str} {fl fl' : List (Str × V)} {vs : List V} {v : V} (hCa : X.clsA C = some Ca) (h : runM r n G C fl vs = some (v,fl')) : MSpec X (N + n + 1) Ca f fl vs v fl':=by
 intro A s H ix dx es k us Q E hA hs ho hix hdx hdH hdB hfl hr q
 unfold runM at h
 split at h
 ·rename_i hc
  refine bc fun hN =>?_
  obtain ⟨bs,hb,hbn,C',hself,hloc,hent⟩:=meth_pars (H:=H) K (.ref ix) hs hc hr
  refine hN ?_; clear hN
  split at h
  ·rename_i v' g' hex
   split at h
   ·rename_i C2 fl2 hg
    cases h
    have GV:=given_self (C:=C) hs ho hix hdx hdH hdB hCa hfl hself hent
    refine wpAny_call (fU (X:=X.v (some (ix,dx))) (hG.v _) rfl (K.v _) (by rw [hbn]; exact C') hA hs hb GV (fun _ h =>by cases h) hex fun u s' ⟨⟨h1,t1,e1⟩,hB,hr',env,Mu',S'⟩ =>?_)
    refine bc fun hN =>?_
    obtain ⟨es',n',hd',hf'⟩:=self_fields S' rfl hloc hg
    refine hN ?_; clear hN
    subst e1
    exact q u h1 t1 es' n' (fun b o hb e =>hB b o (hideAll_get _ e fun hm =>hb (List.mem_singleton.mp hm))) hd' hf' hr'
   ·exact nS h
  ·exact nS h
 ·exact nS h
theorem under_new {Ca : Addr} {us : List Value} (hA : Room A (n + 1)) : Room (A.under (.builtin "type.__call__" ⟨.ref Ca :: us,[]⟩)) n:=by
 have w : (Code.builtin "type.__call__" ⟨.ref Ca :: us,[]⟩).weight = 1:=by kernel_rfl
 have c : (Code.builtin "type.__call__" ⟨.ref Ca :: us,[]⟩).cUnits = 1:=by kernel_rfl
 refine ⟨hA.hh,?_,?_⟩
 ·have:=hA.depth
  show A.depth + (Code.builtin "type.__call__" ⟨.ref Ca :: us,[]⟩).weight + n < 600
  rw [w]; lia
 ·have:=hA.units
  show A.units + (Code.builtin "type.__call__" ⟨.ref Ca :: us,[]⟩).cUnits + 8 * n < 9000
  rw [c]; lia
theorem cSpec_of (hG : GOk2 X G N) (K : FnAt X r f o fd) {Ca : Addr} {C : Str} {fl : List (Str × V)} {vs : List V} (hCa : X.clsA C = some Ca) (hm : makesIn X.K Ca = true) (hi : findIn X.K (.ref Ca) "__init__" = some (some (.ref f))) (hf : typeIn X.K (.ref f) = some (.type "function"))
  (h : runC r n G C vs = some fl) : CSpec X (N + n + 2) Ca vs fl:=by
 intro A s H us Q E hA hs ho hr q
 unfold runC at h
 split at h
 ·rename_i hc
  split at h
  ·rename_i g' hex
   split at h
   ·rename_i C2 fl2 hg
    obtain rfl:=oj h
    refine bc fun hN =>?_
    obtain ⟨hh,gg,dd,tt,os⟩:=s
    refine hN ?_; clear hN
    have XK : X.K.In hh:=X.kin.keeps hs
    refine wpAny_call (make_core (makes_of XK hm) (looks_findIn XK hi) (fun self =>bind_fn XK self hf) (.inl rfl) ?_)
    let s1 : Shared:=⟨(hh.push emptyDict).push (instObj Ca hh.objs.size),gg,dd,tt,os⟩
    have k1 : Kp (⟨hh,gg,dd,tt,os⟩ : Shared) s1:=⟨_,tt,rfl,fun b o e =>Heap.get?_push_of_some _ (Heap.get?_push_of_some _ e)⟩
    have hix : s1.heap.get? (hh.objs.size + 1) = some (instObj Ca hh.objs.size):=by
     have : ((hh.push emptyDict).push (instObj Ca hh.objs.size)).get? (hh.push emptyDict).objs.size = some (instObj Ca hh.objs.size):=Heap.get?_push_size _ rfl
     rwa [Heap.size_push] at this
    have hdx : s1.heap.get? hh.objs.size = some (dictOf [] 0):=Heap.get?_push_of_some _ (Heap.get?_push_size _ rfl)
    have n0 : hh.get? hh.objs.size = none:=ck
    have n1 : hh.get? (hh.objs.size + 1) = none:=by
     cases e : hh.get? (hh.objs.size + 1) with
     | none =>rfl
     | some o =>exact absurd (Heap.lt_size e) (Nat.not_lt.mpr (Nat.le_succ _))
    have hdB : X.B0.get? hh.objs.size = none:=by
     cases e : X.B0.get? hh.objs.size with
     | none =>rfl
     | some o =>have:=hs _ _ e; simp only [show ({ heap:=hh,gens:=gg,drawn:=dd,toks:=tt,os:=os } : Shared).heap.get? hh.objs.size = none from n0] at this; exact nS this
    have hdH : hh.objs.size ∉ H:=ho.fresh
    have hs1 : Sub X.B0 s1.heap:=fun b o e =>k1.keep b o (hs b o e)
    have hr1:=hr.kp k1
    have ho1:=ho.kp k1
    refine bc fun hN =>?_
    obtain ⟨bs,hb,hbn,C',hself,hloc,hent⟩:=meth_pars (s:=s1) (H:=H) K (.ref (hh.objs.size + 1)) hs1 hc hr1
    refine hN ?_; clear hN
    have GV:=given_self (s:=s1) (C:=C) hs1 ho1 hix hdx hdH hdB hCa (fl:=[]) (by unfold bR; rfl) hself hent
    refine fU (s:=s1) (X:=X.v (some (hh.objs.size + 1,hh.objs.size))) (hG.v _) rfl (K.v _) (by rw [hbn]; exact C') (under_new (n:=N + n + 1) hA) hs1 hb GV (fun _ h =>by cases h) hex fun u s' ⟨hu,⟨h1,t1,e1⟩,hB,env,H',Mu',hHH,S'⟩ =>?_
    refine bc fun hN =>?_
    obtain ⟨es',n',hd',hf'⟩:=self_fields S' rfl hloc hg
    refine hN ?_; clear hN
    refine ⟨hu,?_⟩
    subst e1
    have kB : ∀ b o,b ≠ hh.objs.size → s1.heap.get? b = some o → h1.get? b = some o:=fun b o hb e =>hB b o (hideAll_get _ e fun hm =>hb (List.mem_singleton.mp hm))
    refine q (hh.objs.size + 1) hh.objs.size es' n' _ ⟨h1,t1,rfl,fun b o e =>kB b o (fun hb =>?_) (k1.keep b o e)⟩ n1 n0 (Nat.succ_ne_self _) (kB _ _ (Nat.succ_ne_self _) hix) hd' (hf'.mono (.of (hide_sub hHH)))
    rw [hb] at e
    simp only [show ({ heap:=hh,gens:=gg,drawn:=dd,toks:=tt,os:=os } : Shared).heap.get? hh.objs.size = none from n0] at e; exact nS e
   ·exact nS h
  ·exact nS h
 ·exact nS h
end
structure Tab where
 cst : Str → Option V
 fn : Str → Option FnRec
 meth : Str → Str → Option FnRec
 flds : Str → List Str
noncomputable abbrev fuel : Nat:=40
noncomputable def af (T : Tab) : Nat → Ge
 | 0 =>{ cst:=T.cst,fn:=fun _ _ _ =>.none,pm:=fun _ _ _ =>.none,cls:=fun _ _ =>.none,flds:=T.flds,mth:=fun _ _ _ _ =>.none }
 | k + 1 =>{
  cst:=T.cst
  fn:=fun f vs kvs =>(T.fn f).bind fun r =>runF r fuel (af T k) vs kvs
  pm:=fun C m vs =>(T.meth C m).bind fun r =>runP r fuel (af T k) vs
  cls:=fun C vs =>(T.meth C "__init__").bind fun r =>runC r fuel (af T k) C vs
  flds:=T.flds
  mth:=fun C m fl vs =>(T.meth C m).bind fun r =>runM r fuel (af T k) C fl vs }
structure TabOk (X : Gx) (T : Tab) : Prop where
 cst : ∀ x v,T.cst x = some v → ∃ u,X.mg x = some u ∧ ∀ h,Rep h v u
 fn : ∀ f r,T.fn f = some r → ∃ a o fd,X.mg f = some (.ref a) ∧ keepIn X.K (.ref a) = true ∧ FnAt X r a o fd
 meth : ∀ C m r Ca,T.meth C m = some r → X.clsA C = some Ca → ∃ a o fd,MethAt X Ca m a ∧ FnAt X r a o fd
 init : ∀ C r,T.meth C "__init__" = some r → ∃ Ca a o fd,X.clsA C = some Ca ∧ X.mg C = some (.ref Ca) ∧ keepIn X.K (.ref Ca) = true ∧ makesIn X.K Ca = true ∧ findIn X.K (.ref Ca) "__init__" = some (some (.ref a)) ∧ typeIn X.K (.ref a) = some (.type "function") ∧ FnAt X r a o fd
 flds : ∀ C f Ca,f ∈ T.flds C → X.clsA C = some Ca → FieldAt X Ca f ∧ SetAt X Ca f
theorem ge_ok {X : Gx} {T : Tab} (h : TabOk X T) : ∀ k,GOk2 X (af T k) (42 * k)
 | 0 =>{ cst:=h.cst,fn:=fun _ _ _ _ e =>(by exact nS e),pm:=fun _ _ _ _ _ e =>(by exact nS e),flds:=fun C f Ca h1 h2 =>(h.flds C f Ca h1 h2).1,cls:=fun _ _ _ e =>(by exact nS e),mth:=fun _ _ _ _ _ _ _ e =>(by exact nS e),sets:=fun C f Ca h1 h2 =>(h.flds C f Ca h1 h2).2 }
 | k + 1 =>by
  have ih:=ge_ok h k
  have e1 : 42 * k + fuel + 1 ≤ 42 * (k + 1):=by show 42 * k + 40 + 1 ≤ _; lia
  have e2 : 42 * k + fuel + 2 ≤ 42 * (k + 1):=by show 42 * k + 40 + 2 ≤ _; lia
  refine { cst:=h.cst,fn:=fun f vs kvs r e =>?_,pm:=fun C m vs r Ca e hC =>?_,flds:=fun C f Ca h1 h2 =>(h.flds C f Ca h1 h2).1,cls:=fun C vs fl e =>?_,mth:=fun C m fl vs r fl' Ca e hC =>?_,sets:=fun C f Ca h1 h2 =>(h.flds C f Ca h1 h2).2 }
  ·refine bc fun hN =>?_
   refine aa e fun rr hr e =>?_
   obtain ⟨a,o,fd,hm,hk,FA⟩:=h.fn f rr hr
   refine hN ?_; clear hN
   exact ⟨a,hm,hk,fun A s H us kus Q E hA =>fnSpec_of ih FA e A s H us kus Q E (hA.mono e1)⟩
  ·refine bc fun hN =>?_
   refine aa e fun rr hr e =>?_
   obtain ⟨a,o,fd,M,FA⟩:=h.meth C m rr Ca hr hC
   refine hN ?_; clear hN
   exact ⟨a,M,fun A s H ix dx us Q E hA =>pmSpec_of ih FA e A s H ix dx us Q E (hA.mono e1)⟩
  ·refine bc fun hN =>?_
   refine aa e fun rr hr e =>?_
   obtain ⟨Ca,a,o,fd,h1,h2,h3,h4,h5,h6,FA⟩:=h.init C rr hr
   refine hN ?_; clear hN
   exact ⟨Ca,h1,h2,h3,fun A s H us Q E hA =>cSpec_of ih FA h1 h4 h5 h6 e A s H us Q E (hA.mono e2)⟩
  ·refine bc fun hN =>?_
   refine aa e fun rr hr e =>?_
   obtain ⟨a,o,fd,M,FA⟩:=h.meth C m rr Ca hr hC
   refine hN ?_; clear hN
   exact ⟨a,M,fun A s H ix dx es n us Q E hA =>mSpec_of ih FA hC e A s H ix dx es n us Q E (hA.mono e1)⟩
end Mine
end
section
namespace Mine
open PySem
section
noncomputable def recOf (st : Option Stmt) (mu : List Str) (pats : List (Nat × List Str)) (dfl : List (Str × V)) : FnRec:={ names:=(arO st).args.map fun (q : Arg) =>q.arg,body:=bdO st,sc:=scO st,mu:=mu,pats:=pats,dfl:=dfl }
noncomputable def fnk (k : Nat) (mu : List Str) (pats : List (Nat × List Str)) (dfl : List (Str × V)) : FnRec:=recOf aA[k]? mu pats dfl
noncomputable def mtk (k j : Nat) (mu : List Str) (pats : List (Nat × List Str)) (dfl : List (Str × V)) : FnRec:=recOf (fj aA[k]? j) mu pats dfl
noncomputable abbrev ent {α : Type} (x : Str) (a : α) : Str × α:=(x,a)
noncomputable def fnTab : List (Str × FnRec):=[
 ent "is_code" (fnk 12 [] [(1,[])] []),ent "is_high" (fnk 13 [] [(1,[])] []),ent "is_low" (fnk 14 [] [(1,[])] []),ent "is_surrogate" (fnk 15 [] [(1,[])] []),ent "is_scalar" (fnk 16 [] [(1,[])] []),ent "check_scalars" (fnk 17 [] [(1,[])] []),
 ent "utf8_octets" (fnk 25 [] [(1,[])] []),ent "encode_utf8" (fnk 26 ["found"] [(1,[])] []),ent "utf8_lead" (fnk 27 [] [(1,[])] []),ent "utf8_piece" (fnk 28 [] [(2,[])] []),ent "decode_utf8" (fnk 29 ["found"] [(1,[])] []),ent "decode_utf8_replaced" (fnk 30 ["found"] [(1,[])] []),
 ent "utf16_units" (fnk 36 ["found"] [(1,[])] []),ent "utf16_joined" (fnk 37 [] [(2,[])] []),ent "utf16_octets" (fnk 38 [] [(2,[])] []),ent "utf16_unit" (fnk 39 [] [(3,[])] []),
 ent "encode_utf16" (fnk 40 ["found"] [(2,[]),(2,["with_mark"])] [("with_mark",.bool false)]),ent "utf16_step" (fnk 41 [] [(3,[])] []),ent "utf16_start" (fnk 42 [] [(2,[])] []),ent "decode_utf16_replaced" (fnk 43 ["found"] [(2,[])] []),
 ent "encode_utf32" (fnk 45 ["found"] [(2,[]),(2,["with_mark"])] [("with_mark",.bool false)]),ent "utf32_step" (fnk 46 ["row"] [(3,[])] []),ent "utf32_start" (fnk 47 [] [(2,[])] []),ent "decode_utf32" (fnk 48 ["found"] [(2,[])] []),
 ent "encoding_marks" (fnk 49 [] [(0,[])] []),ent "sniffed" (fnk 50 [] [(1,[])] []),ent "unmarked" (fnk 51 [] [(1,[])] []),
 ent "_law_is_begun" (fnk 54 [] [(1,[])] []),ent "_law_code" (fnk 55 [] [(1,[])] []),ent "_law_cut" (fnk 56 ["found"] [(1,[])] []),ent "_law_written" (fnk 57 [] [(1,[])] []),ent "_law_codes" (fnk 58 [] [(2,[])] []),ent "_law_halves" (fnk 59 ["found"] [(1,[])] []),ent "_law_units" (fnk 60 [] [(2,[])] []),
 ent "_law_wide" (fnk 61 [] [(3,[])] []),ent "_law_pieces" (fnk 62 [] [(2,[])] []),ent "_law_streams_right" (fnk 63 [] [(2,[])] []),ent "_law_round_right" (fnk 64 [] [(3,[])] []),ent "law" (fnk 65 [] [(1,[])] [])]
noncomputable def cstTab : List (Str × V):=[ent "MAX_CODE" (.int 1114111),ent "HIGH_FIRST" (.int 55296),ent "HIGH_LAST" (.int 56319),ent "LOW_FIRST" (.int 56320),ent "LOW_LAST" (.int 57343),ent "REPLACEMENT" (.int 65533),ent "ORDER_MARK" (.int 65279),ent "SUPPLEMENTARY" (.int 65536),
 ent "UTF8_ALONE" (.str "a trail octet without a lead"),ent "UTF8_NEVER" (.str "an octet that never stands"),ent "UTF8_BROKEN" (.str "a sequence that breaks off"),ent "UTF8_SHORT" (.str "a sequence that is cut short"),ent "UTF8_TRAIL" (.int 128),ent "UTF8_PLANE" (.int 65536),
 ent "BIG" (.str "be"),ent "HALF_BITS" (.int 10),ent "HALF_MASK" (.int 1023),ent "_law_octets" (.bytes [65,127,128,143,144,159,160,191,192,194,223,224,225,237,239,240,241,244,245,255,216,220,254,0])]
noncomputable def methTab : List ((Str × Str) × FnRec):=[
 (("Utf8Stream","__init__"),mtk 31 0 [] [(1,[])] [("is_strict",.bool false)]),(("Utf8Stream","feed"),mtk 31 1 ["found"] [(3,[])] []),
 (("Utf16Stream","__init__"),mtk 44 0 [] [(1,[]),(3,[])] [("order",.none),("is_strict",.bool true)]),(("Utf16Stream","is_lacking"),mtk 44 1 [] [(4,[])] []),(("Utf16Stream","feed"),mtk 44 2 ["found"] [(3,[])] [])]
noncomputable def fldTab : List (Str × List Str):=[("Utf8Stream",["is_strict","waiting","place"]),("Utf16Stream",["order","is_strict","left","used"])]
noncomputable def tab : Tab where
 cst x:=cstTab.lookup x
 fn f:=fnTab.lookup f
 meth C m:=methTab.lookup (C,m)
 flds C:=(fldTab.lookup C).getD []
end
end Mine
end
section
namespace Mine
open PySem PySem.W PyProof.Rows
noncomputable def gx (X : Gx) (f : Str) (r : FnRec) : Prop:=∃ a o fd,X.mg f = some (.ref a) ∧ keepIn X.K (.ref a) = true ∧ FnAt X r a o fd
noncomputable def cG (X : Gx) (r : FnRec) (fd : FuncData) : Prop:=∀ (us kus : List Value) (kwn : List Str) (s : Shared),(us.length,kwn) ∈ r.pats → kus.length = kwn.length → Sub X.B0 s.heap → ∃ ws,BindsTo s fd ⟨us,kwn.zip kus⟩ (r.names.zip (us ++ ws)) ∧ us.length + ws.length = r.names.length ∧
  ∀ h (kvs : List (Str × V)),kvs.map (·.1) = kwn → Reps h (kvs.map (·.2)) kus → Reps h (restOf (r.names.drop us.length) (kvs ++ r.dfl)) ws
theorem dz {X : Gx} {r : FnRec} {fd : FuncData} {n : Nat} {ns : List Str} (hp : r.pats = [(n,[])]) (hns : r.names = ns) (hn : ns.length = n) (h : ∀ us : List Value,us.length = n → bindArgs fd ⟨us,[]⟩ = pure (ns.zip us)) : cG X r fd:=by
 subst hns
 intro us kus kwn s hm hk hs
 rw [hp] at hm
 have:=List.mem_singleton.mp hm
 cases this
 have hk0 : kus = []:=List.length_eq_zero_iff.mp hk
 subst hk0
 refine ⟨[],BindsTo.of_eq ?_,by simp [hn],fun h' kvs _ _ =>?_⟩
 ·rw [List.append_nil]; exact h us rfl
 ·rw [List.drop_eq_nil_of_le (by omega)]; exact .nil
section
variable {X : Gx} {K : Frag} {f : Str} {r : FnRec} {a : Addr} {oc : Value} {od : Option Addr} {osl : Array (Option Value)} {fd : FuncData}
theorem fnAt_of (hK : X.K = K) (h2 : K.lookup a = some ⟨oc,od,.func fd,osl⟩) (h3 : codeIn K fd.code fd.qualname = true) (hb : fd.body = .stmts r.body) (hs : fd.scope = r.sc) (hg : fd.globals = mainGlobals) (hbl : fd.builtins = builtinsNs) (hc : fd.closure = [])
  (hbind : cG X r fd) : FnAt X r a ⟨oc,od,.func fd,osl⟩ fd:=by
 subst hK
 exact ⟨X.kin _ _ h2,rfl,codeRec_of X.kin h3,hb,hs,hg,hbl,hc,hbind⟩
end
section
variable {X : Gx} {P : Params} {f : Str} {st : Option Stmt} {mu : List Str} {pats : List (Nat × List Str)} {dfl : List (Str × V)} {a : Addr} {m d : Value} {q : Str}
theorem fnat_K (hK : X.K = Kd P) (h2 : (Kd P).lookup a = some (fnO a st q m d).2) (h3 : codeIn (Kd P) (.ref (a - 1)) q = true) (hbind : cG X (recOf st mu pats dfl) (fdO a st q m d)) : FnAt X (recOf st mu pats dfl) a (fnO a st q m d).2 (fdO a st q m d) :=
 fnAt_of hK h2 h3 rfl rfl rfl rfl rfl hbind
theorem good_K (hK : X.K = Kd P) (a : Addr) (m d : Value) (h1 : nsIn (Kd P) mainGlobals f = some (some (.ref a))) (h4 : keepIn (Kd P) (.ref a) = true) (h2 : (Kd P).lookup a = some (fnO a st f m d).2) (h3 : codeIn (Kd P) (.ref (a - 1)) f = true) (hbind : cG X (recOf st mu pats dfl) (fdO a st f m d)) : gx X f (recOf st mu pats dfl) :=
 ⟨a,_,_,mg_of X.kin X.g (by rw [hK]; exact h1),by rw [hK]; exact h4,fnat_K hK h2 h3 hbind⟩
theorem aS (hK : X.K = Kd P) (f : Str) (k : Nat) (mu : List Str) (pats : List (Nat × List Str)) (dfl : List (Str × V)) (a : Addr) (m d : Value) (h1 : nsIn (Kd P) mainGlobals f = some (some (.ref a))) (h4 : keepIn (Kd P) (.ref a) = true) (h2 : (Kd P).lookup a = some (fnO a aA[k]? f m d).2) (h3 : codeIn (Kd P) (.ref (a - 1)) f = true) (hbind : cG X (recOf aA[k]? mu pats dfl) (fdO a aA[k]? f m d)) : gx X f (fnk k mu pats dfl):=good_K hK a m d h1 h4 h2 h3 hbind
end
section
variable {X : Gx} {r : FnRec} {fd : FuncData}
theorem bp0 (hp : r.pats = [(0,[])]) (hn : r.names.length = 0) (h : bindArgs fd ⟨[],[]⟩ = pure (r.names.zip [])) : cG X r fd:=dz hp rfl hn fun us hu =>by
 cases us with
 | nil =>exact h
 | cons _ _ =>cases hu
theorem bp1 (hp : r.pats = [(1,[])]) (hn : r.names.length = 1) (h : ∀ u,bindArgs fd ⟨[u],[]⟩ = pure (r.names.zip [u])) : cG X r fd:=dz hp rfl hn fun us hu =>by
 rcases us with _ | ⟨u1,_ | ⟨u2,us⟩⟩ <;> first | exact h _ | simp at hu
theorem bp2 (hp : r.pats = [(2,[])]) (hn : r.names.length = 2) (h : ∀ u v,bindArgs fd ⟨[u,v],[]⟩ = pure (r.names.zip [u,v])) : cG X r fd:=dz hp rfl hn fun us hu =>by
 rcases us with _ | ⟨u1,_ | ⟨u2,_ | ⟨u3,us⟩⟩⟩ <;> first | exact h _ _ | simp at hu
theorem bp3 (hp : r.pats = [(3,[])]) (hn : r.names.length = 3) (h : ∀ u v w,bindArgs fd ⟨[u,v,w],[]⟩ = pure (r.names.zip [u,v,w])) : cG X r fd:=dz hp rfl hn fun us hu =>by
 rcases us with _ | ⟨u1,_ | ⟨u2,_ | ⟨u3,_ | ⟨u4,us⟩⟩⟩⟩ <;> first | exact h _ _ _ | simp at hu
theorem bp4 (hp : r.pats = [(4,[])]) (hn : r.names.length = 4) (h : ∀ u v w x,bindArgs fd ⟨[u,v,w,x],[]⟩ = pure (r.names.zip [u,v,w,x])) : cG X r fd:=dz hp rfl hn fun us hu =>by
 rcases us with _ | ⟨u1,_ | ⟨u2,_ | ⟨u3,_ | ⟨u4,_ | ⟨u5,us⟩⟩⟩⟩⟩ <;> first | exact h _ _ _ _ | simp at hu
end
section
variable {X : Gx} {r : FnRec} {fd : FuncData}
noncomputable def BindAt (X : Gx) (r : FnRec) (fd : FuncData) (n : Nat) (k : List Str) : Prop:=∀ (us kus : List Value) (s : Shared),us.length = n → kus.length = k.length → Sub X.B0 s.heap → ∃ ws,BindsTo s fd ⟨us,k.zip kus⟩ (r.names.zip (us ++ ws)) ∧ us.length + ws.length = r.names.length ∧
  ∀ h (kvs : List (Str × V)),kvs.map (·.1) = k → Reps h (kvs.map (·.2)) kus → Reps h (restOf (r.names.drop us.length) (kvs ++ r.dfl)) ws
theorem bk1 {n : Nat} {k : List Str} (hp : r.pats = [(n,k)]) (h : BindAt X r fd n k) : cG X r fd:=fun us kus kwn s hm hk hs =>by
 rw [hp] at hm
 cases List.mem_singleton.mp hm
 exact h us kus s rfl hk hs
theorem bk2 {n n' : Nat} {k k' : List Str} (hp : r.pats = [(n,k),(n',k')]) (h : BindAt X r fd n k) (h' : BindAt X r fd n' k') : cG X r fd:=fun us kus kwn s hm hk hs =>by
 rw [hp] at hm
 rcases List.mem_cons.mp hm with e | e
 ·cases e; exact h us kus s rfl hk hs
 ·cases List.mem_singleton.mp e; exact h' us kus s rfl hk hs
theorem len1 {α : Type} {us : List α} (h : us.length = 1) : ∃ a,us = [a]:=List.length_eq_one_iff.mp h
theorem len2 {α : Type} {us : List α} (h : us.length = 2) : ∃ a b,us = [a,b]:=by
 cases us with
 | nil =>cases h
 | cons a us =>
  obtain ⟨b,rfl⟩:=len1 (Nat.succ.inj h)
  exact ⟨a,b,rfl⟩
theorem len3 {α : Type} {us : List α} (h : us.length = 3) : ∃ a b c,us = [a,b,c]:=by
 cases us with
 | nil =>cases h
 | cons a us =>
  obtain ⟨b,c,rfl⟩:=len2 (Nat.succ.inj h)
  exact ⟨a,b,c,rfl⟩
theorem bat0 {n : Nat} (h : ∀ (us : List Value) (s : Shared),us.length = n → Sub X.B0 s.heap → ∃ ws,BindsTo s fd ⟨us,[]⟩ (r.names.zip (us ++ ws)) ∧ us.length + ws.length = r.names.length ∧ ∀ h,Reps h (restOf (r.names.drop us.length) r.dfl) ws) : BindAt X r fd n []:=fun us kus s hl hk hs =>by
 obtain rfl:=List.length_eq_zero_iff.mp hk
 refine bc fun hN =>?_
 obtain ⟨ws,a,b,c⟩:=h us s hl hs
 refine hN ?_
 exact ⟨ws,a,b,fun h kvs e _ =>by obtain rfl:=List.map_eq_nil_iff.mp e; exact c h⟩
theorem kv1 {x : Str} {kvs : List (Str × V)} (h : kvs.map (·.1) = [x]) : ∃ v,kvs = [(x,v)]:=by
 obtain ⟨⟨y,v⟩,rfl⟩:=len1 ((List.length_map _).symm.trans (congrArg List.length h))
 obtain rfl:=(List.cons.inj h).1
 exact ⟨v,rfl⟩
end
noncomputable def clsAd (C : Str) : Option Addr:=List.lookup C [ent "Utf8Stream" 169,ent "Utf16Stream" 264]
theorem g_encode_utf16 {X : Gx} {P : Params} (hK : X.K = Kd P) : gx X "encode_utf16" (fnk 40 ["found"] [(2,[]),(2,["with_mark"])] [("with_mark",.bool false)]):=by
 exact good_K hK 209 (.str "unicore.utf16" 432) (.ref 202) (by kernel_rfl) (by kernel_rfl) (by kernel_rfl) (by kernel_rfl) (
 bk2 rfl (bat0 fun us s hl hs =>by
  obtain ⟨u1,u2,rfl⟩:=len2 hl
  have XK : (Kd P).In s.heap:=by rw [← hK]; exact X.kin.keeps hs
  refine' ⟨[_],binds_K XK rfl ?ho1 ?sq1 ?b1 ?c1,?hl1,fun h =>(.cons (show Rep h (.bool false) _ by unfold Rep; rfl) .nil)⟩
  case ho1 =>rfl
  case sq1 =>rfl
  case b1 =>rfl
  case c1 =>rfl
  case hl1 =>rfl)
  (fun us kus s hl hk hs =>by
  obtain ⟨u1,u2,rfl⟩:=len2 hl
  obtain ⟨k1,rfl⟩:=len1 hk
  have XK : (Kd P).In s.heap:=by rw [← hK]; exact X.kin.keeps hs
  refine' ⟨[k1],binds_K XK rfl ?ho2 ?sq2 ?b2 ?c2,?hl2,fun h kvs hkv hr =>?hr2⟩
  case ho2 =>rfl
  case sq2 =>rfl
  case b2 =>rfl
  case c2 =>rfl
  case hl2 =>rfl
  case hr2 =>
   obtain ⟨v,rfl⟩:=kv1 hkv
   obtain ⟨w,hw,rw⟩:=hr.one
   obtain rfl:=(List.cons.inj hw).1
   exact .cons rw .nil))
theorem g_decode_utf16_replaced {X : Gx} {P : Params} (hK : X.K = Kd P) : gx X "decode_utf16_replaced" (fnk 43 ["found"] [(2,[])] []):=by
 exact good_K hK 231 (.str "unicore.utf16" 432) (.ref 224) (by kernel_rfl) (by kernel_rfl) (by kernel_rfl) (by kernel_rfl) (
 bk1 rfl (bat0 fun us s hl hs =>by
  obtain ⟨u1,u2,rfl⟩:=len2 hl
  have XK : (Kd P).In s.heap:=by rw [← hK]; exact X.kin.keeps hs
  refine' ⟨[],binds_K XK rfl ?ho1 ?sq1 ?b1 ?c1,?hl1,fun h =>.nil⟩
  case ho1 =>rfl
  case sq1 =>rfl
  case b1 =>rfl
  case c1 =>rfl
  case hl1 =>rfl))
theorem g_encode_utf32 {X : Gx} {P : Params} (hK : X.K = Kd P) : gx X "encode_utf32" (fnk 45 ["found"] [(2,[]),(2,["with_mark"])] [("with_mark",.bool false)]):=by
 exact good_K hK 276 (.str "unicore.utf16" 432) (.ref 269) (by kernel_rfl) (by kernel_rfl) (by kernel_rfl) (by kernel_rfl) (
 bk2 rfl (bat0 fun us s hl hs =>by
  obtain ⟨u1,u2,rfl⟩:=len2 hl
  have XK : (Kd P).In s.heap:=by rw [← hK]; exact X.kin.keeps hs
  refine' ⟨[_],binds_K XK rfl ?ho1 ?sq1 ?b1 ?c1,?hl1,fun h =>(.cons (show Rep h (.bool false) _ by unfold Rep; rfl) .nil)⟩
  case ho1 =>rfl
  case sq1 =>rfl
  case b1 =>rfl
  case c1 =>rfl
  case hl1 =>rfl)
  (fun us kus s hl hk hs =>by
  obtain ⟨u1,u2,rfl⟩:=len2 hl
  obtain ⟨k1,rfl⟩:=len1 hk
  have XK : (Kd P).In s.heap:=by rw [← hK]; exact X.kin.keeps hs
  refine' ⟨[k1],binds_K XK rfl ?ho2 ?sq2 ?b2 ?c2,?hl2,fun h kvs hkv hr =>?hr2⟩
  case ho2 =>rfl
  case sq2 =>rfl
  case b2 =>rfl
  case c2 =>rfl
  case hl2 =>rfl
  case hr2 =>
   obtain ⟨v,rfl⟩:=kv1 hkv
   obtain ⟨w,hw,rw⟩:=hr.one
   obtain rfl:=(List.cons.inj hw).1
   exact .cons rw .nil))
theorem g_decode_utf32 {X : Gx} {P : Params} (hK : X.K = Kd P) : gx X "decode_utf32" (fnk 48 ["found"] [(2,[])] []):=by
 exact good_K hK 298 (.str "unicore.utf16" 432) (.ref 291) (by kernel_rfl) (by kernel_rfl) (by kernel_rfl) (by kernel_rfl) (
 bk1 rfl (bat0 fun us s hl hs =>by
  obtain ⟨u1,u2,rfl⟩:=len2 hl
  have XK : (Kd P).In s.heap:=by rw [← hK]; exact X.kin.keeps hs
  refine' ⟨[],binds_K XK rfl ?ho1 ?sq1 ?b1 ?c1,?hl1,fun h =>.nil⟩
  case ho1 =>rfl
  case sq1 =>rfl
  case b1 =>rfl
  case c1 =>rfl
  case hl1 =>rfl))
noncomputable def CstGood (X : Gx) (x : Str) (v : V) : Prop:=∃ u,X.mg x = some u ∧ ∀ h,Rep h v u
theorem cr {X : Gx} {K : Frag} {x : Str} {i : Int} {t : Tok} (hK : X.K = K) (h : nsIn K mainGlobals x = some (some (.int i t))) : CstGood X x (.int i):=⟨_,by subst hK; exact mg_of X.kin X.g h,fun _ =>by unfold Rep; exact ⟨_,rfl⟩⟩
theorem cst_str {X : Gx} {K : Frag} {x y : Str} {t : Tok} (hK : X.K = K) (h : nsIn K mainGlobals x = some (some (.str y t))) : CstGood X x (.str y):=⟨_,by subst hK; exact mg_of X.kin X.g h,fun _ =>by unfold Rep; exact ⟨_,rfl⟩⟩
theorem cst_bytes {X : Gx} {K : Frag} {x : Str} {b : Array UInt8} {ks : List Int} {t : Tok} (hK : X.K = K) (h : nsIn K mainGlobals x = some (some (.bytes b t))) (e : KBw.bInts b = ks) : CstGood X x (.bytes ks):=⟨_,by subst hK; exact mg_of X.kin X.g h,fun _ =>by unfold Rep; exact ⟨_,_,rfl,e⟩⟩
noncomputable def df (X : Gx) (Ca : Addr) (m : Str) (r : FnRec) : Prop:=∃ a o fd,MethAt X Ca m a ∧ FnAt X r a o fd ∧ findIn X.K (.ref Ca) m = some (some (.ref a)) ∧ typeIn X.K (.ref a) = some (.type "function")
theorem meth_of {X : Gx} {K : Frag} {m : Str} {r : FnRec} {Ca a : Addr} {oc : Value} {od : Option Addr} {osl : Array (Option Value)} {fd : FuncData} (hK : X.K = K) (h1 : findIn K (.ref Ca) m = some (some (.ref a))) (h4 : plainGet K Ca m = true) (h5 : isFn K (.ref a) = true) (h6 : keepIn K (.ref a) = true)
  (h2 : K.lookup a = some ⟨oc,od,.func fd,osl⟩) (h3 : codeIn K fd.code fd.qualname = true) (hb : fd.body = .stmts r.body) (hs : fd.scope = r.sc) (hg : fd.globals = mainGlobals)
  (hbl : fd.builtins = builtinsNs) (hc : fd.closure = []) (hbind : cG X r fd) : df X Ca m r :=
 ⟨a,_,fd,by subst hK; exact ⟨h4,h1,h5,h6⟩,fnAt_of hK h2 h3 hb hs hg hbl hc hbind,by rw [hK]; exact h1,by rw [hK]; exact beq_iff_eq.mp h5⟩
theorem meth_K {X : Gx} {P : Params} {f : Str} {st : Option Stmt} {mu : List Str} {pats : List (Nat × List Str)} {dfl : List (Str × V)} {Ca : Addr} (hK : X.K = Kd P) (a : Addr) (q : Str) (m d : Value) (h1 : findIn (Kd P) (.ref Ca) f = some (some (.ref a))) (h4 : plainGet (Kd P) Ca f = true) (h5 : isFn (Kd P) (.ref a) = true) (h6 : keepIn (Kd P) (.ref a) = true) (h2 : (Kd P).lookup a = some (fnO a st q m d).2) (h3 : codeIn (Kd P) (.ref (a - 1)) q = true) (hbind : cG X (recOf st mu pats dfl) (fdO a st q m d)) : df X Ca f (recOf st mu pats dfl) :=
 meth_of hK h1 h4 h5 h6 h2 h3 rfl rfl rfl rfl rfl hbind
theorem m_Utf8Stream_init {X : Gx} {P : Params} (hK : X.K = Kd P) : df X 169 "__init__" (mtk 31 0 [] [(1,[])] [("is_strict",.bool false)]):=by
 exact meth_K hK 158 "Utf8Stream.__init__" (.str "unicore.utf8" 309) (.ref 151) (by kernel_rfl) (by kernel_rfl) (by kernel_rfl) (by kernel_rfl) (by kernel_rfl) (by kernel_rfl) (
 bk1 rfl (bat0 fun us s hl hs =>by
  obtain ⟨u1,rfl⟩:=len1 hl
  have XK : (Kd P).In s.heap:=by rw [← hK]; exact X.kin.keeps hs
  refine' ⟨[_],binds_K XK rfl ?ho1 ?sq1 ?b1 ?c1,?hl1,fun h =>(.cons (show Rep h (.bool false) _ by unfold Rep; rfl) .nil)⟩
  case ho1 =>rfl
  case sq1 =>rfl
  case b1 =>rfl
  case c1 =>rfl
  case hl1 =>rfl))
theorem m_Utf8Stream_feed {X : Gx} {P : Params} (hK : X.K = Kd P) : df X 169 "feed" (mtk 31 1 ["found"] [(3,[])] []):=by
 exact meth_K hK 166 "Utf8Stream.feed" (.str "unicore.utf8" 309) (.ref 159) (by kernel_rfl) (by kernel_rfl) (by kernel_rfl) (by kernel_rfl) (by kernel_rfl) (by kernel_rfl) (
 bk1 rfl (bat0 fun us s hl hs =>by
  obtain ⟨u1,u2,u3,rfl⟩:=len3 hl
  have XK : (Kd P).In s.heap:=by rw [← hK]; exact X.kin.keeps hs
  refine' ⟨[],binds_K XK rfl ?ho1 ?sq1 ?b1 ?c1,?hl1,fun h =>.nil⟩
  case ho1 =>rfl
  case sq1 =>rfl
  case b1 =>rfl
  case c1 =>rfl
  case hl1 =>rfl))
theorem m_Utf16Stream_init {X : Gx} {P : Params} (hK : X.K = Kd P) : df X 264 "__init__" (mtk 44 0 [] [(1,[]),(3,[])] [("order",.none),("is_strict",.bool true)]):=by
 exact meth_K hK 246 "Utf16Stream.__init__" (.str "unicore.utf16" 432) (.ref 239) (by kernel_rfl) (by kernel_rfl) (by kernel_rfl) (by kernel_rfl) (by kernel_rfl) (by kernel_rfl) (
 bk2 rfl (bat0 fun us s hl hs =>by
  obtain ⟨u1,rfl⟩:=len1 hl
  have XK : (Kd P).In s.heap:=by rw [← hK]; exact X.kin.keeps hs
  refine' ⟨[_,_],binds_K XK rfl ?ho1 ?sq1 ?b1 ?c1,?hl1,fun h =>(.cons (show Rep h .none _ by unfold Rep; rfl) (.cons (show Rep h (.bool true) _ by unfold Rep; rfl) .nil))⟩
  case ho1 =>rfl
  case sq1 =>rfl
  case b1 =>rfl
  case c1 =>rfl
  case hl1 =>rfl)
  (bat0 fun us s hl hs =>by
  obtain ⟨u1,u2,u3,rfl⟩:=len3 hl
  have XK : (Kd P).In s.heap:=by rw [← hK]; exact X.kin.keeps hs
  refine' ⟨[],binds_K XK rfl ?ho2 ?sq2 ?b2 ?c2,?hl2,fun h =>.nil⟩
  case ho2 =>rfl
  case sq2 =>rfl
  case b2 =>rfl
  case c2 =>rfl
  case hl2 =>rfl))
theorem m_Utf16Stream_is_lacking {X : Gx} {P : Params} (hK : X.K = Kd P) : df X 264 "is_lacking" (mtk 44 1 [] [(4,[])] []):=meth_K hK 253 "Utf16Stream.is_lacking" (.str "unicore.utf16" 432) .none (by kernel_rfl) (by kernel_rfl) (by kernel_rfl) (by kernel_rfl) (by kernel_rfl) (by kernel_rfl) (bp4 rfl rfl fun _ _ _ _ =>rfl)
theorem m_Utf16Stream_feed {X : Gx} {P : Params} (hK : X.K = Kd P) : df X 264 "feed" (mtk 44 2 ["found"] [(3,[])] []):=by
 exact meth_K hK 261 "Utf16Stream.feed" (.str "unicore.utf16" 432) (.ref 254) (by kernel_rfl) (by kernel_rfl) (by kernel_rfl) (by kernel_rfl) (by kernel_rfl) (by kernel_rfl) (
 bk1 rfl (bat0 fun us s hl hs =>by
  obtain ⟨u1,u2,u3,rfl⟩:=len3 hl
  have XK : (Kd P).In s.heap:=by rw [← hK]; exact X.kin.keeps hs
  refine' ⟨[],binds_K XK rfl ?ho1 ?sq1 ?b1 ?c1,?hl1,fun h =>.nil⟩
  case ho1 =>rfl
  case sq1 =>rfl
  case b1 =>rfl
  case c1 =>rfl
  case hl1 =>rfl))
structure ClsGood (X : Gx) (C : Str) (Ca : Addr) : Prop where
 g : X.mg C = some (.ref Ca)
 k : keepIn X.K (.ref Ca) = true
 m : makesIn X.K Ca = true
theorem cls_of {X : Gx} {K : Frag} {C : Str} {Ca : Addr} (hK : X.K = K) (h1 : nsIn K mainGlobals C = some (some (.ref Ca))) (h2 : keepIn K (.ref Ca) = true) (h3 : makesIn K Ca = true) : ClsGood X C Ca:=by subst hK; exact ⟨mg_of X.kin X.g h1,h2,h3⟩
theorem gD {X : Gx} {K : Frag} {f : Str} {Ca : Addr} (hK : X.K = K) (h1 : plainGet K Ca f = true) (h2 : hasDictIn K Ca = true) (h3 : findIn K (.ref Ca) f = some none) (h4 : findIn K (.ref Ca) "__setattr__" = some (some (.builtin "object.__setattr__"))) (h5 : plainOver K Ca = true) (h6 : takerIn K Ca f = some none) : FieldAt X Ca f ∧ SetAt X Ca f:=by
 subst hK; exact ⟨⟨h1,h2,h3⟩,⟨h4,h5,h6,h2⟩⟩
theorem k_Utf8Stream {X : Gx} {P : Params} (hK : X.K = Kd P) : ClsGood X "Utf8Stream" 169:=by
 refine' cls_of hK ?h1 ?h2 ?h3
 case h1 =>kernel_rfl
 case h2 =>kernel_rfl
 case h3 =>kernel_rfl
theorem dY {X : Gx} {P : Params} (hK : X.K = Kd P) : ClsGood X "Utf16Stream" 264:=by
 refine' cls_of hK ?h1 ?h2 ?h3
 case h1 =>kernel_rfl
 case h2 =>kernel_rfl
 case h3 =>kernel_rfl
theorem f_Utf8Stream_is_strict {X : Gx} {P : Params} (hK : X.K = Kd P) : FieldAt X 169 "is_strict" ∧ SetAt X 169 "is_strict":=by
 refine' gD hK ?h1 ?h2 ?h3 ?h4 ?h5 ?h6
 case h1 =>kernel_rfl
 case h2 =>kernel_rfl
 case h3 =>kernel_rfl
 case h4 =>kernel_rfl
 case h5 =>kernel_rfl
 case h6 =>kernel_rfl
theorem f_Utf8Stream_waiting {X : Gx} {P : Params} (hK : X.K = Kd P) : FieldAt X 169 "waiting" ∧ SetAt X 169 "waiting":=by
 refine' gD hK ?h1 ?h2 ?h3 ?h4 ?h5 ?h6
 case h1 =>kernel_rfl
 case h2 =>kernel_rfl
 case h3 =>kernel_rfl
 case h4 =>kernel_rfl
 case h5 =>kernel_rfl
 case h6 =>kernel_rfl
theorem f_Utf8Stream_place {X : Gx} {P : Params} (hK : X.K = Kd P) : FieldAt X 169 "place" ∧ SetAt X 169 "place":=by
 refine' gD hK ?h1 ?h2 ?h3 ?h4 ?h5 ?h6
 case h1 =>kernel_rfl
 case h2 =>kernel_rfl
 case h3 =>kernel_rfl
 case h4 =>kernel_rfl
 case h5 =>kernel_rfl
 case h6 =>kernel_rfl
theorem f_Utf16Stream_order {X : Gx} {P : Params} (hK : X.K = Kd P) : FieldAt X 264 "order" ∧ SetAt X 264 "order":=by
 refine' gD hK ?h1 ?h2 ?h3 ?h4 ?h5 ?h6
 case h1 =>kernel_rfl
 case h2 =>kernel_rfl
 case h3 =>kernel_rfl
 case h4 =>kernel_rfl
 case h5 =>kernel_rfl
 case h6 =>kernel_rfl
theorem f_Utf16Stream_is_strict {X : Gx} {P : Params} (hK : X.K = Kd P) : FieldAt X 264 "is_strict" ∧ SetAt X 264 "is_strict":=by
 refine' gD hK ?h1 ?h2 ?h3 ?h4 ?h5 ?h6
 case h1 =>kernel_rfl
 case h2 =>kernel_rfl
 case h3 =>kernel_rfl
 case h4 =>kernel_rfl
 case h5 =>kernel_rfl
 case h6 =>kernel_rfl
theorem f_Utf16Stream_left {X : Gx} {P : Params} (hK : X.K = Kd P) : FieldAt X 264 "left" ∧ SetAt X 264 "left":=by
 refine' gD hK ?h1 ?h2 ?h3 ?h4 ?h5 ?h6
 case h1 =>kernel_rfl
 case h2 =>kernel_rfl
 case h3 =>kernel_rfl
 case h4 =>kernel_rfl
 case h5 =>kernel_rfl
 case h6 =>kernel_rfl
theorem f_Utf16Stream_used {X : Gx} {P : Params} (hK : X.K = Kd P) : FieldAt X 264 "used" ∧ SetAt X 264 "used":=by
 refine' gD hK ?h1 ?h2 ?h3 ?h4 ?h5 ?h6
 case h1 =>kernel_rfl
 case h2 =>kernel_rfl
 case h3 =>kernel_rfl
 case h4 =>kernel_rfl
 case h5 =>kernel_rfl
 case h6 =>kernel_rfl
theorem an {α : Type} {p : α → Prop} : ∀ x ∈ ([] : List α),p x:=fun x h =>by cases h
theorem ac {α : Type} {p : α → Prop} {a : α} {l : List α} (h : p a) (t : ∀ x ∈ l,p x) : ∀ x ∈ a :: l,p x:=fun x hx =>by
 rcases List.mem_cons.mp hx with rfl | hx
 ·exact h
 ·exact t x hx
theorem bW {α β : Type} [BEq α] [LawfulBEq α] {l : List (α × β)} {x : α} {k : β} (h : l.lookup x = some k) : (x,k) ∈ l:=by
 induction l with
 | nil =>simp at h
 | cons p r ih =>
  obtain ⟨n,k'⟩:=p
  rw [List.lookup_cons] at h
  cases e : x == n with
  | true =>rw [e] at h; cases h; rw [beq_iff_eq.mp e]; exact .head _
  | false =>rw [e] at h; exact .tail _ (ih h)
theorem all_fn {X : Gx} {P : Params} (hK : X.K = Kd P) : ∀ p ∈ fnTab,gx X p.1 p.2:=ac (aS hK "is_code" 12 [] [(1,[])] [] 66 (.str "unicore.base" 187) .none (by kernel_rfl) (by kernel_rfl) (by kernel_rfl) (by kernel_rfl) (bp1 rfl rfl fun _ =>rfl)) (ac (aS hK "is_high" 13 [] [(1,[])] [] 73 (.str "unicore.base" 187) .none (by kernel_rfl) (by kernel_rfl) (by kernel_rfl) (by kernel_rfl) (bp1 rfl rfl fun _ =>rfl)) (ac (aS hK "is_low" 14 [] [(1,[])] [] 80 (.str "unicore.base" 187) .none (by kernel_rfl) (by kernel_rfl) (by kernel_rfl) (by kernel_rfl) (bp1 rfl rfl fun _ =>rfl)) (ac (aS hK "is_surrogate" 15 [] [(1,[])] [] 87 (.str "unicore.base" 187) .none (by kernel_rfl) (by kernel_rfl) (by kernel_rfl) (by kernel_rfl) (bp1 rfl rfl fun _ =>rfl)) (ac (aS hK "is_scalar" 16 [] [(1,[])] [] 94 (.str "unicore.base" 187) .none (by kernel_rfl) (by kernel_rfl) (by kernel_rfl) (by kernel_rfl) (bp1 rfl rfl fun _ =>rfl)) (ac (aS hK "check_scalars" 17 [] [(1,[])] [] 101 (.str "unicore.base" 187) .none (by kernel_rfl) (by kernel_rfl) (by kernel_rfl) (by kernel_rfl) (bp1 rfl rfl fun _ =>rfl)) (ac (aS hK "utf8_octets" 25 [] [(1,[])] [] 108 (.str "unicore.utf8" 309) .none (by kernel_rfl) (by kernel_rfl) (by kernel_rfl) (by kernel_rfl) (bp1 rfl rfl fun _ =>rfl)) (ac (aS hK "encode_utf8" 26 ["found"] [(1,[])] [] 115 (.str "unicore.utf8" 309) .none (by kernel_rfl) (by kernel_rfl) (by kernel_rfl) (by kernel_rfl) (bp1 rfl rfl fun _ =>rfl)) (ac (aS hK "utf8_lead" 27 [] [(1,[])] [] 122 (.str "unicore.utf8" 309) .none (by kernel_rfl) (by kernel_rfl) (by kernel_rfl) (by kernel_rfl) (bp1 rfl rfl fun _ =>rfl)) (ac (aS hK "utf8_piece" 28 [] [(2,[])] [] 129 (.str "unicore.utf8" 309) .none (by kernel_rfl) (by kernel_rfl) (by kernel_rfl) (by kernel_rfl) (bp2 rfl rfl fun _ _ =>rfl)) (ac (aS hK "decode_utf8" 29 ["found"] [(1,[])] [] 136 (.str "unicore.utf8" 309) .none (by kernel_rfl) (by kernel_rfl) (by kernel_rfl) (by kernel_rfl) (bp1 rfl rfl fun _ =>rfl)) (ac (aS hK "decode_utf8_replaced" 30 ["found"] [(1,[])] [] 143 (.str "unicore.utf8" 309) .none (by kernel_rfl) (by kernel_rfl) (by kernel_rfl) (by kernel_rfl) (bp1 rfl rfl fun _ =>rfl)) (ac (aS hK "utf16_units" 36 ["found"] [(1,[])] [] 180 (.str "unicore.utf16" 432) .none (by kernel_rfl) (by kernel_rfl) (by kernel_rfl) (by kernel_rfl) (bp1 rfl rfl fun _ =>rfl)) (ac (aS hK "utf16_joined" 37 [] [(2,[])] [] 187 (.str "unicore.utf16" 432) .none (by kernel_rfl) (by kernel_rfl) (by kernel_rfl) (by kernel_rfl) (bp2 rfl rfl fun _ _ =>rfl)) (ac (aS hK "utf16_octets" 38 [] [(2,[])] [] 194 (.str "unicore.utf16" 432) .none (by kernel_rfl) (by kernel_rfl) (by kernel_rfl) (by kernel_rfl) (bp2 rfl rfl fun _ _ =>rfl)) (ac (aS hK "utf16_unit" 39 [] [(3,[])] [] 201 (.str "unicore.utf16" 432) .none (by kernel_rfl) (by kernel_rfl) (by kernel_rfl) (by kernel_rfl) (bp3 rfl rfl fun _ _ _ =>rfl)) (ac (g_encode_utf16 hK) (ac (aS hK "utf16_step" 41 [] [(3,[])] [] 216 (.str "unicore.utf16" 432) .none (by kernel_rfl) (by kernel_rfl) (by kernel_rfl) (by kernel_rfl) (bp3 rfl rfl fun _ _ _ =>rfl)) (ac (aS hK "utf16_start" 42 [] [(2,[])] [] 223 (.str "unicore.utf16" 432) .none (by kernel_rfl) (by kernel_rfl) (by kernel_rfl) (by kernel_rfl) (bp2 rfl rfl fun _ _ =>rfl)) (ac (g_decode_utf16_replaced hK) (ac (g_encode_utf32 hK) (ac (aS hK "utf32_step" 46 ["row"] [(3,[])] [] 283 (.str "unicore.utf16" 432) .none (by kernel_rfl) (by kernel_rfl) (by kernel_rfl) (by kernel_rfl) (bp3 rfl rfl fun _ _ _ =>rfl)) (ac (aS hK "utf32_start" 47 [] [(2,[])] [] 290 (.str "unicore.utf16" 432) .none (by kernel_rfl) (by kernel_rfl) (by kernel_rfl) (by kernel_rfl) (bp2 rfl rfl fun _ _ =>rfl)) (ac (g_decode_utf32 hK) (ac (aS hK "encoding_marks" 49 [] [(0,[])] [] 303 (.str "unicore.utf16" 432) .none (by kernel_rfl) (by kernel_rfl) (by kernel_rfl) (by kernel_rfl) (bp0 rfl rfl rfl)) (ac (aS hK "sniffed" 50 [] [(1,[])] [] 310 (.str "unicore.utf16" 432) .none (by kernel_rfl) (by kernel_rfl) (by kernel_rfl) (by kernel_rfl) (bp1 rfl rfl fun _ =>rfl)) (ac (aS hK "unmarked" 51 [] [(1,[])] [] 317 (.str "unicore.utf16" 432) .none (by kernel_rfl) (by kernel_rfl) (by kernel_rfl) (by kernel_rfl) (bp1 rfl rfl fun _ =>rfl)) (ac (aS hK "_law_is_begun" 54 [] [(1,[])] [] 322 (.str "law_nt0019_01" 645) .none (by kernel_rfl) (by kernel_rfl) (by kernel_rfl) (by kernel_rfl) (bp1 rfl rfl fun _ =>rfl)) (ac (aS hK "_law_code" 55 [] [(1,[])] [] 329 (.str "law_nt0019_01" 645) .none (by kernel_rfl) (by kernel_rfl) (by kernel_rfl) (by kernel_rfl) (bp1 rfl rfl fun _ =>rfl)) (ac (aS hK "_law_cut" 56 ["found"] [(1,[])] [] 336 (.str "law_nt0019_01" 645) .none (by kernel_rfl) (by kernel_rfl) (by kernel_rfl) (by kernel_rfl) (bp1 rfl rfl fun _ =>rfl)) (ac (aS hK "_law_written" 57 [] [(1,[])] [] 343 (.str "law_nt0019_01" 645) .none (by kernel_rfl) (by kernel_rfl) (by kernel_rfl) (by kernel_rfl) (bp1 rfl rfl fun _ =>rfl)) (ac (aS hK "_law_codes" 58 [] [(2,[])] [] 348 (.str "law_nt0019_01" 645) .none (by kernel_rfl) (by kernel_rfl) (by kernel_rfl) (by kernel_rfl) (bp2 rfl rfl fun _ _ =>rfl)) (ac (aS hK "_law_halves" 59 ["found"] [(1,[])] [] 353 (.str "law_nt0019_01" 645) .none (by kernel_rfl) (by kernel_rfl) (by kernel_rfl) (by kernel_rfl) (bp1 rfl rfl fun _ =>rfl)) (ac (aS hK "_law_units" 60 [] [(2,[])] [] 360 (.str "law_nt0019_01" 645) .none (by kernel_rfl) (by kernel_rfl) (by kernel_rfl) (by kernel_rfl) (bp2 rfl rfl fun _ _ =>rfl)) (ac (aS hK "_law_wide" 61 [] [(3,[])] [] 367 (.str "law_nt0019_01" 645) .none (by kernel_rfl) (by kernel_rfl) (by kernel_rfl) (by kernel_rfl) (bp3 rfl rfl fun _ _ _ =>rfl)) (ac (aS hK "_law_pieces" 62 [] [(2,[])] [] 372 (.str "law_nt0019_01" 645) .none (by kernel_rfl) (by kernel_rfl) (by kernel_rfl) (by kernel_rfl) (bp2 rfl rfl fun _ _ =>rfl)) (ac (aS hK "_law_streams_right" 63 [] [(2,[])] [] 379 (.str "law_nt0019_01" 645) .none (by kernel_rfl) (by kernel_rfl) (by kernel_rfl) (by kernel_rfl) (bp2 rfl rfl fun _ _ =>rfl)) (ac (aS hK "_law_round_right" 64 [] [(3,[])] [] 384 (.str "law_nt0019_01" 645) .none (by kernel_rfl) (by kernel_rfl) (by kernel_rfl) (by kernel_rfl) (bp3 rfl rfl fun _ _ _ =>rfl)) (ac (aS hK "law" 65 [] [(1,[])] [] 389 (.str "law_nt0019_01" 645) .none (by kernel_rfl) (by kernel_rfl) (by kernel_rfl) (by kernel_rfl) (bp1 rfl rfl fun _ =>rfl)) (an)))))))))))))))))))))))))))))))))))))))
theorem all_cst {X : Gx} {P : Params} (hK : X.K = Kd P) : ∀ p ∈ cstTab,CstGood X p.1 p.2:=ac (cr (x:="MAX_CODE") (i:=1114111) (t:=189) hK (by kernel_rfl)) (ac (cr (x:="HIGH_FIRST") (i:=55296) (t:=191) hK (by kernel_rfl)) (ac (cr (x:="HIGH_LAST") (i:=56319) (t:=193) hK (by kernel_rfl)) (ac (cr (x:="LOW_FIRST") (i:=56320) (t:=195) hK (by kernel_rfl)) (ac (cr (x:="LOW_LAST") (i:=57343) (t:=197) hK (by kernel_rfl)) (ac (cr (x:="REPLACEMENT") (i:=65533) (t:=199) hK (by kernel_rfl)) (ac (cr (x:="ORDER_MARK") (i:=65279) (t:=201) hK (by kernel_rfl)) (ac (cr (x:="SUPPLEMENTARY") (i:=65536) (t:=203) hK (by kernel_rfl)) (ac (cst_str (x:="UTF8_ALONE") (y:="a trail octet without a lead") (t:=311) hK (by kernel_rfl)) (ac (cst_str (x:="UTF8_NEVER") (y:="an octet that never stands") (t:=313) hK (by kernel_rfl)) (ac (cst_str (x:="UTF8_BROKEN") (y:="a sequence that breaks off") (t:=315) hK (by kernel_rfl)) (ac (cst_str (x:="UTF8_SHORT") (y:="a sequence that is cut short") (t:=317) hK (by kernel_rfl)) (ac (cr (x:="UTF8_TRAIL") (i:=128) (t:=319) hK (by kernel_rfl)) (ac (cr (x:="UTF8_PLANE") (i:=65536) (t:=321) hK (by kernel_rfl)) (ac (cst_str (x:="BIG") (y:="be") (t:=434) hK (by kernel_rfl)) (ac (cr (x:="HALF_BITS") (i:=10) (t:=436) hK (by kernel_rfl)) (ac (cr (x:="HALF_MASK") (i:=1023) (t:=438) hK (by kernel_rfl)) (ac (cst_bytes (x:="_law_octets") (ks:=[65,127,128,143,144,159,160,191,192,194,223,224,225,237,239,240,241,244,245,255,216,220,254,0]) (t:=647) (b:=#[65,127,128,143,144,159,160,191,192,194,223,224,225,237,239,240,241,244,245,255,216,220,254,0]) hK (by kernel_rfl) (by kernel_rfl)) (an))))))))))))))))))
theorem all_meth {X : Gx} {P : Params} (hK : X.K = Kd P) : ∀ p ∈ methTab,∃ Ca,clsAd p.1.1 = some Ca ∧ ClsGood X p.1.1 Ca ∧ df X Ca p.1.2 p.2 :=
 ac ⟨169,rfl,k_Utf8Stream hK,m_Utf8Stream_init hK⟩ (ac ⟨169,rfl,k_Utf8Stream hK,m_Utf8Stream_feed hK⟩ (ac ⟨264,rfl,dY hK,m_Utf16Stream_init hK⟩ (ac ⟨264,rfl,dY hK,m_Utf16Stream_is_lacking hK⟩ (ac ⟨264,rfl,dY hK,m_Utf16Stream_feed hK⟩ an))))
theorem all_fld {X : Gx} {P : Params} (hK : X.K = Kd P) : ∀ p ∈ fldTab,∀ f ∈ p.2,∀ Ca,clsAd p.1 = some Ca → FieldAt X Ca f ∧ SetAt X Ca f :=
 ac (ac (fun Ca h =>by cases h; exact f_Utf8Stream_is_strict hK) (ac (fun Ca h =>by cases h; exact f_Utf8Stream_waiting hK) (ac (fun Ca h =>by cases h; exact f_Utf8Stream_place hK) an)))
  (ac (ac (fun Ca h =>by cases h; exact f_Utf16Stream_order hK) (ac (fun Ca h =>by cases h; exact f_Utf16Stream_is_strict hK) (ac (fun Ca h =>by cases h; exact f_Utf16Stream_left hK) (ac (fun Ca h =>by cases h; exact f_Utf16Stream_used hK) an)))) an)
theorem tab_ok {X : Gx} {P : Params} (hK : X.K = Kd P) (hC : X.clsA = clsAd) : TabOk X tab where
 cst x v h:=all_cst hK (x,v) (bW h)
 fn f r h:=all_fn hK (f,r) (bW h)
 meth C m r Ca h hCa:=by
  refine bc fun hN =>?_
  obtain ⟨Ca',h1,_,a,o,fd,h2,h3,_⟩:=all_meth hK ((C,m),r) (bW h)
  refine hN ?_; clear hN
  simp only [hC,h1] at hCa; cases hCa
  exact ⟨a,o,fd,h2,h3⟩
 init C r h:=by
  refine bc fun hN =>?_
  obtain ⟨Ca,h1,g,a,o,fd,h2,h3,h4,h5⟩:=all_meth hK ((C,"__init__"),r) (bW h)
  refine hN ?_; clear hN
  exact ⟨Ca,a,o,fd,by rw [hC]; exact h1,g.g,g.k,g.m,h4,h5,h3⟩
 flds C f Ca h hCa:=by
  rw [hC] at hCa
  have h' : f ∈ (fldTab.lookup C).getD []:=h
  cases e : fldTab.lookup C with
  | none =>rw [e] at h'; cases h'
  | some fs =>rw [e] at h'; exact all_fld hK (C,fs) (bW e) f h' Ca hCa
end Mine
end
section
namespace Mine
open PySem PySem.W PyProof.Rows PySem.Calls PySem.SeqAt
theorem law_join {X : Gx} {G : Ge} {N n : Nat} {sc : Scope} {name x : Str} {a : Addr} {cd u : Value} {s₁ : Shared} {h₁ : Heap} {t : Nat} {v w : V} {g' : Gam} {body : List Stmt} {mu : List Str} {A : Around} {E : Value → Shared → Prop}
  (hX : X.p [] = X) (hG : GOk2 X G N) (C : ScOk sc [x]) (hk : sc.names.lookup x = some .local) (hcl : ∀ k,cellsFrom k sc.names [] = []) (hB : X.B0 = s₁.heap) (hsv : X.sv = none)
  (F : Fr s₁.heap s₁.heap.objs.size h₁ fun y =>List.lookup y [(x,u)].reverse) (hr : Rep s₁.heap v u) (hA : Room A (N + n))
  (h : exs n G sc mu body [(x,.val v)] = some (.ret w g')) :
  wpAny (model X.prog X.w) A (execs body (envOf name sc s₁.heap.objs.size a cd)) (fun f s' =>∃ u,f = .ret u ∧ Rep s'.heap w u ∧ (∃ h t,s' = { s₁ with heap:=h,toks:=t }) ∧ ∀ b o,s₁.heap.get? b = some o → s'.heap.get? b = some o) E { s₁ with heap:=h₁,toks:=t }:=by
 have henv : envOf name sc s₁.heap.objs.size a cd = newEnv sc s₁.heap.objs.size mainGlobals (cellsFrom (s₁.heap.objs.size + 1) sc.names []) (name ++ ".<locals>.") (some a) cd none builtinsNs:=by rw [hcl]; rfl
 have hm : (fun y =>List.lookup y [(x,u)].reverse) = bindL (envOf name sc s₁.heap.objs.size a cd).kindOf [(x,u)] fun _ =>none:=by
  funext y
  have hkx : (envOf name sc s₁.heap.objs.size a cd).kindOf x = some .local:=hk
  unfold bindL
  rw [if_pos hkx]
  unfold bindL
  simp only [List.reverse_cons,List.reverse_nil,List.nil_append,List.lookup_cons,List.lookup_nil]
  by_cases hy : y = x
  ·subst hy; simp
  ·have : (y == x) = false:=by simpa using hy
   simp only [this,if_neg hy]
 have GV : Given X s₁.heap [] [] sc [(x,u)] [(x,.val v)] s₁:=by
  refine ⟨by rw [hB]; exact fun _ _ e =>e,fun _ _ e =>e,fun a ha =>(by cases ha),fun a ha =>(by cases ha),?_,fun y av hl =>?_,fun ix dx e =>by rw [hsv] at e; cases e⟩
  ·rw [← hX]; rfl
  ·rw [List.lookup_cons] at hl ⊢
   by_cases hy : y = x
   ·subst hy
    simp only [beq_self_eq_true] at hl ⊢
    obtain rfl:=oj hl
    exact ⟨u,rfl,hr⟩
   ·have : (y == x) = false:=by simpa using hy
    rw [this] at hl; exact nS hl
 have IC : InCallC s₁ (envOf name sc s₁.heap.objs.size a cd).locals (bindL (envOf name sc s₁.heap.objs.size a cd).kindOf [(x,u)] fun _ =>none) (envOf name sc s₁.heap.objs.size a cd).cells (bindC (envOf name sc s₁.heap.objs.size a cd).kindOf [(x,u)] fun _ =>none) { s₁ with heap:=h₁,toks:=t }:=by
  rw [← hm]
  exact ⟨⟨⟨h₁,t,rfl⟩,F.ns,F.keep,F.above⟩,fun n c e =>(by exact nS e),List.Pairwise.nil,fun n c e =>(by cases e)⟩
 refine bc fun hN =>?_
 obtain ⟨S,Fm⟩:=frame_up GV C henv IC
 refine hN ?_; clear hN
 refine wpAny_mono ((exs_sound hX hG n).2 _ _ _ _ _ _ _ hA _ _ _ _ E _ S Fm h) (fun f s' hf =>?_) fun _ _ e =>e
 refine bc fun hN =>?_
 obtain ⟨u,Mu',rfl,hr',_,⟨h2,t2,e2,_⟩,hB'⟩:=hf
 refine hN ?_; clear hN
 exact ⟨u,rfl,hr',⟨h2,t2,e2⟩,hB'⟩
noncomputable def Plain : Prop:=∀ ns : List Int,ns.length ≤ 63 → (af tab 7).fn "law" [.list (ns.map .int)] [] = some (.bool true)
noncomputable abbrev eQ : FnRec:=fnk 65 [] [(1,[])] []
theorem plain_exs (h : Plain) {ns : List Int} (hn : ns.length ≤ 63) : ∃ g',exs 40 (af tab 6) eQ.sc eQ.mu eQ.body [("script",.val (.list (ns.map .int)))] = some (.ret (.bool true) g'):=by
 have e:=h ns hn
 have : (af tab 7).fn "law" [.list (ns.map .int)] [] = runF eQ 40 (af tab 6) [.list (ns.map .int)] []:=rfl
 rw [this] at e
 unfold runF at e
 split at e
 ·split at e
  ·rename_i v g' hfl
   obtain rfl:=oj e
   exact ⟨g',hfl⟩
  ·cases e
  ·exact nS e
 ·exact nS e
end Mine
end
section
open PySem PySem.W PyProof.Rows PySem.Calls PySem.SeqAt
namespace Mine
theorem blt_b {mb : Str → Option Value} (hb : ∀ x : Str,x ≠ "__name__" → mb x = bootBuiltins x) {f : Str} (h : isBlt f = true) : mb f = some (cy f):=by
 have hm : f ∈ (["len","bytes","list","sorted","int","tuple","range","enumerate"] : List Str):=List.contains_iff_mem.mp h
 have hn : f ≠ "__name__":=by
  intro e; subst e; revert h; decide
 rw [hb f hn]
 have go : ∀ g ∈ (["len","bytes","list","sorted","int","tuple","range","enumerate"] : List Str),bootBuiltins g = some (cy g):=by
  refine ac ?_ (ac ?_ (ac ?_ (ac ?_ (ac ?_ (ac ?_ (ac ?_ (ac ?_ an))))))) <;> rfl
 exact go f hm
theorem blt_g {K : Frag} {P : Params} {h : Heap} {mg : Str → Option Value} (hK : K = Kd P) (X : K.In h) (G : h.Ns mainGlobals mg) {f : Str} (hf : isBlt f = true) : mg f = none:=by
 have hm : f ∈ (["len","bytes","list","sorted","int","tuple","range","enumerate"] : List Str):=List.contains_iff_mem.mp hf
 subst hK
 have go : ∀ g ∈ (["len","bytes","list","sorted","int","tuple","range","enumerate"] : List Str),nsIn (Kd P) mainGlobals g = some none:=by
  refine ac ?_ (ac ?_ (ac ?_ (ac ?_ (ac ?_ (ac ?_ (ac ?_ (ac ?_ an))))))) <;> kernel_rfl
 exact mg_none_of X G (go f hm)
end Mine
end
section
open PySem PySem.W PyProof.Rows PySem.Calls PySem.SeqAt
namespace Mine
theorem law_walk (PL : Plain) {P : Params} {prog : Program} {w : World} {loose : List Str} {p : Program} {mg mb : Str → Option Value} {s₁ : Shared} {h₁ : Heap} {t : Nat} {a : Addr} {cd : Value} {us : List Value} {ns : List Int} {ad : Addr}
  {E : Value → Shared → Prop} {Q : Flow → Shared → Prop} {name : Str}
  (KX : (Kd P).In s₁.heap) (T : TopRead p loose mg mb s₁.heap) (hL : s₁.heap.IsList ad us.toArray) (hI : IntsAre us ns) (hn : ns.length ≤ 63)
  (F : Fr s₁.heap s₁.heap.objs.size h₁ fun y =>List.lookup y [(("script" : Str),Value.ref ad)].reverse)
  (q : ∀ h t,(∀ b o,s₁.heap.get? b = some o → h.get? b = some o) → Q (.ret (.bool true)) { s₁ with heap:=h,toks:=t }) :
  wpAny (model prog w) (callerA.deeper (envOf name eQ.sc s₁.heap.objs.size a cd)) (execs eQ.body (envOf name eQ.sc s₁.heap.objs.size a cd)) Q E { s₁ with heap:=h₁,toks:=t }:=by
 refine bc fun hN =>?_
 obtain ⟨g',hx⟩:=plain_exs PL hn
 refine hN ?_; clear hN
 let X : Gx:={ prog:=prog,w:=w,K:=Kd P,B0:=s₁.heap,mg:=mg,mb:=mb,kin:=KX,g:=T.g,b:=T.b,lim:=T.nolimit,bl:=fun f hf =>⟨blt_g rfl KX T.g hf,blt_b T.builtins hf⟩,clsA:=clsAd,sv:=none,pn:=[] }
 have hT : TabOk X tab:=tab_ok rfl rfl
 have hG:=ge_ok hT 6
 have hr : Rep s₁.heap (.list (ns.map .int)) (.ref ad):=by
  unfold Rep
  exact ⟨ad,us,rfl,hL,Reps.of_ints hI⟩
 have hA : Room (callerA.deeper (envOf name eQ.sc s₁.heap.objs.size a cd)) (42 * 6 + 40):=⟨rfl,by show 301 + 1 + 292 < 600; omega,by show 4 + 3 + 8 * 292 < 9000; omega⟩
 have C : ScOk eQ.sc [("script" : Str)]:=scOk_of (by rfl)
 refine wpAny_mono (law_join (X:=X) (name:=name) (a:=a) (cd:=cd) (t:=t) (E:=E) rfl hG C rfl (fun _ =>rfl) rfl rfl F hr hA hx) (fun f s' hf =>?_) fun _ _ e =>e
 refine bc fun hN =>?_
 obtain ⟨u,rfl,hu,⟨h,t',rfl⟩,k⟩:=hf
 refine hN ?_; clear hN
 unfold Rep at hu
 subst hu
 exact q h t' k
end Mine
end
section
namespace Mine
open PySem
theorem ofString_inj {a b : String} (h : Str.ofString a = Str.ofString b) : a = b:=by
 simp only [Str.ofString_eq_toList,Str.ofString_eq_toList] at h
 have h2 : a.toList.map Char.toNat = b.toList.map Char.toNat:=by
  have:=congrArg (fun s : Str =>s.cps.toList) h
  simpa using this
 have hinj : Function.Injective Char.toNat:=by
  intro x y e
  exact Char.ext (UInt32.toNat_inj.mp e)
 have key : ∀ (l m : List Char),l.map Char.toNat = m.map Char.toNat → l = m:=by
  intro l
  induction l with
  | nil =>intro m e; cases m with
   | nil =>rfl
   | cons _ _ =>simp at e
  | cons c r ih =>intro m e; cases m with
   | nil =>simp at e
   | cons d s =>
    simp only [List.map_cons,List.cons.injEq] at e
    simp only [hinj e.1,ih _ e.2]
 have h3:=key _ _ h2
 rw [← String.ofList_toList (s:=a),← String.ofList_toList (s:=b),h3]
theorem ofString_beq (a b : String) : (Str.ofString a == Str.ofString b) = (a == b):=by
 by_cases h : a = b
 ·subst h; simp
 ·have : Str.ofString a ≠ Str.ofString b:=fun e =>h (ofString_inj e)
  simp only [beq_eq_false_iff_ne.mpr this,beq_eq_false_iff_ne.mpr h]
noncomputable def Out {α : Type} (o : Option α) (P : α → Prop) : Prop:=∃ a,o = some a ∧ P a
noncomputable def bK (n : Nat) (G : Ge) (sc : Scope) (mu : List Str) (t : Expr) (b : List Stmt) (k : Nat) (g : Gam) : Option Fl:=fQ (evT n G sc · t) (exs n G sc mu b) k g
noncomputable def bt (n : Nat) (G : Ge) (sc : Scope) (mu : List Str) (t : Expr) (b : List Stmt) (xs : List V) (g : Gam) : Option Fl:=forV (cg sc t) (exs n G sc mu b) xs g
theorem lk_cons {κ α : Type} [BEq κ] {y x : κ} {a : α} {r : List (κ × α)} : List.lookup y ((x,a) :: r) = if (y == x) = true then some a else List.lookup y r:=by
 rw [List.lookup_cons]; cases y == x <;> rfl
theorem lk_set {α : Type} {x y : Str} {a : α} : ∀ {g : List (Str × α)},(ae x a g).lookup y = if (y == x) = true then some a else g.lookup y
 | [] =>by simp only [ae,lk_cons]
 | (z,b) :: r =>by
  rw [ae]
  split
  ·rename_i h
   have : z = x:=by simpa using h
   subst this
   simp only [lk_cons,lk_cons]
   split
   ·rfl
   ·rfl
  ·rename_i h
   simp only [lk_cons,lk_cons,lk_set]
   by_cases h1 : (y == z) = true
   ·have : y = z:=by simpa using h1
    subst this
    rw [if_pos h1,if_neg (by simpa using h),if_pos h1]
   ·rw [if_neg h1,if_neg h1]
section
variable {a b : Int}
theorem b_mulI : ag .Mult (.int a) (.int b) = if (small a && small b) = true then some (.int (a * b)) else .none:=rfl
theorem b_fdiv : ag .FloorDiv (.int a) (.int b) = if b ≠ 0 ∧ small b = true then some (.int (a.fdiv b)) else .none:=rfl
theorem b_mod : ag .Mod (.int a) (.int b) = if b ≠ 0 then some (.int (a.fmod b)) else .none:=rfl
theorem b_shl : ag .LShift (.int a) (.int b) = if 0 ≤ b ∧ b ≤ 64 ∧ small a = true then some (.int (a * 2 ^ b.toNat)) else .none:=rfl
theorem b_shr : ag .RShift (.int a) (.int b) = if 0 ≤ b then some (.int (a.fdiv (2 ^ b.toNat))) else .none:=rfl
theorem b_addB {x y : List Int} : ag .Add (.bytes x) (.bytes y) = if x.length + y.length ≤ lid then some (.bytes (x ++ y)) else .none:=rfl
theorem b_addL {x y : List V} : ag .Add (.list x) (.list y) = if x.length + y.length ≤ lid then some (.list (x ++ y)) else .none:=rfl
theorem eq_int : eqV (.int a) (.int b) = some (a == b):=rfl
theorem eq_str {x y : Str} : eqV (.str x) (.str y) = some (x == y):=rfl
theorem eq_bytes {x y : List Int} : eqV (.bytes x) (.bytes y) = some (x == y):=rfl
end
theorem len_bytes {k : List Int} : gk (.bytes k) = if k.length ≤ lid then some k.length else .none:=rfl
theorem len_list {k : List V} : gk (.list k) = if k.length ≤ lid then some k.length else .none:=rfl
theorem item_bytes {ks : List Int} {i : Int} : al (.bytes ks) (.int i) = if ks.length ≤ lid then (aH ks i).map .int else .none:=rfl
theorem item_list {ks : List V} {i : Int} : al (.list ks) (.int i) = if ks.length ≤ lid then aH ks i else .none:=rfl
theorem slice_bytes {ks : List Int} {lo hi : Option Int} : aq (.bytes ks) lo hi = if ks.length ≤ lid then some (.bytes (cut ks lo hi)) else .none:=rfl
theorem slice_list {ks : List V} {lo hi : Option Int} : aq (.list ks) lo hi = if ks.length ≤ lid then some (.list (cut ks lo hi)) else .none:=rfl
theorem part_int {i : Int} : ay (some (.int i)) = if i.natAbs < 4611686018427387904 then some (some i) else .none:=rfl
theorem items_list {xs : List V} : ao (.list xs) = if xs.length ≤ lid then some xs else .none:=rfl
theorem items_tup {xs : List V} : ao (.tup xs) = if xs.length ≤ lid then some xs else .none:=rfl
theorem items_bytes {ks : List Int} : ao (.bytes ks) = if ks.length ≤ lid then some (ks.map .int) else .none:=rfl
theorem bl_len {v : V} : aj "len" [v] = (gk v).map fun (n : Nat) =>V.int n:=by rfl
theorem bl_bytes {xs : List V} : aj "bytes" [.list xs] = (gm xs).bind fun ns =>if ns.length ≤ lid ∧ ∀ n ∈ ns,0 ≤ n ∧ n < 256 then some (.bytes ns) else .none:=by rfl
theorem bl_listL {xs : List V} : aj "list" [.list xs] = if xs.length ≤ lid then some (.list xs) else .none:=by rfl
noncomputable def contF (o : Option Fl) (k : Gam → Option Fl) : Option Fl:=match o with
 | some (.next g) =>k g
 | some (.brk g) =>some (.next g)
 | some (.ret v g) =>some (.ret v g)
 | .none =>.none
section
variable {n : Nat} {G : Ge} {sc : Scope} {mu : List Str} {t : Expr} {b : List Stmt} {g : Gam}
theorem forX_cons {x : V} {r : List V} : bt n G sc mu t b (x :: r) g = (cg sc t x g).bind fun g' =>contF (exs n G sc mu b g') (bt n G sc mu t b r):=by
 unfold bt
 rw [forV]
 cases cg sc t x g with
 | none =>rfl
 | some g' =>
  simp only [Option.bind_some]
  cases exs n G sc mu b g' with
  | none =>rfl
  | some f =>cases f <;> rfl
theorem whileX_succ {k : Nat} : bK n G sc mu t b (k + 1) g = iteO (evT n G sc g t) (contF (exs n G sc mu b g) (bK n G sc mu t b k)) (some (.next g)):=by
 unfold bK
 rw [fQ]
 cases evT n G sc g t with
 | none =>rfl
 | some c =>cases c with
  | false =>rfl
  | true =>
   show _ = contF (exs n G sc mu b g) _
   cases exs n G sc mu b g with
   | none =>rfl
   | some f =>cases f <;> rfl
end
theorem it_range1 {b : Int} : bM "range" [.int b] = if (decide (b ≤ (1048576 : Int)) && small b) = true then some (dH 0 b) else .none:=by rfl
theorem it_range3 {a b c : Int} : bM "range" [.int a,.int b,.int c] = if (small a && decide (b ≤ (1048576 : Int)) && small b && decide (1 ≤ c) && decide (c ≤ 64)) = true then some (dR a b c) else .none:=by rfl
theorem en_cons {k : Nat} {x : V} {r : List V} : dD k (x :: r) = .tup [.int k,x] :: dD (k + 1) r:=rfl
noncomputable def compC (o : Option (Option V)) (r : Option (List V)) : Option (List V):=match o with
 | some (some y) =>r.map (y :: ·)
 | some .none =>r
 | .none =>.none
theorem cv_cons {f : V → Option (Option V)} {x : V} {r : List V} : aR f (x :: r) = compC (f x) (aR f r):=by
 rw [aR]
 cases f x with
 | none =>rfl
 | some o =>cases o <;> rfl
noncomputable def andO2 (x y : Option Bool) : Option Bool:=match x,y with
 | some a,some b =>some (a && b)
 | _,_ =>.none
theorem eqvs_cons {a b : V} {r s : List V} : eqVs (a :: r) (b :: s) = andO2 (eqI a b) (eqVs r s):=by
 show ((eqI a b).bind fun x =>(eqVs r s).bind fun y =>some (x && y)) = _; unfold andO2
 cases eqI a b <;> cases eqVs r s <;> rfl
noncomputable def d0 {α β ρ : Type} (f : α → (β → Option ρ) → Option ρ) : List α → (List β → Option ρ) → Option ρ
 | [],K =>K []
 | a :: r,K =>f a fun b =>d0 f r fun bs =>K (b :: bs)
theorem mpO_cons {α β : Type} {f : α → Option β} {a : α} {r : List α} : az f (a :: r) = (f a).bind fun b =>(az f r).map (b :: ·):=by
 show (match f a with | some b =>(az f r).map (b :: ·) | .none =>.none) = _; cases f a <;> rfl
theorem d5 {α β γ : Type} {o : Option α} {f : α → β} {K : β → Option γ} : (o.map f).bind K = o.bind fun a =>K (f a):=by cases o <;> rfl
theorem mapK_eq {α β ρ : Type} {f : α → (β → Option ρ) → Option ρ} {f0 : α → Option β} (h : ∀ a K,f a K = (f0 a).bind K) : ∀ (l : List α) (K : List β → Option ρ),d0 f l K = (az f0 l).bind K
 | [],K =>rfl
 | a :: r,K =>by
  refine (h a _).trans ?_
  rw [mpO_cons,Option.bind_assoc]
  congr 1
  funext b
  rw [mapK_eq h r,d5]
noncomputable def clsC {ρ : Type} (o : Option (List (Str × V))) (a : List (Str × V) → Option ρ) (b : Option ρ) : Option ρ:=match o with
 | some fl =>a fl
 | .none =>b
noncomputable def subC {ρ : Type} (o : Option (List V)) (j : V) (K : V → Option ρ) (alt : Option ρ) : Option ρ:=match o with
 | some xs =>(al (.list xs) j).bind K
 | .none =>alt
noncomputable def lenC {ρ : Type} (o : Option (List V)) (A : List V → Option ρ) (B : Option ρ) : Option ρ:=match o with
 | some xs =>A xs
 | .none =>B
noncomputable def lenArg (f : Str) (sc : Scope) (g : Gam) (es : List Expr) : Option (List V):=if f == ("len" : Str) then (one es).bind (eS sc g) else .none
noncomputable def ownC {ρ : Type} (v : V) (K : List Int → Option ρ) : Option ρ:=(fT v).bind fun ks =>if ks.length ≤ lid then K ks else .none
noncomputable def extC {ρ : Type} (v : V) (K : List V → Option ρ) : Option ρ:=(aW v).bind K
noncomputable def methC {ρ : Type} (m x : Str) (g : Gam) (xs vs : List V) (K : Fl → Option ρ) : Option ρ :=
 if m == ("append" : Str) then (one vs).bind fun v =>if xs.length < lid then K (.next (ae x (.own (xs ++ [v])) g)) else .none
 else if m == ("extend" : Str) then (one vs).bind fun v =>extC v fun ys =>if xs.length + ys.length ≤ lid then K (.next (ae x (.own (xs ++ ys)) g)) else .none
 else if m == ("reverse" : Str) then (if vs.isEmpty = true then (if xs.length ≤ lid then K (.next (ae x (.own xs.reverse) g)) else .none) else .none)
 else .none
noncomputable def flC {ρ : Type} (fl : Fl) (A B : Gam → Option ρ) (D : V → Gam → Option ρ) : Option ρ:=match fl with
 | .next g =>A g
 | .brk g =>B g
 | .ret v g =>D v g
noncomputable def tupO : V → Option (List V)
 | .tup vs =>some vs
 | _ =>.none
noncomputable def two' {α : Type} : List α → Option (α × α)
 | [] =>.none
 | a :: r =>(one r).map fun b =>(a,b)
noncomputable def un2 {ρ : Type} (v : V) (K : V → V → Option ρ) : Option ρ:=(tupO v).bind fun l =>(two' l).bind fun p =>K p.1 p.2
noncomputable def un3 {ρ : Type} (v : V) (K : V → V → V → Option ρ) : Option ρ:=(tupO v).bind fun l =>match l with
 | [] =>.none
 | a :: r =>(two' r).bind fun p =>K a p.1 p.2
noncomputable def unK {ρ : Type} (n : Nat) (v : V) (K : V → Option ρ) : Option ρ :=
 if n = 2 then un2 v fun a b =>K (.tup [a,b]) else if n = 3 then un3 v fun a b c =>K (.tup [a,b,c]) else K v
mutual
noncomputable def evK {ρ : Type} : Nat → Ge → Scope → Gam → Expr → (V → Option ρ) → Option ρ
 | 0,_,_,_,_,_ =>.none
 | n + 1,G,sc,g,e,K =>match e with
  | .Constant c _ _ =>(constV c).bind K
  | .Name x _ =>if ax sc x = true then (ah (g.lookup x)).bind K else if br sc x = true then (G.cst x).bind K else .none
  | .BinOp a op b _ =>evK n G sc g a fun x =>evK n G sc g b fun y =>(ag op x y).bind K
  | .UnaryOp op a _ =>(match op with
   | .USub =>((intLit a).map fun i =>V.int (-i)).bind K
   | .Not =>evK n G sc g a fun x =>x.tru.bind fun b =>K (.bool !b)
   | _ =>.none)
  | .BoolOp op es _ =>evBK n G sc g op es K
  | .Compare a ops es _ =>if lastMarks ops es = true then .none else evK n G sc g a fun x =>evCK n G sc g x ops es fun b =>K (.bool b)
  | .IfExp t a b _ =>evTK n G sc g t fun c =>cond c (evK n G sc g a K) (evK n G sc g b K)
  | .List es _ =>d0 (evK n G sc g) es fun vs =>if vs.length ≤ lid then K (.list vs) else .none
  | .Tuple es _ _ =>d0 (evK n G sc g) es fun vs =>if vs.length ≤ lid then K (.tup vs) else .none
  | .Attribute v f _ =>(aN v).bind fun x =>if ax sc x = true then (fldO G f (g.lookup x)).bind K else .none
  | .Subscript a i _ =>(match dctOf a with
   | some kv =>(az eR kv.1).bind fun kl =>d0 (evK n G sc g) kv.2 fun vl =>evK n G sc g i fun j =>(dictG kl vl j).bind K
   | .none =>(match dT i with
    | some s =>(match s.2.2 with
     | .none =>evK n G sc g a fun x =>evOK n G sc g s.1 fun l =>evOK n G sc g s.2.1 fun h =>(aq x l h).bind K
     | some st =>if isRev s.1 s.2.1 st = true then ((ev n G sc g a).bind revV).bind K else .none)
    | .none =>evK n G sc g i fun j =>subC (eS sc g a) j K (evK n G sc g a fun w =>(al w j).bind K)))
  | .Call f es ks p =>(match f with
   | .Name f q =>if br sc f = true then (if ks.isEmpty = true then lenC (lenArg f sc g es) (fun xs =>((gk (.list xs)).map fun (k : Nat) =>V.int k).bind K) (d0 (evK n G sc g) es fun vs =>(orO (G.fn f vs []) (aj f vs)).bind K)
    else (ev (n + 1) G sc g (.Call (.Name f q) es ks p)).bind K) else .none
   | .Attribute b m pa =>if ks.isEmpty = true then (match aN b with
    | some x =>if (ax sc x && bJ pa p && decide (es.length < 20)) = true then (cz (g.lookup x)).bind fun cf =>d0 (evK n G sc g) es fun vs =>if (cf.2.lookup m).isNone = true then (G.pm cf.1 m vs).bind K else .none else .none
    | .none =>if (isEBE b && (m == ("join" : Str) && bJ pa p)) = true then (one es).bind fun e =>evK n G sc g e fun v =>((aW v).bind joinV).bind K else .none) else .none
   | _ =>.none)
  | .ListComp elt gens csc _ =>(compOf gens).bind fun c =>if compOk sc csc c.1 = true then evIK n G sc g c.2.1 fun xs =>if xs.length ≤ lid then (aR (fun x =>evIfsK n G csc (ae c.1 (.val x) g) c.2.2 fun b =>cond b (evK n G csc (ae c.1 (.val x) g) elt fun v =>some (some v)) (some .none)) xs).bind fun vs =>K (.list vs) else .none else .none
  | _ =>.none
noncomputable def evOK {ρ : Type} : Nat → Ge → Scope → Gam → Option Expr → (Option Int → Option ρ) → Option ρ
 | 0,_,_,_,_,_ =>.none
 | n + 1,G,sc,g,o,K =>match o with
  | .none =>K .none
  | some e =>evK n G sc g e fun v =>(ay (some v)).bind K
noncomputable def evIK {ρ : Type} : Nat → Ge → Scope → Gam → Expr → (List V → Option ρ) → Option ρ
 | 0,_,_,_,_,_ =>.none
 | n + 1,G,sc,g,e,K =>match bI e with
  | some c =>if (br sc c.1 && c.1 == ("range" : Str)) = true then d0 (evK n G sc g) c.2 fun vs =>(bM c.1 vs).bind K else evK n G sc g e fun v =>(ao v).bind K
  | .none =>evK n G sc g e fun v =>(ao v).bind K
noncomputable def evIfsK {ρ : Type} : Nat → Ge → Scope → Gam → List Expr → (Bool → Option ρ) → Option ρ
 | 0,_,_,_,_,_ =>.none
 | n + 1,G,sc,g,es,K =>match es with
  | [] =>K true
  | e :: r =>(match r with
   | [] =>evTK n G sc g e K
   | _ :: _ =>.none)
noncomputable def evTK {ρ : Type} : Nat → Ge → Scope → Gam → Expr → (Bool → Option ρ) → Option ρ
 | 0,_,_,_,_,_ =>.none
 | n + 1,G,sc,g,e,K =>match e with
  | .UnaryOp op a p =>(match op with
   | .Not =>evTK n G sc g a fun b =>K !b
   | op =>evK n G sc g (.UnaryOp op a p) fun v =>v.tru.bind K)
  | .BoolOp op es _ =>evAK n G sc g op es K
  | .IfExp t a b _ =>evTK n G sc g t fun c =>cond c (evTK n G sc g a K) (evTK n G sc g b K)
  | .Compare a ops es _ =>if lastMarks ops es = true then .none else evK n G sc g a fun x =>evCK n G sc g x ops es K
  | e =>evK n G sc g e fun v =>v.tru.bind K
noncomputable def evBK {ρ : Type} : Nat → Ge → Scope → Gam → BoolOp → List Expr → (V → Option ρ) → Option ρ
 | 0,_,_,_,_,_,_ =>.none
 | n + 1,G,sc,g,op,es,K =>match es with
  | [] =>.none
  | e :: r =>(match r with
   | [] =>evK n G sc g e K
   | _ :: _ =>evK n G sc g e fun v =>v.tru.bind fun b =>(match op with
    | .And =>cond b (evBK n G sc g .And r K) (K v)
    | .Or =>cond b (K v) (evBK n G sc g .Or r K)))
noncomputable def evAK {ρ : Type} : Nat → Ge → Scope → Gam → BoolOp → List Expr → (Bool → Option ρ) → Option ρ
 | 0,_,_,_,_,_,_ =>.none
 | n + 1,G,sc,g,op,es,K =>match es with
  | [] =>K (op == .And)
  | e :: r =>evTK n G sc g e fun b =>(match op with
   | .And =>cond b (evAK n G sc g .And r K) (K false)
   | .Or =>cond b (K true) (evAK n G sc g .Or r K))
noncomputable def evCK {ρ : Type} : Nat → Ge → Scope → Gam → V → List CmpOp → List Expr → (Bool → Option ρ) → Option ρ
 | 0,_,_,_,_,_,_,_ =>.none
 | n + 1,G,sc,g,x,ops,es,K =>match ops with
  | [] =>.none
  | op :: ops =>(match es with
   | [] =>.none
   | e :: es =>evK n G sc g e fun y =>(ap op x y).bind fun b =>(match ops with
    | [] =>(match es with
     | [] =>K b
     | _ :: _ =>.none)
    | _ :: _ =>(match es with
     | [] =>.none
     | _ :: _ =>cond b (evCK n G sc g y ops es K) (K false))))
end
noncomputable def evRK {ρ : Type} (n : Nat) (G : Ge) (sc : Scope) (g : Gam) (o : Bool) (e : Expr) (K : AV → Option ρ) : Option ρ :=
 if (o && isNilL e) = true then K (.own []) else match bI e with
  | some c =>if o = true then (if (c.1 == ("list" : Str) && br sc c.1 && (G.fn c.1 [] []).isNone) = true then (one c.2).bind fun a =>evK n G sc g a fun v =>ownC v fun ks =>K (.own (ks.map .int)) else .none)
   else if br sc c.1 = true then d0 (evK n G sc g) c.2 fun vs =>clsC (G.cls c.1 vs) (fun fl =>K (.inst c.1 fl)) (evK n G sc g e fun v =>K (.val v)) else .none
  | .none =>evK n G sc g e fun v =>K (.val v)
mutual
noncomputable def exK {ρ : Type} : Nat → Ge → Scope → List Str → Gam → Stmt → (Fl → Option ρ) → Option ρ
 | 0,_,_,_,_,_,_ =>.none
 | n + 1,G,sc,mu,g,s,K =>match s with
  | .Return o _ =>o.bind fun e =>evK n G sc (thaw g) e fun v =>K (.ret v (thaw g))
  | .Break _ =>K (.brk g)
  | .If t a b _ =>evTK n G sc g t fun c =>cond c (exsK n G sc mu g a K) (exsK n G sc mu g b K)
  | .While t b e _ =>if e.isEmpty = true then (bK n G sc mu t b 65536 g).bind K else .none
  | .For t it b e _ =>if e.isEmpty = true then (match gB sc t it with
   | some a =>(((ev n G sc g a).bind aW).bind fun xs =>if xs.length ≤ lid then bt n G sc mu t b (dD 0 xs) g else .none).bind K
   | .none =>evIK n G sc g it fun xs =>(bt n G sc mu t b xs g).bind K) else .none
  | .Expr e _ =>(match eV e with
   | some c =>if (ax sc c.1.1 && bJ c.1.2.2 c.2.2) = true then (dQ (g.lookup c.1.1)).bind fun xs =>d0 (evK n G sc g) c.2.1 fun vs =>methC c.1.2.1 c.1.1 g xs vs K else .none
   | .none =>(bI e).bind fun _ =>evK n G sc g e fun v =>if aw v = true then K (.next g) else .none)
  | .Assign ts e _ =>(one ts).bind fun t =>(match cW t with
   | some us =>(match cW e with
    | some es =>if (us.length = es.length && swOk es && es.length ≤ 30) = true then d0 (fun (p : Expr × Expr) K =>evRK n G sc g (ez mu p.1) p.2 K) (us.zip es) fun as =>(gf G sc us as g).bind K else .none
    | .none =>evK n G sc g e fun v =>unK us.length v fun v =>(cg sc t v g).bind fun g' =>K (.next g'))
   | .none =>(match (aN t).bind fun x =>(fy sc x e).map fun f =>(x,f) with
    | some f =>(cz (g.lookup f.2.2.1)).bind fun cf =>evK n G sc g f.2.1 fun v =>(aW v).bind fun ys =>d0 (evK n G sc g) f.2.2.2.2 fun vs =>if (cf.2.lookup f.2.2.2.1).isNone = true then (G.mth cf.1 f.2.2.2.1 cf.2 vs).bind fun r =>(aW r.1).bind fun zs =>if ys.length + zs.length ≤ lid then K (.next (ae f.1 (.val (.list (ys ++ zs))) (ae f.2.2.1 (.inst cf.1 r.2) g))) else .none else .none
    | .none =>evRK n G sc g (ez mu t) e fun a =>(asg G sc t a g).bind fun g' =>K (.next g')))
  | _ =>.none
noncomputable def exsK {ρ : Type} : Nat → Ge → Scope → List Str → Gam → List Stmt → (Fl → Option ρ) → Option ρ
 | 0,_,_,_,_,_,_ =>.none
 | n + 1,G,sc,mu,g,ss,K =>match ss with
  | [] =>K (.next g)
  | s :: r =>exK n G sc mu g s fun fl =>(match fl with
   | .next g' =>exsK n G sc mu g' r K
   | .brk g' =>K (.brk g')
   | .ret v g' =>K (.ret v g'))
end
theorem dX {α β : Type} {c : Prop} [Decidable c] {x : Option α} {K : α → Option β} : (if c then x else Option.none).bind K = if c then x.bind K else Option.none:=by split <;> rfl
theorem ite_bn {α β : Type} {c : Prop} [Decidable c] {x : Option α} {K : α → Option β} : (if c then Option.none else x).bind K = if c then Option.none else x.bind K:=by split <;> rfl
theorem ite_bd {α β : Type} {c : Prop} [Decidable c] {x y : Option α} {K : α → Option β} : (if c then x else y).bind K = if c then x.bind K else y.bind K:=by split <;> rfl
theorem iteO_bd {α β : Type} {o : Option Bool} {x y : Option α} {K : α → Option β} : (iteO o x y).bind K = o.bind fun c =>cond c (x.bind K) (y.bind K):=by
 rcases o with _ | b
 ·rfl
 ·cases b <;> rfl
theorem cond_bd {α β : Type} {c : Bool} {x y : Option α} {K : α → Option β} : (cond c x y).bind K = cond c (x.bind K) (y.bind K):=by cases c <;> rfl
theorem bound_bd {α ρ : Type} {l : List α} {v : V} {K : V → Option ρ} : (boundO l v).bind K = if l.length ≤ lid then K v else .none:=dX
theorem bsm {α β : Type} {o : Option α} {f : α → β} : (o.bind fun a =>some (f a)) = o.map f:=by cases o <;> rfl
theorem bx {α β : Type} {a : α} {K : α → Option β} : (some a).bind K = K a:=rfl
theorem none_bd {α β : Type} {K : α → Option β} : (Option.none : Option α).bind K = Option.none:=rfl
theorem lenOwn_arg {f : Str} {sc : Scope} {g : Gam} {es : List Expr} : lenOwn f sc g es = (lenArg f sc g es).bind fun xs =>(gk (.list xs)).map fun (k : Nat) =>V.int k:=by
 unfold lenOwn lenArg
 simp only [dX,Option.bind_assoc]
theorem lenArg_none {n : Nat} {G : Ge} {f : Str} {sc : Scope} {g : Gam} {es : List Expr} {xs : List V} (h : lenArg f sc g es = some xs) : az (ev n G sc g) es = Option.none:=by
 refine bc fun hN =>?_
 refine aE h fun _ h =>?_
 refine aa h fun e h1 h =>?_
 refine aa h fun x h2 h3 =>?_
 refine aE h3 fun hl h4 =>?_
 refine hN ?_; clear hN
 simp only [bh h1,mpO_cons]
 refine bc fun hN =>?_
 obtain ⟨p,rfl⟩:=aT h2
 refine hN ?_; clear hN
 cases n with
 | zero =>rfl
 | succ n =>
  have e1 : ev (n + 1) G sc g (.Name x p) = Option.none:=by
   show (if _ then ah _ else _) = _
   rw [if_pos hl,eW h4]; rfl
  rw [e1]; rfl
structure KEq (n : Nat) : Prop where
 e : ∀ {ρ : Type} (G sc g e) (K : V → Option ρ),evK n G sc g e K = (ev n G sc g e).bind K
 t : ∀ {ρ : Type} (G sc g e) (K : Bool → Option ρ),evTK n G sc g e K = (evT n G sc g e).bind K
 b : ∀ {ρ : Type} (G sc g op es) (K : V → Option ρ),evBK n G sc g op es K = (evB n G sc g op es).bind K
 a : ∀ {ρ : Type} (G sc g op es) (K : Bool → Option ρ),evAK n G sc g op es K = (evA n G sc g op es).bind K
 c : ∀ {ρ : Type} (G sc g x ops es) (K : Bool → Option ρ),evCK n G sc g x ops es K = (evC n G sc g x ops es).bind K
 o : ∀ {ρ : Type} (G sc g oe) (K : Option Int → Option ρ),evOK n G sc g oe K = (evO n G sc g oe).bind K
 i : ∀ {ρ : Type} (G sc g e) (K : List V → Option ρ),evIK n G sc g e K = (evI n G sc g e).bind K
 s : ∀ {ρ : Type} (G sc g es) (K : Bool → Option ρ),evIfsK n G sc g es K = (evIfs n G sc g es).bind K
theorem keq0 : KEq 0:=⟨fun _ _ _ _ _ =>rfl,fun _ _ _ _ _ =>rfl,fun _ _ _ _ _ _ =>rfl,fun _ _ _ _ _ _ =>rfl,fun _ _ _ _ _ _ _ =>rfl,fun _ _ _ _ _ =>rfl,fun _ _ _ _ _ =>rfl,fun _ _ _ _ _ =>rfl⟩
section
variable {n : Nat} (I : KEq n) {ρ : Type}
include I
theorem eU {G : Ge} {sc : Scope} {g : Gam} {es : List Expr} {K : List V → Option ρ} : d0 (evK n G sc g) es K = (az (ev n G sc g) es).bind K:=mapK_eq (fun a K =>I.e _ _ _ a K) es K
theorem evK_call {G : Ge} {sc : Scope} {g : Gam} {f : Str} {es : List Expr} {K : V → Option ρ} : lenC (lenArg f sc g es) (fun xs =>((gk (.list xs)).map fun (k : Nat) =>V.int k).bind K) (d0 (evK n G sc g) es fun vs =>(orO (G.fn f vs []) (aj f vs)).bind K) = (match az (ev n G sc g) es with
    | some vs =>(kwV []).bind fun kes =>(az (fun (p : Str × Expr) =>(ev n G sc g p.2).map fun v =>(p.1,v)) kes).bind fun kvs =>callG G f vs kvs
    | .none =>lenOwn f sc g es).bind K:=by
 rw [lenOwn_arg,eU I]
 cases h : lenArg f sc g es with
 | some xs =>rw [lenArg_none h]; rfl
 | none =>cases az (ev n G sc g) es <;> rfl
theorem evK_sub {G : Ge} {sc : Scope} {g : Gam} {a i : Expr} {K : V → Option ρ} : (evK n G sc g i fun j =>subC (eS sc g a) j K (evK n G sc g a fun w =>(al w j).bind K)) = ((ev n G sc g i).bind fun j =>subK (eS sc g a) (ev n G sc g a) j).bind K:=by
 rw [I.e,Option.bind_assoc]
 congr 1
 funext j
 rw [I.e]
 cases eS sc g a with
 | none =>exact (Option.bind_assoc ..).symm
 | some xs =>rfl
theorem evK_s (G : Ge) (sc : Scope) (g : Gam) (e : Expr) (K : V → Option ρ) : evK (n + 1) G sc g e K = (ev (n + 1) G sc g e).bind K:=by
 cases e with
 | Constant c k p =>rfl
 | Name x p =>show (if _ then _ else if _ then _ else _) = Option.bind (if _ then _ else if _ then _ else _) K; rw [ite_bd,dX]
 | BinOp a op b p =>show evK n G sc g a _ = Option.bind (Option.bind _ _) K; simp only [I.e,Option.bind_assoc]
 | UnaryOp op a p =>
  cases op with
  | USub =>rfl
  | Not =>show evK n G sc g a _ = Option.bind (Option.bind _ _) K; simp only [I.e,Option.bind_assoc,d5]
  | _ =>rfl
 | BoolOp op es p =>exact I.b _ _ _ _ _ _
 | Compare a ops es p =>show (if _ then _ else _) = Option.bind (Option.bind (if _ then _ else _) _) K; simp only [I.e,I.c,Option.bind_assoc,d5,ite_bn]
 | IfExp t a b p =>show evTK n G sc g t _ = (iteO _ _ _).bind K; simp only [I.e,I.t,iteO_bd]
 | List es p =>show d0 _ _ _ = Option.bind (Option.bind _ _) K; simp only [eU I,Option.bind_assoc,bound_bd]
 | Tuple es k p =>show d0 _ _ _ = Option.bind (Option.bind _ _) K; simp only [eU I,Option.bind_assoc,bound_bd]
 | Attribute v f p =>show Option.bind _ _ = Option.bind (Option.bind _ _) K; simp only [Option.bind_assoc,dX]
 | Subscript a i p =>
  show (match dctOf a with
   | some kv =>(az eR kv.1).bind fun kl =>_
   | .none =>(match dT i with
    | some s =>(match s.2.2 with
     | .none =>evK n G sc g a fun x =>_
     | some st =>if isRev _ _ _ = true then _ else _)
    | .none =>evK n G sc g i fun j =>_)) = Option.bind (match dctOf a with
   | some kv =>(az eR kv.1).bind fun kl =>_
   | .none =>(match dT i with
    | some s =>(match s.2.2 with
     | .none =>_
     | some st =>if isRev _ _ _ = true then _ else _)
    | .none =>_)) K
  cases dctOf a with
  | some kv =>simp only [eU I,I.e,Option.bind_assoc]
  | none =>
   dsimp only
   cases dT i with
   | none =>exact evK_sub I
   | some s =>
    dsimp only
    cases s.2.2 with
    | none =>simp only [I.e,I.o,Option.bind_assoc]
    | some st =>exact dX.symm
 | Call f es ks p =>
  cases f with
  | Name f q =>
   cases ks with
   | nil =>
    show (if br sc f = true then _ else _) = Option.bind (if _ then _ else _) K
    rw [dX]; congr 1; exact evK_call I
   | cons k ks =>
    cases hg : br sc f with
    | true =>show (if br sc f = true then _ else _) = _; rw [if_pos hg]; rfl
    | false =>
     show (if br sc f = true then _ else _) = Option.bind (if br sc f = true then _ else _) K
     rw [if_neg (by rw [hg]; decide),if_neg (by rw [hg]; decide)]; rfl
  | Attribute b m pa =>
   show (if ks.isEmpty = true then _ else _) = Option.bind (if ks.isEmpty = true then _ else _) K
   rw [dX]
   congr 1
   cases aN b with
   | none =>show (if _ then _ else _) = Option.bind (if _ then _ else _) K; simp only [I.e,Option.bind_assoc,dX]
   | some x =>show (if _ then _ else _) = Option.bind (if _ then _ else _) K; simp only [eU I,Option.bind_assoc,dX]
  | _ =>rfl
 | ListComp elt gens csc p =>
  show Option.bind _ _ = Option.bind (Option.bind _ _) K
  simp only [I.e,I.i,I.s,Option.bind_assoc,d5,dX]
  congr 1; funext c; congr 1; congr 1; funext xs; congr 1; congr 1
  congr 1; funext x; congr 1; funext b
  cases b with
  | false =>rfl
  | true =>exact bsm
 | _ =>rfl
theorem evOK_s (G : Ge) (sc : Scope) (g : Gam) (o : Option Expr) (K : Option Int → Option ρ) : evOK (n + 1) G sc g o K = (evO (n + 1) G sc g o).bind K:=by
 cases o with
 | none =>rfl
 | some e =>show evK n G sc g e _ = Option.bind (Option.bind _ _) K; simp only [I.e,Option.bind_assoc]
theorem evIK_s (G : Ge) (sc : Scope) (g : Gam) (e : Expr) (K : List V → Option ρ) : evIK (n + 1) G sc g e K = (evI (n + 1) G sc g e).bind K:=by
 show (match bI e with
  | some c =>if (_ && _) = true then d0 _ _ _ else _
  | .none =>evK n G sc g e fun v =>_) = Option.bind (match bI e with
  | some c =>if (_ && _) = true then Option.bind _ _ else _
  | .none =>Option.bind _ _) K
 cases bI e with
 | none =>simp only [I.e,Option.bind_assoc]
 | some c =>dsimp only; rw [ite_bd]; simp only [I.e,eU I,Option.bind_assoc]
theorem evIfsK_s (G : Ge) (sc : Scope) (g : Gam) (es : List Expr) (K : Bool → Option ρ) : evIfsK (n + 1) G sc g es K = (evIfs (n + 1) G sc g es).bind K:=by
 rcases es with _ | ⟨e,_ | ⟨e2,r⟩⟩
 ·rfl
 ·exact I.t _ _ _ _ _
 ·rfl
theorem evTK_s (G : Ge) (sc : Scope) (g : Gam) (e : Expr) (K : Bool → Option ρ) : evTK (n + 1) G sc g e K = (evT (n + 1) G sc g e).bind K:=by
 have k : ∀ e,(evK n G sc g e fun v =>v.tru.bind K) = ((ev n G sc g e).bind V.tru).bind K:=fun e =>by simp only [I.e,Option.bind_assoc]
 cases e with
 | UnaryOp op a p =>
  cases op with
  | Not =>show evTK n G sc g a _ = Option.bind (Option.map _ _) K; simp only [I.t,d5]
  | _ =>exact k _
 | BoolOp op es p =>exact I.a _ _ _ _ _ _
 | IfExp t a b p =>show evTK n G sc g t _ = (iteO _ _ _).bind K; simp only [I.t,iteO_bd]
 | Compare a ops es p =>show (if _ then _ else _) = Option.bind (Option.bind (if _ then _ else _) _) K; simp only [I.e,I.c,Option.bind_assoc,ite_bn]
 | _ =>exact k _
theorem evBK_s (G : Ge) (sc : Scope) (g : Gam) (op : BoolOp) (es : List Expr) (K : V → Option ρ) : evBK (n + 1) G sc g op es K = (evB (n + 1) G sc g op es).bind K:=by
 rcases es with _ | ⟨e,_ | ⟨e2,r⟩⟩
 ·rfl
 ·exact I.e _ _ _ _ _
 ·show evK n G sc g e _ = Option.bind (Option.bind _ _) K
  cases op <;> simp only [I.e,I.b,Option.bind_assoc,cond_bd,bx]
theorem evAK_s (G : Ge) (sc : Scope) (g : Gam) (op : BoolOp) (es : List Expr) (K : Bool → Option ρ) : evAK (n + 1) G sc g op es K = (evA (n + 1) G sc g op es).bind K:=by
 cases es with
 | nil =>rfl
 | cons e r =>
  show evTK n G sc g e _ = Option.bind (Option.bind _ _) K
  cases op <;> simp only [I.t,I.a,Option.bind_assoc,cond_bd,bx]
theorem evCK_s (G : Ge) (sc : Scope) (g : Gam) (x : V) (ops : List CmpOp) (es : List Expr) (K : Bool → Option ρ) : evCK (n + 1) G sc g x ops es K = (evC (n + 1) G sc g x ops es).bind K:=by
 cases ops with
 | nil =>rfl
 | cons op ops =>
  cases es with
  | nil =>rfl
  | cons e es =>
   show evK n G sc g e _ = Option.bind (Option.bind _ _) K
   rw [I.e,Option.bind_assoc]
   congr 1; funext y
   rw [Option.bind_assoc]
   congr 1; funext b
   cases ops with
   | nil =>cases es <;> rfl
   | cons _ _ =>cases es with
    | nil =>rfl
    | cons _ _ =>dsimp only; rw [cond_bd,I.c]; rfl
end
theorem keq : ∀ n,KEq n
 | 0 =>keq0
 | n + 1 =>⟨evK_s (keq n),evTK_s (keq n),evBK_s (keq n),evAK_s (keq n),evCK_s (keq n),evOK_s (keq n),evIK_s (keq n),evIfsK_s (keq n)⟩
section
variable {n : Nat} {ρ : Type}
theorem or_bd {α : Type} {a b : Option α} {K : α → Option ρ} : (orO a b).bind K = (match a with
 | some x =>K x
 | .none =>b.bind K):=by cases a <;> rfl
theorem un2_imp {v : V} {K : V → V → Option ρ} {r : ρ} (h : un2 v K = some r) : ∃ a b,v = .tup [a,b] ∧ K a b = some r:=by
 refine bc fun hN =>?_
 refine aa h fun l h1 h2 =>?_
 refine aa h2 fun p h3 h4 =>?_
 refine hN ?_; clear hN
 cases v with
 | tup vs =>
  cases h1
  cases l with
  | nil =>exact nS h3
  | cons a t =>
   refine bc fun hN =>?_
   refine au h3 fun b h5 hEqq2 =>?_
   subst hEqq2
   refine hN ?_; clear hN
   rw [bh h5]
   exact ⟨_,_,rfl,h4⟩
 | _ =>exact nS h1
theorem un3_imp {v : V} {K : V → V → V → Option ρ} {r : ρ} (h : un3 v K = some r) : ∃ a b c,v = .tup [a,b,c] ∧ K a b c = some r:=by
 refine bc fun hN =>?_
 refine aa h fun l h1 h2 =>?_
 refine hN ?_; clear hN
 cases v with
 | tup vs =>
  cases h1
  cases l with
  | nil =>exact nS h2
  | cons a t =>
   refine bc fun hN =>?_
   refine aa h2 fun p h3 h4 =>?_
   refine hN ?_; clear hN
   cases t with
   | nil =>exact nS h3
   | cons b t =>
    refine bc fun hN =>?_
    refine au h3 fun c h5 hEqq2 =>?_
    subst hEqq2
    refine hN ?_; clear hN
    rw [bh h5]
    exact ⟨_,_,_,rfl,h4⟩
 | _ =>exact nS h1
theorem unK_imp {j : Nat} {v : V} {K : V → Option ρ} {r : ρ} (h : unK j v K = some r) : K v = some r:=by
 unfold unK at h
 by_cases c : j = 2
 ·rw [if_pos c] at h
  obtain ⟨a,b,rfl,h⟩:=un2_imp h; exact h
 ·rw [if_neg c] at h
  by_cases c : j = 3
  ·rw [if_pos c] at h
   obtain ⟨a,b,c,rfl,h⟩:=un3_imp h; exact h
  ·rw [if_neg c] at h; exact h
theorem evRK_imp {G : Ge} {sc : Scope} {g : Gam} {o : Bool} {e : Expr} {K : AV → Option ρ} {r : ρ} (h : evRK n G sc g o e K = some r) : (evR n G sc g o e).bind K = some r:=by
 have I:=keq n
 unfold evRK at h
 unfold evR
 by_cases c : (o && isNilL e) = true
 ·rw [if_pos c] at h ⊢; exact h
 rw [if_neg c] at h ⊢
 cases hc : bI e with
 | none =>
  rw [hc] at h
  show (Option.map _ _).bind K = _
  rw [d5,← I.e]; exact h
 | some d =>
  rw [hc] at h
  cases o with
  | true =>
   refine bc fun hN =>?_
   refine aE (show (if _ = true then _ else Option.none) = _ from h) fun h1 h =>?_
   refine aa h fun a h2 h =>?_
   refine hN ?_; clear hN
   show (if (_ && _) = true then Option.bind _ _ else _).bind K = _
   rw [if_pos h1,h2]
   rw [I.e] at h
   refine bc fun hN =>?_
   refine aa h fun v h3 h =>?_
   refine aa h fun ks h4 h =>?_
   refine aL h fun h5 h =>?_
   refine hN ?_; clear hN
   show (Option.bind _ ownB).bind K = _
   rw [h3,bx]
   unfold ownB
   rw [h4,bx,if_pos h5]; exact h
  | false =>
   refine bc fun hN =>?_
   refine aE (show (if _ = true then _ else Option.none) = _ from h) fun h1 h =>?_
   rw [eU I] at h
   refine aa h fun vs h2 h =>?_
   refine hN ?_; clear hN
   show (clsK G d.1 (if br sc d.1 = true then _ else _) _).bind K = _
   rw [if_pos h1,h2]
   unfold clsK
   rw [or_bd,bx]
   cases hk : G.cls d.1 vs with
   | some fl =>rw [hk] at h; exact h
   | none =>
    rw [hk] at h
    show (Option.map _ _).bind K = _
    rw [d5,← I.e]; exact h
theorem methC_eq {m x : Str} {g : Gam} {xs vs : List V} {K : Fl → Option ρ} : methC m x g xs vs K = (methK m x g xs vs).bind K:=by
 unfold methC methK extC
 simp only [ite_bd,Option.bind_assoc,bx,none_bd]
structure SEq (n : Nat) : Prop where
 s : ∀ {ρ : Type} {G sc mu g s} {K : Fl → Option ρ} {r : ρ},exK n G sc mu g s K = some r → (ex n G sc mu s g).bind K = some r
 l : ∀ {ρ : Type} {G sc mu g ss} {K : Fl → Option ρ} {r : ρ},exsK n G sc mu g ss K = some r → (exs n G sc mu ss g).bind K = some r
noncomputable def asgK (n : Nat) (G : Ge) (sc : Scope) (mu : List Str) (g : Gam) (t e : Expr) (K : Fl → Option ρ) : Option ρ:=match cW t with
   | some us =>(match cW e with
    | some es =>if (us.length = es.length && swOk es && es.length ≤ 30) = true then d0 (fun (p : Expr × Expr) K =>evRK n G sc g (ez mu p.1) p.2 K) (us.zip es) fun as =>(gf G sc us as g).bind K else .none
    | .none =>evK n G sc g e fun v =>unK us.length v fun v =>(cg sc t v g).bind fun g' =>K (.next g'))
   | .none =>(match (aN t).bind fun x =>(fy sc x e).map fun f =>(x,f) with
    | some f =>(cz (g.lookup f.2.2.1)).bind fun cf =>evK n G sc g f.2.1 fun v =>(aW v).bind fun ys =>d0 (evK n G sc g) f.2.2.2.2 fun vs =>if (cf.2.lookup f.2.2.2.1).isNone = true then (G.mth cf.1 f.2.2.2.1 cf.2 vs).bind fun r =>(aW r.1).bind fun zs =>if ys.length + zs.length ≤ lid then K (.next (ae f.1 (.val (.list (ys ++ zs))) (ae f.2.2.1 (.inst cf.1 r.2) g))) else .none else .none
    | .none =>evRK n G sc g (ez mu t) e fun a =>(asg G sc t a g).bind fun g' =>K (.next g'))
noncomputable def asgE (n : Nat) (G : Ge) (sc : Scope) (mu : List Str) (g : Gam) (t e : Expr) : Option Fl:=match cW t with
   | some us =>(match cW e with
    | some es =>if (us.length = es.length && swOk es && es.length ≤ 30) = true then (az (fun (p : Expr × Expr) =>evR n G sc g (ez mu p.1) p.2) (us.zip es)).bind fun as =>gf G sc us as g else .none
    | .none =>(ev n G sc g e).bind fun v =>(cg sc t v g).map .next)
   | .none =>(match (aN t).bind fun x =>(fy sc x e).map fun f =>(x,f) with
    | some f =>feedK G f.1 f.2.2.1 f.2.2.2.1 g ((ev n G sc g f.2.1).bind aW) (az (ev n G sc g) f.2.2.2.2)
    | .none =>(evR n G sc g (ez mu t) e).bind fun a =>(asg G sc t a g).map .next)
theorem zipK {G : Ge} {sc : Scope} {mu : List Str} {g : Gam} : ∀ (l : List (Expr × Expr)) {K : List AV → Option ρ} {r : ρ},d0 (fun (p : Expr × Expr) K =>evRK n G sc g (ez mu p.1) p.2 K) l K = some r → (az (fun (p : Expr × Expr) =>evR n G sc g (ez mu p.1) p.2) l).bind K = some r
 | [],_,_,h =>h
 | a :: l,K,r,h =>by
  refine bc fun hN =>?_
  refine aa (evRK_imp (show evRK n G sc g (ez mu a.1) a.2 (fun b =>d0 _ l fun bs =>K (b :: bs)) = some r from h)) fun b hb h =>?_
  refine aa (zipK l h) fun bs hbs h =>?_
  refine hN ?_; clear hN
  simp only [mpO_cons,hb,bx,hbs]; exact h
theorem asgK_imp {G : Ge} {sc : Scope} {mu : List Str} {g : Gam} {t e : Expr} {K : Fl → Option ρ} {r : ρ} (h : asgK n G sc mu g t e K = some r) : (asgE n G sc mu g t e).bind K = some r:=by
 have I:=keq n
 unfold asgK at h
 unfold asgE
 cases ht : cW t with
 | some us =>
  rw [ht] at h
  cases he : cW e with
  | some es =>
   rw [he] at h
   refine bc fun hN =>?_
   refine aE (show (if _ = true then _ else Option.none) = _ from h) fun h1 h =>?_
   refine hN ?_; clear hN
   show (if _ = true then Option.bind _ _ else Option.none).bind K = _
   simp only [if_pos h1,Option.bind_assoc]
   exact zipK _ h
  | none =>
   rw [he] at h
   refine bc fun hN =>?_
   refine aa ((I.e ..).symm.trans h) fun v h1 h =>?_
   refine hN ?_; clear hN
   show (Option.bind _ _).bind K = _
   rw [h1]
   show (Option.map _ _).bind K = _
   rw [d5]
   exact unK_imp h
 | none =>
  rw [ht] at h
  dsimp only at h ⊢
  revert h
  generalize ((aN t).bind fun x =>(fy sc x e).map fun f =>(x,f)) = of
  intro h
  cases of with
  | none =>
   refine bc fun hN =>?_
   refine aa (evRK_imp h) fun a h1 h =>?_
   refine hN ?_; clear hN
   show (Option.bind _ _).bind K = _
   rw [h1]
   show (Option.map _ _).bind K = _
   rw [d5]
   exact h
  | some f =>
   refine bc fun hN =>?_
   refine aa h fun cf h1 h =>?_
   refine aa ((I.e ..).symm.trans h) fun v h2 h =>?_
   refine aa h fun ys h3 h =>?_
   refine aa ((eU I).symm.trans h) fun vs h4 h =>?_
   refine aE h fun h5 h =>?_
   refine aa h fun r' h6 h =>?_
   refine aa h fun zs h7 h =>?_
   refine aL h fun h8 h =>?_
   refine hN ?_; clear hN
   show (feedK ..).bind K = _
   unfold feedK
   simp only [h1,h2,bx,bx,h3,bx,h4,bx,if_pos h5,h6,bx,h7,bx,if_pos h8]; exact h
theorem exK_imp (J : SEq n) {G : Ge} {sc : Scope} {mu : List Str} {g : Gam} {s : Stmt} {K : Fl → Option ρ} {r : ρ} (h : exK (n + 1) G sc mu g s K = some r) : (ex (n + 1) G sc mu s g).bind K = some r:=by
 have I:=keq n
 cases s with
 | Return o p =>
  refine bc fun hN =>?_
  refine aa (show Option.bind _ _ = some r from h) fun e h1 h =>?_
  refine hN ?_; clear hN
  show (Option.bind _ _).bind K = _
  rw [h1,bx,d5,← I.e]; exact h
 | Break p =>exact h
 | If t a b p =>
  refine bc fun hN =>?_
  refine aa ((I.t ..).symm.trans h) fun c hc h =>?_
  refine hN ?_; clear hN
  show (iteO _ _ _).bind K = _
  rw [hc]
  cases c
  ·exact J.l h
  ·exact J.l h
 | While t b e p =>
  refine bc fun hN =>?_
  refine aE (show (if _ = true then _ else Option.none) = _ from h) fun h1 h =>?_
  refine hN ?_; clear hN
  show (if _ = true then _ else Option.none).bind K = _
  rw [if_pos h1]; exact h
 | For t it b e p =>
  obtain ⟨h1,h⟩:=ite_some' (show (if _ = true then (match gB sc t it with
   | some a =>_
   | .none =>_) else Option.none) = _ from h)
  show (if e.isEmpty = true then (match gB sc t it with
   | some a =>_
   | .none =>_) else Option.none).bind K = _
  rw [if_pos h1]
  cases he : gB sc t it with
  | some a =>rw [he] at h; exact h
  | none =>
   rw [he] at h
   show (Option.bind _ _).bind K = _
   rw [Option.bind_assoc,← I.i]; exact h
 | Expr e q =>
  have h : (match eV e with
   | some c =>_
   | .none =>(bI e).bind fun _ =>evK n G sc g e fun v =>_) = some r:=h
  show Option.bind (match eV e with
   | some c =>_
   | .none =>Option.bind _ _) K = _
  cases he : eV e with
  | some c =>
   rw [he] at h
   refine bc fun hN =>?_
   refine aE (show (if _ = true then _ else Option.none) = _ from h) fun h1 h =>?_
   refine aa h fun xs h2 h =>?_
   refine aa ((eU I).symm.trans h) fun vs h3 h =>?_
   refine hN ?_; clear hN
   show (if _ = true then Option.bind _ _ else Option.none).bind K = _
   rw [if_pos h1,h2,bx,h3,bx,← methC_eq]; exact h
  | none =>
   rw [he] at h
   refine bc fun hN =>?_
   refine aa (show Option.bind _ _ = _ from h) fun c h1 h =>?_
   refine aa ((I.e ..).symm.trans h) fun v h2 h =>?_
   refine aE h fun h3 h =>?_
   refine hN ?_; clear hN
   show (Option.bind _ _).bind K = _
   simp only [h1,bx,h2,bx,if_pos h3]; exact h
 | Assign ts e p =>
  refine bc fun hN =>?_
  refine aa (show (one ts).bind (fun t =>asgK n G sc mu g t e K) = some r from h) fun t h1 h =>?_
  refine hN ?_; clear hN
  show (Option.bind (one ts) fun t =>asgE n G sc mu g t e).bind K = _
  rw [h1]
  exact asgK_imp h
 | _ =>exact h
theorem exsK_imp (J : SEq n) {G : Ge} {sc : Scope} {mu : List Str} {g : Gam} {ss : List Stmt} {K : Fl → Option ρ} {r : ρ} (h : exsK (n + 1) G sc mu g ss K = some r) : (exs (n + 1) G sc mu ss g).bind K = some r:=by
 cases ss with
 | nil =>exact h
 | cons s ss =>
  refine bc fun hN =>?_
  refine aa (J.s (show exK n G sc mu g s _ = some r from h)) fun fl h1 h =>?_
  refine hN ?_; clear hN
  show (seqF _ _).bind K = _
  rw [h1]
  cases fl with
  | next g' =>exact J.l h
  | brk g' =>exact h
  | ret v g' =>exact h
theorem seq : ∀ n,SEq n
 | 0 =>⟨fun h =>(by exact nS h),fun h =>(by exact nS h)⟩
 | n + 1 =>⟨fun h =>exK_imp (seq n) h,fun h =>exsK_imp (seq n) h⟩
end
theorem exsK_out {n : Nat} {G : Ge} {sc : Scope} {mu : List Str} {g : Gam} {ss : List Stmt} {fl : Fl} (h : exsK n G sc mu g ss some = some fl) : exs n G sc mu ss g = some fl:=by
 refine aa ((seq n).l h) fun a h1 h2 =>?_
 rw [h1]; exact h2
section
noncomputable def wt (G : Ge) : Ge:={ cst:=tab.cst,flds:=tab.flds,fn:=fun f vs kvs =>(tab.fn f).bind fun _ =>G.fn f vs kvs,pm:=G.pm,cls:=fun C vs =>(tab.meth C "__init__").bind fun _ =>G.cls C vs,mth:=G.mth }
theorem wt_eq : ∀ {k : Nat},wt (af tab k) = af tab k
 | 0 =>by
  unfold wt af
  congr 1
  ·funext f vs kvs; cases tab.fn f <;> rfl
  ·funext C vs; cases tab.meth C "__init__" <;> rfl
 | k + 1 =>by
  unfold wt af
  congr 1
  ·funext f vs kvs
   show ((tab.fn f).bind fun _ =>(tab.fn f).bind fun r =>runF r fuel (af tab k) vs kvs) = (tab.fn f).bind fun r =>runF r fuel (af tab k) vs kvs
   cases tab.fn f <;> rfl
  ·funext C vs
   show ((tab.meth C "__init__").bind fun _ =>(tab.meth C "__init__").bind fun r =>runC r fuel (af tab k) C vs) = (tab.meth C "__init__").bind fun r =>runC r fuel (af tab k) C vs
   cases tab.meth C "__init__" <;> rfl
noncomputable def sAt (b : List Stmt) (i : Nat) : Stmt:=match b.drop i with
 | s :: _ =>s
 | [] =>.Break ⟨0,0,0,0⟩
noncomputable def bodyOf : Stmt → List Stmt
 | .While _ b _ _ =>b
 | .For _ _ b _ _ =>b
 | _ =>[]
noncomputable def ar : Stmt → Expr
 | .While t _ _ _ =>t
 | .For t _ _ _ _ =>t
 | _ =>.Constant .none 0 ⟨0,0,0,0⟩
noncomputable def blk (b : List Stmt) : List Nat → List Stmt
 | [] =>b
 | i :: p =>blk (bodyOf (sAt b i)) p
noncomputable def dictV (ks : List Int) (vs : List V) (j : V) : Option V:=match j with
 | .int j =>if ks.length = vs.length ∧ 1 ≤ ks.length ∧ ks.length ≤ 8 ∧ ks.Nodup then (ks.zip vs).lookup j else .none
 | _ =>.none
noncomputable def ak : Fl → Option V
 | .ret v _ =>some v
 | .next _ =>some .none
 | .brk _ =>Option.none
noncomputable def retPf : Fl → Option V
 | .ret v _ =>some v
 | _ =>Option.none
noncomputable def bQ : Fl → Option (V × List (Str × V))
 | .ret v g =>(cz (g.lookup ("self" : Str))).map fun cf =>(v,cf.2)
 | _ =>Option.none
noncomputable def retCf : Fl → Option (List (Str × V))
 | .next g =>(cz (g.lookup ("self" : Str))).map fun cf =>cf.2
 | _ =>Option.none
theorem ifn {α : Type} {c : Bool} {o : Option α} {v : α} (h : (if c = true then o else Option.none) = some v) : c = true ∧ o = some v:=by
 split at h
 ·exact ⟨by assumption,h⟩
 ·cases h
section
variable {r : FnRec} {k : Nat} {vs : List V} {kvs : List (Str × V)}
theorem aX {f : Str} {X : Option V} {v : V} (hr : tab.fn f = some r) (e : (if (r.pats.contains (vs.length,kvs.map (·.1)) && scOk r.sc r.names) = true then exsK 40 (wt (af tab k)) r.sc r.mu (r.names.zip ((vs ++ restOf (r.names.drop vs.length) (kvs ++ r.dfl)).map .val)) r.body ak else Option.none) = X) (h : X = some v) : (af tab (k + 1)).fn f vs kvs = some v:=by
 obtain ⟨h1,h2⟩:=ifn (e.trans h)
 obtain ⟨fl,h3,h4⟩:=cx ((seq 40).l h2)
 rw [wt_eq] at h3
 show (tab.fn f).bind (fun r =>runF r 40 (af tab k) vs kvs) = _
 rw [hr]
 show runF r 40 (af tab k) vs kvs = _
 unfold runF
 rw [if_pos h1,h3]
 cases fl with
 | ret w g =>exact h4
 | next g =>exact h4
 | brk g =>cases h4
theorem pm_sh {C m : Str} {X : Option V} {v : V} (hr : tab.meth C m = some r) (e : (if fJ r vs.length = true then exsK 40 (wt (af tab k)) r.sc r.mu (dG r vs) r.body retPf else Option.none) = X) (h : X = some v) : (af tab (k + 1)).pm C m vs = some v:=by
 obtain ⟨h1,h2⟩:=ifn (e.trans h)
 obtain ⟨fl,h3,h4⟩:=cx ((seq 40).l h2)
 rw [wt_eq] at h3
 show (tab.meth C m).bind (fun r =>runP r 40 (af tab k) vs) = _
 rw [hr]
 show runP r 40 (af tab k) vs = _
 unfold runP
 rw [if_pos h1,h3]
 cases fl with
 | ret w g =>exact h4
 | next g =>cases h4
 | brk g =>cases h4
theorem mth_sh {C m : Str} {fl0 : List (Str × V)} {X : Option (V × List (Str × V))} {v : V × List (Str × V)} (hr : tab.meth C m = some r) (e : (if fJ r vs.length = true then exsK 40 (wt (af tab k)) r.sc r.mu (("self",.inst C fl0) :: dG r vs) r.body bQ else Option.none) = X) (h : X = some v) : (af tab (k + 1)).mth C m fl0 vs = some v:=by
 obtain ⟨h1,h2⟩:=ifn (e.trans h)
 obtain ⟨fl,h3,h4⟩:=cx ((seq 40).l h2)
 rw [wt_eq] at h3
 show (tab.meth C m).bind (fun r =>runM r 40 (af tab k) C fl0 vs) = _
 rw [hr]
 show runM r 40 (af tab k) C fl0 vs = _
 unfold runM
 rw [if_pos h1,h3]
 cases fl with
 | ret w g =>
  rw [← h4]
  show (match g.lookup ("self" : Str) with | some (.inst _ fl') =>some (w,fl') | _ =>Option.none) = (cz (g.lookup ("self" : Str))).map fun cf =>(w,cf.2)
  cases g.lookup ("self" : Str) with
  | none =>rfl
  | some a =>cases a <;> rfl
 | next g =>cases h4
 | brk g =>cases h4
theorem cls_sh {C : Str} {X : Option (List (Str × V))} {v : List (Str × V)} (hr : tab.meth C "__init__" = some r) (e : (if fJ r vs.length = true then exsK 40 (wt (af tab k)) r.sc r.mu (("self",.inst C []) :: dG r vs) r.body retCf else Option.none) = X) (h : X = some v) : (af tab (k + 1)).cls C vs = some v:=by
 obtain ⟨h1,h2⟩:=ifn (e.trans h)
 obtain ⟨fl,h3,h4⟩:=cx ((seq 40).l h2)
 rw [wt_eq] at h3
 show (tab.meth C "__init__").bind (fun r =>runC r 40 (af tab k) C vs) = _
 rw [hr]
 show runC r 40 (af tab k) C vs = _
 unfold runC
 rw [if_pos h1,h3]
 cases fl with
 | ret w g =>cases h4
 | next g =>
  rw [← h4]
  show (match g.lookup ("self" : Str) with | some (.inst _ fl') =>some fl' | _ =>Option.none) = (cz (g.lookup ("self" : Str))).map fun cf =>cf.2
  cases g.lookup ("self" : Str) with
  | none =>rfl
  | some a =>cases a <;> rfl
 | brk g =>cases h4
end
theorem dW {n : Nat} {G : Ge} {sc : Scope} {g : Gam} {t : Expr} {X : Option Bool} {b : Bool} (e : evTK n G sc g t some = X) (h : X = some b) : evT n G sc g t = some b:=by
 have:=e.trans h
 rw [(keq n).t] at this
 obtain ⟨c,h1,h2⟩:=cx this
 rw [h1]; exact h2
theorem aU {n : Nat} {G : Ge} {sc : Scope} {mu : List Str} {g : Gam} {b : List Stmt} {X : Option Fl} {P : Fl → Prop} (e : exsK n G sc mu g b some = X) (h : Out X P) : Out (exs n G sc mu b g) P:=by
 obtain ⟨fl,h1,h2⟩:=h
 exact ⟨fl,exsK_out (e.trans h1),h2⟩
noncomputable def R12 : FnRec:=fnk 12 [] [(1,[])] []
noncomputable def R13 : FnRec:=fnk 13 [] [(1,[])] []
noncomputable def R14 : FnRec:=fnk 14 [] [(1,[])] []
noncomputable def R15 : FnRec:=fnk 15 [] [(1,[])] []
noncomputable def R16 : FnRec:=fnk 16 [] [(1,[])] []
noncomputable def R17 : FnRec:=fnk 17 [] [(1,[])] []
noncomputable def R25 : FnRec:=fnk 25 [] [(1,[])] []
noncomputable def R26 : FnRec:=fnk 26 ["found"] [(1,[])] []
noncomputable def R27 : FnRec:=fnk 27 [] [(1,[])] []
noncomputable def R28 : FnRec:=fnk 28 [] [(2,[])] []
noncomputable def R29 : FnRec:=fnk 29 ["found"] [(1,[])] []
noncomputable def R30 : FnRec:=fnk 30 ["found"] [(1,[])] []
noncomputable def R36 : FnRec:=fnk 36 ["found"] [(1,[])] []
noncomputable def R37 : FnRec:=fnk 37 [] [(2,[])] []
noncomputable def R38 : FnRec:=fnk 38 [] [(2,[])] []
noncomputable def R39 : FnRec:=fnk 39 [] [(3,[])] []
noncomputable def R40 : FnRec:=fnk 40 ["found"] [(2,[]),(2,["with_mark"])] [("with_mark",.bool false)]
noncomputable def R41 : FnRec:=fnk 41 [] [(3,[])] []
noncomputable def R42 : FnRec:=fnk 42 [] [(2,[])] []
noncomputable def R43 : FnRec:=fnk 43 ["found"] [(2,[])] []
noncomputable def R45 : FnRec:=fnk 45 ["found"] [(2,[]),(2,["with_mark"])] [("with_mark",.bool false)]
noncomputable def R46 : FnRec:=fnk 46 ["row"] [(3,[])] []
noncomputable def R47 : FnRec:=fnk 47 [] [(2,[])] []
noncomputable def R48 : FnRec:=fnk 48 ["found"] [(2,[])] []
noncomputable def R49 : FnRec:=fnk 49 [] [(0,[])] []
noncomputable def R50 : FnRec:=fnk 50 [] [(1,[])] []
noncomputable def R51 : FnRec:=fnk 51 [] [(1,[])] []
noncomputable def R54 : FnRec:=fnk 54 [] [(1,[])] []
noncomputable def R55 : FnRec:=fnk 55 [] [(1,[])] []
noncomputable def R56 : FnRec:=fnk 56 ["found"] [(1,[])] []
noncomputable def R57 : FnRec:=fnk 57 [] [(1,[])] []
noncomputable def R58 : FnRec:=fnk 58 [] [(2,[])] []
noncomputable def R59 : FnRec:=fnk 59 ["found"] [(1,[])] []
noncomputable def R60 : FnRec:=fnk 60 [] [(2,[])] []
noncomputable def R61 : FnRec:=fnk 61 [] [(3,[])] []
noncomputable def R62 : FnRec:=fnk 62 [] [(2,[])] []
noncomputable def R63 : FnRec:=fnk 63 [] [(2,[])] []
noncomputable def R64 : FnRec:=fnk 64 [] [(3,[])] []
noncomputable def R65 : FnRec:=fnk 65 [] [(1,[])] []
noncomputable def R31_0 : FnRec:=mtk 31 0 [] [(1,[])] [("is_strict",.bool false)]
noncomputable def cH : FnRec:=mtk 31 1 ["found"] [(3,[])] []
noncomputable def R44_0 : FnRec:=mtk 44 0 [] [(1,[]),(3,[])] [("order",.none),("is_strict",.bool true)]
noncomputable def R44_1 : FnRec:=mtk 44 1 [] [(4,[])] []
noncomputable def aQ : FnRec:=mtk 44 2 ["found"] [(3,[])] []
end
theorem sh_is_code {k : Nat} {x : Int} {v : V} (h : (let G:=af tab k; cond (decide (0 ≤ x)) (some (.bool (decide (x ≤ 1114111)))) (some (.bool false))) = some v) : (af tab (k + 1)).fn "is_code" [.int x] [] = some v:=aX (r:=R12) (by kernel_rfl) (by kernel_rfl) h
theorem sh_is_high {k : Nat} {x : Int} {v : V} (h : (let G:=af tab k; cond (decide (55296 ≤ x)) (some (.bool (decide (x ≤ 56319)))) (some (.bool false))) = some v) : (af tab (k + 1)).fn "is_high" [.int x] [] = some v:=aX (r:=R13) (by kernel_rfl) (by kernel_rfl) h
theorem sh_is_low {k : Nat} {x : Int} {v : V} (h : (let G:=af tab k; cond (decide (56320 ≤ x)) (some (.bool (decide (x ≤ 57343)))) (some (.bool false))) = some v) : (af tab (k + 1)).fn "is_low" [.int x] [] = some v:=aX (r:=R14) (by kernel_rfl) (by kernel_rfl) h
theorem sh_is_surrogate {k : Nat} {x : Int} {v : V} (h : (let G:=af tab k; cond (decide (55296 ≤ x)) (some (.bool (decide (x ≤ 57343)))) (some (.bool false))) = some v) : (af tab (k + 1)).fn "is_surrogate" [.int x] [] = some v:=aX (r:=R15) (by kernel_rfl) (by kernel_rfl) h
theorem sh_is_scalar {k : Nat} {x : Int} {v : V} (h : (let G:=af tab k; (orO (G.fn "is_code" [.int x] []) (aj "is_code" [.int x])).bind fun v1 =>(V.tru v1).bind fun b2 =>cond b2 ((orO (G.fn "is_surrogate" [.int x] []) (aj "is_surrogate" [.int x])).bind fun v3 =>(V.tru v3).bind fun b4 =>some (.bool (!b4))) (some v1)) = some v) : (af tab (k + 1)).fn "is_scalar" [.int x] [] = some v:=aX (r:=R16) (by kernel_rfl) (by kernel_rfl) h
theorem sh_check_scalars {k : Nat} {xs : List V} {v : V} (h : (let G:=af tab k; (ao (.list xs)).bind fun xs1 =>(bt 38 (wt G) R17.sc R17.mu (ar (sAt (blk R17.body []) 0)) (blk R17.body [0]) xs1 [("text",.val (.list xs))]).bind fun fl2 =>flC fl2 (fun g3 =>exsK 39 (wt G) R17.sc R17.mu g3 ((blk R17.body []).drop 1) ak) (fun g3 =>ak (.brk g3)) (fun w g3 =>ak (.ret w g3))) = some v) : (af tab (k + 1)).fn "check_scalars" [.list xs] [] = some v:=aX (r:=R17) (by kernel_rfl) (by kernel_rfl) h
theorem shb_check_scalars {k : Nat} {xs : List V} {ex : Gam} {P : Fl → Prop} (h : Out (let G:=af tab k; (ah (List.lookup ("code" : Str) ex)).bind fun v1 =>(orO (G.fn "is_scalar" [v1] []) (aj "is_scalar" [v1])).bind fun v2 =>(V.tru v2).bind fun b3 =>cond (!b3) (Option.none) (some (.next (("text",.val (.list xs)) :: ex)))) P) : Out (exs 38 (wt (af tab k)) R17.sc R17.mu (blk R17.body [0]) (("text",.val (.list xs)) :: ex)) P:=aU (by kernel_rfl) h
theorem sha_check_scalars {k : Nat} {xs : List V} {ex : Gam} {v : Option (V)} (h : (let G:=af tab k; some .none) = v) : exsK 39 (wt (af tab k)) R17.sc R17.mu (("text",.val (.list xs)) :: ex) ((blk R17.body []).drop 1) ak = v:=Eq.trans (by kernel_rfl) h
theorem sh_utf8_octets {k : Nat} {x : Int} {v : V} (h : (let G:=af tab k; cond (decide (x < 128)) (some (.list [.int x])) (cond (decide (x < 2048)) ((ag .RShift (.int x) (.int 6)).bind fun v1 =>(ag .BitOr (.int 192) v1).bind fun v2 =>some (.list [v2,.int (Builtin.bitOr 128 (Builtin.bitAnd x 63))])) (cond (decide (x < 65536)) ((ag .RShift (.int x) (.int 12)).bind fun v3 =>(ag .BitOr (.int 224) v3).bind fun v4 =>(ag .RShift (.int x) (.int 6)).bind fun v5 =>(ag .BitAnd v5 (.int 63)).bind fun v6 =>(ag .BitOr (.int 128) v6).bind fun v7 =>some (.list [v4,v7,.int (Builtin.bitOr 128 (Builtin.bitAnd x 63))])) ((ag .RShift (.int x) (.int 18)).bind fun v8 =>(ag .BitOr (.int 240) v8).bind fun v9 =>(ag .RShift (.int x) (.int 12)).bind fun v10 =>(ag .BitAnd v10 (.int 63)).bind fun v11 =>(ag .BitOr (.int 128) v11).bind fun v12 =>(ag .RShift (.int x) (.int 6)).bind fun v13 =>(ag .BitAnd v13 (.int 63)).bind fun v14 =>(ag .BitOr (.int 128) v14).bind fun v15 =>(ag .Add (.list [v9,v12]) (.list [v15,.int (Builtin.bitOr 128 (Builtin.bitAnd x 63))])).bind fun v16 =>some v16)))) = some v) : (af tab (k + 1)).fn "utf8_octets" [.int x] [] = some v:=aX (r:=R25) (by kernel_rfl) (by kernel_rfl) h
theorem sh_encode_utf8 {k : Nat} {xs : List V} {v : V} (h : (let G:=af tab k; (ao (.list xs)).bind fun xs1 =>(bt 37 (wt G) R26.sc R26.mu (ar (sAt (blk R26.body []) 1)) (blk R26.body [1]) xs1 [("text",.val (.list xs)),("found",.own [])]).bind fun fl2 =>flC fl2 (fun g3 =>exsK 38 (wt G) R26.sc R26.mu g3 ((blk R26.body []).drop 2) ak) (fun g3 =>ak (.brk g3)) (fun w g3 =>ak (.ret w g3))) = some v) : (af tab (k + 1)).fn "encode_utf8" [.list xs] [] = some v:=aX (r:=R26) (by kernel_rfl) (by kernel_rfl) h
theorem shb_encode_utf8 {k : Nat} {xs fs : List V} {ex : Gam} {P : Fl → Prop} (h : Out (let G:=af tab k; (ah (List.lookup ("code" : Str) ex)).bind fun v1 =>(orO (G.fn "is_scalar" [v1] []) (aj "is_scalar" [v1])).bind fun v2 =>(V.tru v2).bind fun b3 =>cond (!b3) (Option.none) ((ah (List.lookup ("code" : Str) ex)).bind fun v4 =>(orO (G.fn "utf8_octets" [v4] []) (aj "utf8_octets" [v4])).bind fun v5 =>extC v5 fun ys35 =>if fs.length + ys35.length ≤ lid then some (.next (("text",.val (.list xs)) :: ("found",.own (fs ++ ys35)) :: ex)) else Option.none)) P) : Out (exs 37 (wt (af tab k)) R26.sc R26.mu (blk R26.body [1]) (("text",.val (.list xs)) :: ("found",.own fs) :: ex)) P:=aU (by kernel_rfl) h
theorem sha_encode_utf8 {k : Nat} {xs fs : List V} {ex : Gam} {v : Option (V)} (h : (let G:=af tab k; (aj "bytes" [.list fs]).bind fun v1 =>some v1) = v) : exsK 38 (wt (af tab k)) R26.sc R26.mu (("text",.val (.list xs)) :: ("found",.own fs) :: ex) ((blk R26.body []).drop 2) ak = v:=Eq.trans (by kernel_rfl) h
theorem cP {k : Nat} {x : Int} {v : V} (h : (let G:=af tab k; cond (decide (x < 128)) (some (.tup [.int 1,.int 0,.int 0])) (cond (decide (194 ≤ x)) (cond (decide (x ≤ 223)) (some (.tup [.int 2,.int 128,.int 191])) (cond (decide (224 ≤ x)) (cond (decide (x ≤ 239)) (cond ((x == 224)) (cond ((x == 237)) (some (.tup [.int 3,.int 160,.int 159])) (some (.tup [.int 3,.int 160,.int 191]))) (cond ((x == 237)) (some (.tup [.int 3,.int 128,.int 159])) (some (.tup [.int 3,.int 128,.int 191])))) (cond (decide (240 ≤ x)) (cond (decide (x ≤ 244)) (cond ((x == 240)) (cond ((x == 244)) (some (.tup [.int 4,.int 144,.int 143])) (some (.tup [.int 4,.int 144,.int 191]))) (cond ((x == 244)) (some (.tup [.int 4,.int 128,.int 143])) (some (.tup [.int 4,.int 128,.int 191])))) (some .none)) (some .none))) (cond (decide (240 ≤ x)) (cond (decide (x ≤ 244)) (cond ((x == 240)) (cond ((x == 244)) (some (.tup [.int 4,.int 144,.int 143])) (some (.tup [.int 4,.int 144,.int 191]))) (cond ((x == 244)) (some (.tup [.int 4,.int 128,.int 143])) (some (.tup [.int 4,.int 128,.int 191])))) (some .none)) (some .none)))) (cond (decide (224 ≤ x)) (cond (decide (x ≤ 239)) (cond ((x == 224)) (cond ((x == 237)) (some (.tup [.int 3,.int 160,.int 159])) (some (.tup [.int 3,.int 160,.int 191]))) (cond ((x == 237)) (some (.tup [.int 3,.int 128,.int 159])) (some (.tup [.int 3,.int 128,.int 191])))) (cond (decide (240 ≤ x)) (cond (decide (x ≤ 244)) (cond ((x == 240)) (cond ((x == 244)) (some (.tup [.int 4,.int 144,.int 143])) (some (.tup [.int 4,.int 144,.int 191]))) (cond ((x == 244)) (some (.tup [.int 4,.int 128,.int 143])) (some (.tup [.int 4,.int 128,.int 191])))) (some .none)) (some .none))) (cond (decide (240 ≤ x)) (cond (decide (x ≤ 244)) (cond ((x == 240)) (cond ((x == 244)) (some (.tup [.int 4,.int 144,.int 143])) (some (.tup [.int 4,.int 144,.int 191]))) (cond ((x == 244)) (some (.tup [.int 4,.int 128,.int 143])) (some (.tup [.int 4,.int 128,.int 191])))) (some .none)) (some .none))))) = some v) : (af tab (k + 1)).fn "utf8_lead" [.int x] [] = some v:=aX (r:=R27) (by kernel_rfl) (by kernel_rfl) h
theorem sh_utf8_piece {k : Nat} {ks : List Int} {i : Int} {v : V} (h : (let G:=af tab k; (al (.bytes ks) (.int i)).bind fun v1 =>(al (.bytes ks) (.int i)).bind fun v2 =>(orO (G.fn "utf8_lead" [v2] []) (aj "utf8_lead" [v2])).bind fun v3 =>cond (aw v3) ((al (.bytes ks) (.int i)).bind fun v4 =>(ap .Lt v4 (.int 192)).bind fun b5 =>cond b5 (some (.tup [.int 1,.none,.str "a trail octet without a lead"])) (some (.tup [.int 1,.none,.str "an octet that never stands"]))) (un3 v3 fun v6 v7 v8 =>(ap .Eq v6 (.int 1)).bind fun b9 =>cond b9 ((al (.bytes ks) (.int i)).bind fun v10 =>some (.tup [.int 1,v10,.str ("" : Str)])) ((al (.bytes ks) (.int i)).bind fun v11 =>(ag .RShift (.int 127) v6).bind fun v12 =>(ag .BitAnd v11 v12).bind fun v13 =>(bM "range" [.int 1,v6]).bind fun xs14 =>(bt 33 (wt G) R28.sc R28.mu (ar (sAt (blk R28.body []) 5)) (blk R28.body [5]) xs14 [("octets",.val (.bytes ks)),("at",.val (.int i)),("lead",.val v3),("many",.val v6),("low",.val v7),("high",.val v8),("code",.val v13)]).bind fun fl15 =>flC fl15 (fun g16 =>exsK 34 (wt G) R28.sc R28.mu g16 ((blk R28.body []).drop 6) ak) (fun g16 =>ak (.brk g16)) (fun w g16 =>ak (.ret w g16))))) = some v) : (af tab (k + 1)).fn "utf8_piece" [.bytes ks,.int i] [] = some v:=aX (r:=R28) (by kernel_rfl) (by kernel_rfl) h
theorem shb_utf8_piece {k : Nat} {ks : List Int} {i m lo hi c : Int} {l : V} {ex : Gam} {P : Fl → Prop} (h : Out (let G:=af tab k; (ah (List.lookup ("behind" : Str) ex)).bind fun v1 =>(ag .Add (.int i) v1).bind fun v2 =>(aj "len" [.bytes ks]).bind fun v3 =>(ap .GtE v2 v3).bind fun b4 =>cond b4 ((ah (List.lookup ("behind" : Str) (thaw ex))).bind fun v5 =>some (.ret (V.tup [v5,.none,.str "a sequence that is cut short"]) (("octets",.val (.bytes ks)) :: ("at",.val (.int i)) :: ("lead",.val l) :: ("many",.val (.int m)) :: ("low",.val (.int lo)) :: ("high",.val (.int hi)) :: ("code",.val (.int c)) :: (thaw ex)))) ((ah (List.lookup ("behind" : Str) ex)).bind fun v6 =>(ag .Add (.int i) v6).bind fun v7 =>(al (.bytes ks) v7).bind fun v8 =>(ah (List.lookup ("octet" : Str) (ae "octet" (AV.val v8) ex))).bind fun v9 =>(ap .LtE (.int lo) v9).bind fun b10 =>cond b10 ((ap .LtE v9 (.int hi)).bind fun b11 =>cond (!b11) ((ah (List.lookup ("behind" : Str) (thaw (ae "octet" (AV.val v8) ex)))).bind fun v12 =>some (.ret (V.tup [v12,.none,.str "a sequence that breaks off"]) (("octets",.val (.bytes ks)) :: ("at",.val (.int i)) :: ("lead",.val l) :: ("many",.val (.int m)) :: ("low",.val (.int lo)) :: ("high",.val (.int hi)) :: ("code",.val (.int c)) :: (thaw (ae "octet" (AV.val v8) ex))))) ((ag .LShift (.int c) (.int 6)).bind fun v13 =>(ah (List.lookup ("octet" : Str) (ae "octet" (AV.val v8) ex))).bind fun v14 =>(ag .BitAnd v14 (.int 63)).bind fun v15 =>(ag .BitOr v13 v15).bind fun v16 =>some (.next (("octets",.val (.bytes ks)) :: ("at",.val (.int i)) :: ("lead",.val l) :: ("many",.val (.int m)) :: ("low",.val (.int 128)) :: ("high",.val (.int 191)) :: ("code",.val v16) :: (ae "octet" (AV.val v8) ex))))) ((ah (List.lookup ("behind" : Str) (thaw (ae "octet" (AV.val v8) ex)))).bind fun v17 =>some (.ret (V.tup [v17,.none,.str "a sequence that breaks off"]) (("octets",.val (.bytes ks)) :: ("at",.val (.int i)) :: ("lead",.val l) :: ("many",.val (.int m)) :: ("low",.val (.int lo)) :: ("high",.val (.int hi)) :: ("code",.val (.int c)) :: (thaw (ae "octet" (AV.val v8) ex))))))) P) : Out (exs 33 (wt (af tab k)) R28.sc R28.mu (blk R28.body [5]) (("octets",.val (.bytes ks)) :: ("at",.val (.int i)) :: ("lead",.val l) :: ("many",.val (.int m)) :: ("low",.val (.int lo)) :: ("high",.val (.int hi)) :: ("code",.val (.int c)) :: ex)) P:=aU (by kernel_rfl) h
theorem sha_utf8_piece {k : Nat} {ks : List Int} {i m lo hi c : Int} {l : V} {ex : Gam} {v : Option (V)} (h : (let G:=af tab k; some (.tup [.int m,.int c,.str ("" : Str)])) = v) : exsK 34 (wt (af tab k)) R28.sc R28.mu (("octets",.val (.bytes ks)) :: ("at",.val (.int i)) :: ("lead",.val l) :: ("many",.val (.int m)) :: ("low",.val (.int lo)) :: ("high",.val (.int hi)) :: ("code",.val (.int c)) :: ex) ((blk R28.body []).drop 6) ak = v:=Eq.trans (by kernel_rfl) h
theorem sh_decode_utf8 {k : Nat} {ks : List Int} {v : V} (h : (let G:=af tab k; (bK 37 (wt G) R29.sc R29.mu (ar (sAt (blk R29.body []) 1)) (blk R29.body [1]) 65536 [("octets",.val (.bytes ks)),("found",.own []),("at",.val (.int 0))]).bind fun fl1 =>flC fl1 (fun g2 =>exsK 38 (wt G) R29.sc R29.mu g2 ((blk R29.body []).drop 2) ak) (fun g2 =>ak (.brk g2)) (fun w g2 =>ak (.ret w g2))) = some v) : (af tab (k + 1)).fn "decode_utf8" [.bytes ks] [] = some v:=aX (r:=R29) (by kernel_rfl) (by kernel_rfl) h
theorem sht_decode_utf8 {k : Nat} {ks : List Int} {fs : List V} {i : Int} {ex : Gam} {v : Bool} (h : (let G:=af tab k; (aj "len" [.bytes ks]).bind fun v1 =>(ap .Lt (.int i) v1).bind fun b2 =>some b2) = some v) : evT 37 (wt (af tab k)) R29.sc (("octets",.val (.bytes ks)) :: ("found",.own fs) :: ("at",.val (.int i)) :: ex) (ar (sAt (blk R29.body []) 1)) = some v:=dW (by kernel_rfl) h
theorem shb_decode_utf8 {k : Nat} {ks : List Int} {fs : List V} {i : Int} {ex : Gam} {P : Fl → Prop} (h : Out (let G:=af tab k; (orO (G.fn "utf8_piece" [.bytes ks,.int i] []) (aj "utf8_piece" [.bytes ks,.int i])).bind fun v1 =>un3 v1 fun v2 v3 v4 =>(ah (List.lookup ("code" : Str) (ae "wrong" (AV.val v4) (ae "code" (AV.val v3) (ae "many" (AV.val v2) ex))))).bind fun v5 =>cond (aw v5) (Option.none) ((ah (List.lookup ("code" : Str) (ae "wrong" (AV.val v4) (ae "code" (AV.val v3) (ae "many" (AV.val v2) ex))))).bind fun v6 =>if fs.length < lid then (ah (List.lookup ("many" : Str) (ae "wrong" (AV.val v4) (ae "code" (AV.val v3) (ae "many" (AV.val v2) ex))))).bind fun v7 =>(ag .Add (.int i) v7).bind fun v8 =>some (.next (("octets",.val (.bytes ks)) :: ("found",.own (fs ++ [v6])) :: ("at",.val v8) :: (ae "wrong" (AV.val v4) (ae "code" (AV.val v3) (ae "many" (AV.val v2) ex))))) else Option.none)) P) : Out (exs 37 (wt (af tab k)) R29.sc R29.mu (blk R29.body [1]) (("octets",.val (.bytes ks)) :: ("found",.own fs) :: ("at",.val (.int i)) :: ex)) P:=aU (by kernel_rfl) h
theorem sha_decode_utf8 {k : Nat} {ks : List Int} {fs : List V} {i : Int} {ex : Gam} {v : Option (V)} (h : (let G:=af tab k; some (.list fs)) = v) : exsK 38 (wt (af tab k)) R29.sc R29.mu (("octets",.val (.bytes ks)) :: ("found",.own fs) :: ("at",.val (.int i)) :: ex) ((blk R29.body []).drop 2) ak = v:=Eq.trans (by kernel_rfl) h
theorem sh_decode_utf8_replaced {k : Nat} {ks : List Int} {v : V} (h : (let G:=af tab k; (bK 37 (wt G) R30.sc R30.mu (ar (sAt (blk R30.body []) 1)) (blk R30.body [1]) 65536 [("octets",.val (.bytes ks)),("found",.own []),("at",.val (.int 0))]).bind fun fl1 =>flC fl1 (fun g2 =>exsK 38 (wt G) R30.sc R30.mu g2 ((blk R30.body []).drop 2) ak) (fun g2 =>ak (.brk g2)) (fun w g2 =>ak (.ret w g2))) = some v) : (af tab (k + 1)).fn "decode_utf8_replaced" [.bytes ks] [] = some v:=aX (r:=R30) (by kernel_rfl) (by kernel_rfl) h
theorem sht_decode_utf8_replaced {k : Nat} {ks : List Int} {fs : List V} {i : Int} {ex : Gam} {v : Bool} (h : (let G:=af tab k; (aj "len" [.bytes ks]).bind fun v1 =>(ap .Lt (.int i) v1).bind fun b2 =>some b2) = some v) : evT 37 (wt (af tab k)) R30.sc (("octets",.val (.bytes ks)) :: ("found",.own fs) :: ("at",.val (.int i)) :: ex) (ar (sAt (blk R30.body []) 1)) = some v:=dW (by kernel_rfl) h
theorem shb_decode_utf8_replaced {k : Nat} {ks : List Int} {fs : List V} {i : Int} {ex : Gam} {P : Fl → Prop} (h : Out (let G:=af tab k; (orO (G.fn "utf8_piece" [.bytes ks,.int i] []) (aj "utf8_piece" [.bytes ks,.int i])).bind fun v1 =>un3 v1 fun v2 v3 v4 =>(ah (List.lookup ("code" : Str) (ae "wrong" (AV.val v4) (ae "code" (AV.val v3) (ae "many" (AV.val v2) ex))))).bind fun v5 =>cond (aw v5) (if fs.length < lid then (ah (List.lookup ("many" : Str) (ae "wrong" (AV.val v4) (ae "code" (AV.val v3) (ae "many" (AV.val v2) ex))))).bind fun v6 =>(ag .Add (.int i) v6).bind fun v7 =>some (.next (("octets",.val (.bytes ks)) :: ("found",.own (fs ++ [.int 65533])) :: ("at",.val v7) :: (ae "wrong" (AV.val v4) (ae "code" (AV.val v3) (ae "many" (AV.val v2) ex))))) else Option.none) ((ah (List.lookup ("code" : Str) (ae "wrong" (AV.val v4) (ae "code" (AV.val v3) (ae "many" (AV.val v2) ex))))).bind fun v8 =>if fs.length < lid then (ah (List.lookup ("many" : Str) (ae "wrong" (AV.val v4) (ae "code" (AV.val v3) (ae "many" (AV.val v2) ex))))).bind fun v9 =>(ag .Add (.int i) v9).bind fun v10 =>some (.next (("octets",.val (.bytes ks)) :: ("found",.own (fs ++ [v8])) :: ("at",.val v10) :: (ae "wrong" (AV.val v4) (ae "code" (AV.val v3) (ae "many" (AV.val v2) ex))))) else Option.none)) P) : Out (exs 37 (wt (af tab k)) R30.sc R30.mu (blk R30.body [1]) (("octets",.val (.bytes ks)) :: ("found",.own fs) :: ("at",.val (.int i)) :: ex)) P:=aU (by kernel_rfl) h
theorem sha_decode_utf8_replaced {k : Nat} {ks : List Int} {fs : List V} {i : Int} {ex : Gam} {v : Option (V)} (h : (let G:=af tab k; some (.list fs)) = v) : exsK 38 (wt (af tab k)) R30.sc R30.mu (("octets",.val (.bytes ks)) :: ("found",.own fs) :: ("at",.val (.int i)) :: ex) ((blk R30.body []).drop 2) ak = v:=Eq.trans (by kernel_rfl) h
theorem sh_Utf8Stream_init {k : Nat}  {v : List (Str × V)} (h : (let G:=af tab k; some [(("is_strict" : Str),.bool false),(("waiting" : Str),.bytes []),(("place" : Str),.int 0)]) = some v) : (af tab (k + 1)).cls "Utf8Stream" [] = some v:=cls_sh (r:=R31_0) (by kernel_rfl) (by kernel_rfl) h
theorem sh_Utf8Stream_feed {k : Nat} {w p : List Int} {n : Int} {st last : Bool} {v : V × List (Str × V)} (h : (let G:=af tab k; (ag .Add (.bytes w) (.bytes p)).bind fun v1 =>(bK 37 (wt G) cH.sc cH.mu (ar (sAt (blk cH.body []) 1)) (blk cH.body [1]) 65536 [("self",.inst "Utf8Stream" [("is_strict",.bool st),("waiting",.bytes w),("place",.int n)]),("octets",.val (.bytes p)),("is_last",.val (.bool last)),("whole",.val v1),("found",.own []),("at",.val (.int 0))]).bind fun fl2 =>flC fl2 (fun g3 =>exsK 38 (wt G) cH.sc cH.mu g3 ((blk cH.body []).drop 2) bQ) (fun g3 =>bQ (.brk g3)) (fun w g3 =>bQ (.ret w g3))) = some v) : (af tab (k + 1)).mth "Utf8Stream" "feed" [("is_strict",.bool st),("waiting",.bytes w),("place",.int n)] [.bytes p,.bool last] = some v:=mth_sh (r:=cH) (by kernel_rfl) (by kernel_rfl) h
theorem sht_feed8 {k : Nat} {w p ks : List Int} {n i : Int} {st last : Bool} {fs : List V} {ex : Gam} {v : Bool} (h : (let G:=af tab k; (aj "len" [.bytes ks]).bind fun v1 =>(ap .Lt (.int i) v1).bind fun b2 =>some b2) = some v) : evT 37 (wt (af tab k)) cH.sc (("self",.inst "Utf8Stream" [("is_strict",.bool st),("waiting",.bytes w),("place",.int n)]) :: ("octets",.val (.bytes p)) :: ("is_last",.val (.bool last)) :: ("whole",.val (.bytes ks)) :: ("found",.own fs) :: ("at",.val (.int i)) :: ex) (ar (sAt (blk cH.body []) 1)) = some v:=dW (by kernel_rfl) h
theorem shb_feed8 {k : Nat} {w p ks : List Int} {n i : Int} {st last : Bool} {fs : List V} {ex : Gam} {P : Fl → Prop} (h : Out (let G:=af tab k; (orO (G.fn "utf8_piece" [.bytes ks,.int i] []) (aj "utf8_piece" [.bytes ks,.int i])).bind fun v1 =>un3 v1 fun v2 v3 v4 =>(ah (List.lookup ("wrong" : Str) (ae "wrong" (AV.val v4) (ae "code" (AV.val v3) (ae "many" (AV.val v2) ex))))).bind fun v5 =>(ap .Eq v5 (.str "a sequence that is cut short")).bind fun b6 =>cond b6 (cond (!last) (some (.brk (("self",.inst "Utf8Stream" [("is_strict",.bool st),("waiting",.bytes w),("place",.int n)]) :: ("octets",.val (.bytes p)) :: ("is_last",.val (.bool last)) :: ("whole",.val (.bytes ks)) :: ("found",.own fs) :: ("at",.val (.int i)) :: (ae "wrong" (AV.val v4) (ae "code" (AV.val v3) (ae "many" (AV.val v2) ex)))))) ((ah (List.lookup ("code" : Str) (ae "wrong" (AV.val v4) (ae "code" (AV.val v3) (ae "many" (AV.val v2) ex))))).bind fun v7 =>cond (aw v7) (cond st (Option.none) ((ah (List.lookup ("code" : Str) (ae "wrong" (AV.val v4) (ae "code" (AV.val v3) (ae "many" (AV.val v2) ex))))).bind fun v8 =>cond (aw v8) (if fs.length < lid then (ah (List.lookup ("many" : Str) (ae "wrong" (AV.val v4) (ae "code" (AV.val v3) (ae "many" (AV.val v2) ex))))).bind fun v9 =>(ag .Add (.int i) v9).bind fun v10 =>some (.next (("self",.inst "Utf8Stream" [("is_strict",.bool st),("waiting",.bytes w),("place",.int n)]) :: ("octets",.val (.bytes p)) :: ("is_last",.val (.bool last)) :: ("whole",.val (.bytes ks)) :: ("found",.own (fs ++ [.int 65533])) :: ("at",.val v10) :: (ae "wrong" (AV.val v4) (ae "code" (AV.val v3) (ae "many" (AV.val v2) ex))))) else Option.none) ((ah (List.lookup ("code" : Str) (ae "wrong" (AV.val v4) (ae "code" (AV.val v3) (ae "many" (AV.val v2) ex))))).bind fun v11 =>if fs.length < lid then (ah (List.lookup ("many" : Str) (ae "wrong" (AV.val v4) (ae "code" (AV.val v3) (ae "many" (AV.val v2) ex))))).bind fun v12 =>(ag .Add (.int i) v12).bind fun v13 =>some (.next (("self",.inst "Utf8Stream" [("is_strict",.bool st),("waiting",.bytes w),("place",.int n)]) :: ("octets",.val (.bytes p)) :: ("is_last",.val (.bool last)) :: ("whole",.val (.bytes ks)) :: ("found",.own (fs ++ [v11])) :: ("at",.val v13) :: (ae "wrong" (AV.val v4) (ae "code" (AV.val v3) (ae "many" (AV.val v2) ex))))) else Option.none))) ((ah (List.lookup ("code" : Str) (ae "wrong" (AV.val v4) (ae "code" (AV.val v3) (ae "many" (AV.val v2) ex))))).bind fun v14 =>cond (aw v14) (if fs.length < lid then (ah (List.lookup ("many" : Str) (ae "wrong" (AV.val v4) (ae "code" (AV.val v3) (ae "many" (AV.val v2) ex))))).bind fun v15 =>(ag .Add (.int i) v15).bind fun v16 =>some (.next (("self",.inst "Utf8Stream" [("is_strict",.bool st),("waiting",.bytes w),("place",.int n)]) :: ("octets",.val (.bytes p)) :: ("is_last",.val (.bool last)) :: ("whole",.val (.bytes ks)) :: ("found",.own (fs ++ [.int 65533])) :: ("at",.val v16) :: (ae "wrong" (AV.val v4) (ae "code" (AV.val v3) (ae "many" (AV.val v2) ex))))) else Option.none) ((ah (List.lookup ("code" : Str) (ae "wrong" (AV.val v4) (ae "code" (AV.val v3) (ae "many" (AV.val v2) ex))))).bind fun v17 =>if fs.length < lid then (ah (List.lookup ("many" : Str) (ae "wrong" (AV.val v4) (ae "code" (AV.val v3) (ae "many" (AV.val v2) ex))))).bind fun v18 =>(ag .Add (.int i) v18).bind fun v19 =>some (.next (("self",.inst "Utf8Stream" [("is_strict",.bool st),("waiting",.bytes w),("place",.int n)]) :: ("octets",.val (.bytes p)) :: ("is_last",.val (.bool last)) :: ("whole",.val (.bytes ks)) :: ("found",.own (fs ++ [v17])) :: ("at",.val v19) :: (ae "wrong" (AV.val v4) (ae "code" (AV.val v3) (ae "many" (AV.val v2) ex))))) else Option.none)))) ((ah (List.lookup ("code" : Str) (ae "wrong" (AV.val v4) (ae "code" (AV.val v3) (ae "many" (AV.val v2) ex))))).bind fun v20 =>cond (aw v20) (cond st (Option.none) ((ah (List.lookup ("code" : Str) (ae "wrong" (AV.val v4) (ae "code" (AV.val v3) (ae "many" (AV.val v2) ex))))).bind fun v21 =>cond (aw v21) (if fs.length < lid then (ah (List.lookup ("many" : Str) (ae "wrong" (AV.val v4) (ae "code" (AV.val v3) (ae "many" (AV.val v2) ex))))).bind fun v22 =>(ag .Add (.int i) v22).bind fun v23 =>some (.next (("self",.inst "Utf8Stream" [("is_strict",.bool st),("waiting",.bytes w),("place",.int n)]) :: ("octets",.val (.bytes p)) :: ("is_last",.val (.bool last)) :: ("whole",.val (.bytes ks)) :: ("found",.own (fs ++ [.int 65533])) :: ("at",.val v23) :: (ae "wrong" (AV.val v4) (ae "code" (AV.val v3) (ae "many" (AV.val v2) ex))))) else Option.none) ((ah (List.lookup ("code" : Str) (ae "wrong" (AV.val v4) (ae "code" (AV.val v3) (ae "many" (AV.val v2) ex))))).bind fun v24 =>if fs.length < lid then (ah (List.lookup ("many" : Str) (ae "wrong" (AV.val v4) (ae "code" (AV.val v3) (ae "many" (AV.val v2) ex))))).bind fun v25 =>(ag .Add (.int i) v25).bind fun v26 =>some (.next (("self",.inst "Utf8Stream" [("is_strict",.bool st),("waiting",.bytes w),("place",.int n)]) :: ("octets",.val (.bytes p)) :: ("is_last",.val (.bool last)) :: ("whole",.val (.bytes ks)) :: ("found",.own (fs ++ [v24])) :: ("at",.val v26) :: (ae "wrong" (AV.val v4) (ae "code" (AV.val v3) (ae "many" (AV.val v2) ex))))) else Option.none))) ((ah (List.lookup ("code" : Str) (ae "wrong" (AV.val v4) (ae "code" (AV.val v3) (ae "many" (AV.val v2) ex))))).bind fun v27 =>cond (aw v27) (if fs.length < lid then (ah (List.lookup ("many" : Str) (ae "wrong" (AV.val v4) (ae "code" (AV.val v3) (ae "many" (AV.val v2) ex))))).bind fun v28 =>(ag .Add (.int i) v28).bind fun v29 =>some (.next (("self",.inst "Utf8Stream" [("is_strict",.bool st),("waiting",.bytes w),("place",.int n)]) :: ("octets",.val (.bytes p)) :: ("is_last",.val (.bool last)) :: ("whole",.val (.bytes ks)) :: ("found",.own (fs ++ [.int 65533])) :: ("at",.val v29) :: (ae "wrong" (AV.val v4) (ae "code" (AV.val v3) (ae "many" (AV.val v2) ex))))) else Option.none) ((ah (List.lookup ("code" : Str) (ae "wrong" (AV.val v4) (ae "code" (AV.val v3) (ae "many" (AV.val v2) ex))))).bind fun v30 =>if fs.length < lid then (ah (List.lookup ("many" : Str) (ae "wrong" (AV.val v4) (ae "code" (AV.val v3) (ae "many" (AV.val v2) ex))))).bind fun v31 =>(ag .Add (.int i) v31).bind fun v32 =>some (.next (("self",.inst "Utf8Stream" [("is_strict",.bool st),("waiting",.bytes w),("place",.int n)]) :: ("octets",.val (.bytes p)) :: ("is_last",.val (.bool last)) :: ("whole",.val (.bytes ks)) :: ("found",.own (fs ++ [v30])) :: ("at",.val v32) :: (ae "wrong" (AV.val v4) (ae "code" (AV.val v3) (ae "many" (AV.val v2) ex))))) else Option.none)))) P) : Out (exs 37 (wt (af tab k)) cH.sc cH.mu (blk cH.body [1]) (("self",.inst "Utf8Stream" [("is_strict",.bool st),("waiting",.bytes w),("place",.int n)]) :: ("octets",.val (.bytes p)) :: ("is_last",.val (.bool last)) :: ("whole",.val (.bytes ks)) :: ("found",.own fs) :: ("at",.val (.int i)) :: ex)) P:=aU (by kernel_rfl) h
theorem sha_feed8 {k : Nat} {w p ks : List Int} {n i : Int} {st last : Bool} {fs : List V} {ex : Gam} {v : Option (V × List (Str × V))} (h : (let G:=af tab k; cond last (cond last (some ((V.list fs),[(("is_strict" : Str),.bool st),(("waiting" : Str),.bytes []),(("place" : Str),.int 0)])) (some ((V.list fs),[(("is_strict" : Str),.bool st),(("waiting" : Str),.bytes []),(("place" : Str),.int (n + i))]))) ((ay (some (.int i))).bind fun p1 =>(aq (.bytes ks) p1 Option.none).bind fun v2 =>cond last (some ((V.list fs),[(("is_strict" : Str),.bool st),(("waiting" : Str),v2),(("place" : Str),.int 0)])) (some ((V.list fs),[(("is_strict" : Str),.bool st),(("waiting" : Str),v2),(("place" : Str),.int (n + i))])))) = v) : exsK 38 (wt (af tab k)) cH.sc cH.mu ((("self" : Str),AV.inst ("Utf8Stream" : Str) [(("is_strict" : Str),.bool st),(("waiting" : Str),.bytes w),(("place" : Str),.int n)]) :: (("octets" : Str),AV.val (.bytes p)) :: (("is_last" : Str),AV.val (.bool last)) :: (("whole" : Str),AV.val (.bytes ks)) :: (("found" : Str),AV.own fs) :: (("at" : Str),AV.val (.int i)) :: ex) ((blk cH.body []).drop 2) bQ = v:=Eq.trans (by kernel_rfl) h
theorem sh_utf16_units {k : Nat} {xs : List V} {v : V} (h : (let G:=af tab k; (orO (G.fn "check_scalars" [.list xs] []) (aj "check_scalars" [.list xs])).bind fun v1 =>if aw v1 = true then (ao (.list xs)).bind fun xs2 =>(bt 36 (wt G) R36.sc R36.mu (ar (sAt (blk R36.body []) 2)) (blk R36.body [2]) xs2 [("text",.val (.list xs)),("found",.own [])]).bind fun fl3 =>flC fl3 (fun g4 =>exsK 37 (wt G) R36.sc R36.mu g4 ((blk R36.body []).drop 3) ak) (fun g4 =>ak (.brk g4)) (fun w g4 =>ak (.ret w g4)) else Option.none) = some v) : (af tab (k + 1)).fn "utf16_units" [.list xs] [] = some v:=aX (r:=R36) (by kernel_rfl) (by kernel_rfl) h
theorem shb_utf16_units {k : Nat} {xs fs : List V} {ex : Gam} {P : Fl → Prop} (h : Out (let G:=af tab k; (ah (List.lookup ("code" : Str) ex)).bind fun v1 =>(ap .Lt v1 (.int 65536)).bind fun b2 =>cond b2 ((ah (List.lookup ("code" : Str) ex)).bind fun v3 =>if fs.length < lid then some (.next (("text",.val (.list xs)) :: ("found",.own (fs ++ [v3])) :: ex)) else Option.none) ((ah (List.lookup ("code" : Str) ex)).bind fun v4 =>(ag .Sub v4 (.int 65536)).bind fun v5 =>(ah (List.lookup ("above" : Str) (ae "above" (AV.val v5) ex))).bind fun v6 =>(ag .RShift v6 (.int 10)).bind fun v7 =>(ag .Add (.int 55296) v7).bind fun v8 =>if fs.length < lid then (ah (List.lookup ("above" : Str) (ae "above" (AV.val v5) ex))).bind fun v9 =>(ag .BitAnd v9 (.int 1023)).bind fun v10 =>(ag .Add (.int 56320) v10).bind fun v11 =>if (fs ++ [v8]).length < lid then some (.next (("text",.val (.list xs)) :: ("found",.own ((fs ++ [v8]) ++ [v11])) :: (ae "above" (AV.val v5) ex))) else Option.none else Option.none)) P) : Out (exs 36 (wt (af tab k)) R36.sc R36.mu (blk R36.body [2]) (("text",.val (.list xs)) :: ("found",.own fs) :: ex)) P:=aU (by kernel_rfl) h
theorem sha_utf16_units {k : Nat} {xs fs : List V} {ex : Gam} {v : Option (V)} (h : (let G:=af tab k; some (.list fs)) = v) : exsK 37 (wt (af tab k)) R36.sc R36.mu (("text",.val (.list xs)) :: ("found",.own fs) :: ex) ((blk R36.body []).drop 3) ak = v:=Eq.trans (by kernel_rfl) h
theorem sh_utf16_joined {k : Nat} {x y : Int} {v : V} (h : (let G:=af tab k; (ag .LShift (.int (x - 55296)) (.int 10)).bind fun v1 =>(ag .Add (.int 65536) v1).bind fun v2 =>(ag .Add v2 (.int (y - 56320))).bind fun v3 =>some v3) = some v) : (af tab (k + 1)).fn "utf16_joined" [.int x,.int y] [] = some v:=aX (r:=R37) (by kernel_rfl) (by kernel_rfl) h
theorem sh_utf16_octets {k : Nat} {x : Int} {o : Str} {v : V} (h : (let G:=af tab k; cond (o == ("be" : Str)) ((ag .RShift (.int x) (.int 8)).bind fun v1 =>some (.list [v1,.int (Builtin.bitAnd x 255)])) ((ag .RShift (.int x) (.int 8)).bind fun v2 =>some (.list [.int (Builtin.bitAnd x 255),v2]))) = some v) : (af tab (k + 1)).fn "utf16_octets" [.int x,.str o] [] = some v:=aX (r:=R38) (by kernel_rfl) (by kernel_rfl) h
theorem sh_utf16_unit {k : Nat} {ks : List Int} {i : Int} {o : Str} {v : V} (h : (let G:=af tab k; cond (o == ("be" : Str)) ((al (.bytes ks) (.int i)).bind fun v1 =>(ag .LShift v1 (.int 8)).bind fun v2 =>(al (.bytes ks) (.int (i + 1))).bind fun v3 =>(ag .BitOr v2 v3).bind fun v4 =>some v4) ((al (.bytes ks) (.int (i + 1))).bind fun v5 =>(ag .LShift v5 (.int 8)).bind fun v6 =>(al (.bytes ks) (.int i)).bind fun v7 =>(ag .BitOr v6 v7).bind fun v8 =>some v8)) = some v) : (af tab (k + 1)).fn "utf16_unit" [.bytes ks,.int i,.str o] [] = some v:=aX (r:=R39) (by kernel_rfl) (by kernel_rfl) h
theorem sh_encode_utf16_false {k : Nat} {xs : List V} {o : Str} {v : V} (h : (let G:=af tab k; (orO (G.fn "utf16_units" [.list xs] []) (aj "utf16_units" [.list xs])).bind fun v1 =>(ag .Add (.list []) v1).bind fun v2 =>(ao v2).bind fun xs3 =>(bt 37 (wt G) R40.sc R40.mu (ar (sAt (blk R40.body []) 1)) (blk R40.body [1]) xs3 [("text",.val (.list xs)),("order",.val (.str o)),("with_mark",.val (.bool false)),("found",.own [])]).bind fun fl4 =>flC fl4 (fun g5 =>exsK 38 (wt G) R40.sc R40.mu g5 ((blk R40.body []).drop 2) ak) (fun g5 =>ak (.brk g5)) (fun w g5 =>ak (.ret w g5))) = some v) : (af tab (k + 1)).fn "encode_utf16" [.list xs,.str o] []  = some v:=aX (r:=R40) (by kernel_rfl) (by kernel_rfl) h
theorem sh_encode_utf32_false {k : Nat} {xs : List V} {o : Str} {v : V} (h : (let G:=af tab k; (orO (G.fn "check_scalars" [.list xs] []) (aj "check_scalars" [.list xs])).bind fun v1 =>if aw v1 = true then (aj "list" [.list xs]).bind fun v2 =>(ag .Add (.list []) v2).bind fun v3 =>(ao v3).bind fun xs4 =>(bt 36 (wt G) R45.sc R45.mu (ar (sAt (blk R45.body []) 2)) (blk R45.body [2]) xs4 [("text",.val (.list xs)),("order",.val (.str o)),("with_mark",.val (.bool false)),("found",.own [])]).bind fun fl5 =>flC fl5 (fun g6 =>exsK 37 (wt G) R45.sc R45.mu g6 ((blk R45.body []).drop 3) ak) (fun g6 =>ak (.brk g6)) (fun w g6 =>ak (.ret w g6)) else Option.none) = some v) : (af tab (k + 1)).fn "encode_utf32" [.list xs,.str o] []  = some v:=aX (r:=R45) (by kernel_rfl) (by kernel_rfl) h
theorem sh_encode_utf16_true {k : Nat} {xs : List V} {o : Str} {v : V} (h : (let G:=af tab k; (orO (G.fn "utf16_units" [.list xs] []) (aj "utf16_units" [.list xs])).bind fun v1 =>(ag .Add (.list [.int 65279]) v1).bind fun v2 =>(ao v2).bind fun xs3 =>(bt 37 (wt G) R40.sc R40.mu (ar (sAt (blk R40.body []) 1)) (blk R40.body [1]) xs3 [("text",.val (.list xs)),("order",.val (.str o)),("with_mark",.val (.bool true)),("found",.own [])]).bind fun fl4 =>flC fl4 (fun g5 =>exsK 38 (wt G) R40.sc R40.mu g5 ((blk R40.body []).drop 2) ak) (fun g5 =>ak (.brk g5)) (fun w g5 =>ak (.ret w g5))) = some v) : (af tab (k + 1)).fn "encode_utf16" [.list xs,.str o] [("with_mark",.bool true)] = some v:=aX (r:=R40) (by kernel_rfl) (by kernel_rfl) h
theorem sh_encode_utf32_true {k : Nat} {xs : List V} {o : Str} {v : V} (h : (let G:=af tab k; (orO (G.fn "check_scalars" [.list xs] []) (aj "check_scalars" [.list xs])).bind fun v1 =>if aw v1 = true then (aj "list" [.list xs]).bind fun v2 =>(ag .Add (.list [.int 65279]) v2).bind fun v3 =>(ao v3).bind fun xs4 =>(bt 36 (wt G) R45.sc R45.mu (ar (sAt (blk R45.body []) 2)) (blk R45.body [2]) xs4 [("text",.val (.list xs)),("order",.val (.str o)),("with_mark",.val (.bool true)),("found",.own [])]).bind fun fl5 =>flC fl5 (fun g6 =>exsK 37 (wt G) R45.sc R45.mu g6 ((blk R45.body []).drop 3) ak) (fun g6 =>ak (.brk g6)) (fun w g6 =>ak (.ret w g6)) else Option.none) = some v) : (af tab (k + 1)).fn "encode_utf32" [.list xs,.str o] [("with_mark",.bool true)] = some v:=aX (r:=R45) (by kernel_rfl) (by kernel_rfl) h
theorem shb_encode_utf16 {k : Nat} {xs fs : List V} {o : Str} {wm : Bool} {ex : Gam} {P : Fl → Prop} (h : Out (let G:=af tab k; (ah (List.lookup ("unit" : Str) ex)).bind fun v1 =>(orO (G.fn "utf16_octets" [v1,.str o] []) (aj "utf16_octets" [v1,.str o])).bind fun v2 =>extC v2 fun ys242 =>if fs.length + ys242.length ≤ lid then some (.next (("text",.val (.list xs)) :: ("order",.val (.str o)) :: ("with_mark",.val (.bool wm)) :: ("found",.own (fs ++ ys242)) :: ex)) else Option.none) P) : Out (exs 37 (wt (af tab k)) R40.sc R40.mu (blk R40.body [1]) (("text",.val (.list xs)) :: ("order",.val (.str o)) :: ("with_mark",.val (.bool wm)) :: ("found",.own fs) :: ex)) P:=aU (by kernel_rfl) h
theorem sha_encode_utf16 {k : Nat} {xs fs : List V} {o : Str} {wm : Bool} {ex : Gam} {v : Option (V)} (h : (let G:=af tab k; (aj "bytes" [.list fs]).bind fun v1 =>some v1) = v) : exsK 38 (wt (af tab k)) R40.sc R40.mu (("text",.val (.list xs)) :: ("order",.val (.str o)) :: ("with_mark",.val (.bool wm)) :: ("found",.own fs) :: ex) ((blk R40.body []).drop 2) ak = v:=Eq.trans (by kernel_rfl) h
theorem shb_encode_utf32 {k : Nat} {xs fs : List V} {o : Str} {wm : Bool} {ex : Gam} {P : Fl → Prop} (h : Out (let G:=af tab k; (ah (List.lookup ("code" : Str) ex)).bind fun v1 =>(ag .RShift v1 (.int 16)).bind fun v2 =>(ah (List.lookup ("code" : Str) ex)).bind fun v3 =>(ag .RShift v3 (.int 8)).bind fun v4 =>(ag .BitAnd v4 (.int 255)).bind fun v5 =>(ah (List.lookup ("code" : Str) ex)).bind fun v6 =>(ag .BitAnd v6 (.int 255)).bind fun v7 =>cond (o == ("be" : Str)) ((ah (List.lookup ("row" : Str) (ae "row" (AV.val (.list [.int 0,v2,v5,v7])) ex))).bind fun v8 =>extC v8 fun ys252 =>if fs.length + ys252.length ≤ lid then some (.next (("text",.val (.list xs)) :: ("order",.val (.str o)) :: ("with_mark",.val (.bool wm)) :: ("found",.own (fs ++ ys252)) :: (ae "row" (AV.val (.list [.int 0,v2,v5,v7])) ex))) else Option.none) (((ah (List.lookup ("row" : Str) (ae "row" (AV.val (.list [.int 0,v2,v5,v7])) ex))).bind revV).bind fun v9 =>extC v9 fun ys254 =>if fs.length + ys254.length ≤ lid then some (.next (("text",.val (.list xs)) :: ("order",.val (.str o)) :: ("with_mark",.val (.bool wm)) :: ("found",.own (fs ++ ys254)) :: (ae "row" (AV.val (.list [.int 0,v2,v5,v7])) ex))) else Option.none)) P) : Out (exs 36 (wt (af tab k)) R45.sc R45.mu (blk R45.body [2]) (("text",.val (.list xs)) :: ("order",.val (.str o)) :: ("with_mark",.val (.bool wm)) :: ("found",.own fs) :: ex)) P:=aU (by kernel_rfl) h
theorem sha_encode_utf32 {k : Nat} {xs fs : List V} {o : Str} {wm : Bool} {ex : Gam} {v : Option (V)} (h : (let G:=af tab k; (aj "bytes" [.list fs]).bind fun v1 =>some v1) = v) : exsK 37 (wt (af tab k)) R45.sc R45.mu (("text",.val (.list xs)) :: ("order",.val (.str o)) :: ("with_mark",.val (.bool wm)) :: ("found",.own fs) :: ex) ((blk R45.body []).drop 3) ak = v:=Eq.trans (by kernel_rfl) h
theorem sh_utf16_step {k : Nat} {ks : List Int} {i : Int} {o : Str} {v : V} (h : (let G:=af tab k; (aj "len" [.bytes ks]).bind fun v1 =>(ap .Gt (.int (i + 2)) v1).bind fun b2 =>cond b2 ((aj "len" [.bytes ks]).bind fun v3 =>some (.tup [.none,v3,.str "odd end"])) ((orO (G.fn "utf16_unit" [.bytes ks,.int i,.str o] []) (aj "utf16_unit" [.bytes ks,.int i,.str o])).bind fun v4 =>(orO (G.fn "is_low" [v4] []) (aj "is_low" [v4])).bind fun v5 =>(V.tru v5).bind fun b6 =>cond b6 (some (.tup [.none,.int (i + 2),.str "low"])) ((orO (G.fn "is_high" [v4] []) (aj "is_high" [v4])).bind fun v7 =>(V.tru v7).bind fun b8 =>cond (!b8) (some (.tup [v4,.int (i + 2),.str ("" : Str)])) ((aj "len" [.bytes ks]).bind fun v9 =>(ap .LtE (.int (i + 4)) v9).bind fun b10 =>cond b10 ((orO (G.fn "utf16_unit" [.bytes ks,.int (i + 2),.str o] []) (aj "utf16_unit" [.bytes ks,.int (i + 2),.str o])).bind fun v11 =>(orO (G.fn "is_low" [v11] []) (aj "is_low" [v11])).bind fun v12 =>(V.tru v12).bind fun b13 =>cond b13 ((orO (G.fn "utf16_joined" [v4,v11] []) (aj "utf16_joined" [v4,v11])).bind fun v14 =>some (.tup [v14,.int (i + 4),.str ("" : Str)])) (some (.tup [.none,.int (i + 2),.str "high"]))) (some (.tup [.none,.int (i + 2),.str "high"])))))) = some v) : (af tab (k + 1)).fn "utf16_step" [.bytes ks,.int i,.str o] [] = some v:=aX (r:=R41) (by kernel_rfl) (by kernel_rfl) h
theorem dI {k : Nat} {ks : List Int} {ov : V} {v : V} (h : (let G:=af tab k; cond (!aw ov) (some (.tup [ov,.int 0])) ((ay (some (.int 2))).bind fun p1 =>(aq (.bytes ks) Option.none p1).bind fun v2 =>(ap .Eq v2 (.bytes [255,254])).bind fun b3 =>cond b3 (some (.tup [.str "le",.int 2])) ((ay (some (.int 2))).bind fun p4 =>(aq (.bytes ks) Option.none p4).bind fun v5 =>(ap .Eq v5 (.bytes [254,255])).bind fun b6 =>cond b6 (some (.tup [.str "be",.int 2])) (some (.tup [.str "be",.int 0]))))) = some v) : (af tab (k + 1)).fn "utf16_start" [.bytes ks,ov] [] = some v:=aX (r:=R42) (by kernel_rfl) (by kernel_rfl) h
theorem sh_utf32_start {k : Nat} {ks : List Int} {ov : V} {v : V} (h : (let G:=af tab k; cond (!aw ov) (some (.tup [ov,.int 0])) ((ay (some (.int 4))).bind fun p1 =>(aq (.bytes ks) Option.none p1).bind fun v2 =>(ap .Eq v2 (.bytes [255,254,0,0])).bind fun b3 =>cond b3 (some (.tup [.str "le",.int 4])) ((ay (some (.int 4))).bind fun p4 =>(aq (.bytes ks) Option.none p4).bind fun v5 =>(ap .Eq v5 (.bytes [0,0,254,255])).bind fun b6 =>cond b6 (some (.tup [.str "be",.int 4])) (some (.tup [.str "be",.int 0]))))) = some v) : (af tab (k + 1)).fn "utf32_start" [.bytes ks,ov] [] = some v:=aX (r:=R47) (by kernel_rfl) (by kernel_rfl) h
theorem sh_decode_utf16_replaced {k : Nat} {ks : List Int} {ov : V} {v : V} (h : (let G:=af tab k; (orO (G.fn "utf16_start" [.bytes ks,ov] []) (aj "utf16_start" [.bytes ks,ov])).bind fun v1 =>un2 v1 fun v2 v3 =>(bK 36 (wt G) R43.sc R43.mu (ar (sAt (blk R43.body []) 2)) (blk R43.body [2]) 65536 [("octets",.val (.bytes ks)),("order",.val v2),("at",.val v3),("found",.own [])]).bind fun fl4 =>flC fl4 (fun g5 =>exsK 37 (wt G) R43.sc R43.mu g5 ((blk R43.body []).drop 3) ak) (fun g5 =>ak (.brk g5)) (fun w g5 =>ak (.ret w g5))) = some v) : (af tab (k + 1)).fn "decode_utf16_replaced" [.bytes ks,ov] [] = some v:=aX (r:=R43) (by kernel_rfl) (by kernel_rfl) h
theorem sh_decode_utf32 {k : Nat} {ks : List Int} {ov : V} {v : V} (h : (let G:=af tab k; (orO (G.fn "utf32_start" [.bytes ks,ov] []) (aj "utf32_start" [.bytes ks,ov])).bind fun v1 =>un2 v1 fun v2 v3 =>(bK 36 (wt G) R48.sc R48.mu (ar (sAt (blk R48.body []) 2)) (blk R48.body [2]) 65536 [("octets",.val (.bytes ks)),("order",.val v2),("at",.val v3),("found",.own [])]).bind fun fl4 =>flC fl4 (fun g5 =>exsK 37 (wt G) R48.sc R48.mu g5 ((blk R48.body []).drop 3) ak) (fun g5 =>ak (.brk g5)) (fun w g5 =>ak (.ret w g5))) = some v) : (af tab (k + 1)).fn "decode_utf32" [.bytes ks,ov] [] = some v:=aX (r:=R48) (by kernel_rfl) (by kernel_rfl) h
theorem sht_decode_utf16_replaced {k : Nat} {ks : List Int} {o : Str} {i : Int} {fs : List V} {ex : Gam} {v : Bool} (h : (let G:=af tab k; (aj "len" [.bytes ks]).bind fun v1 =>(ap .Lt (.int i) v1).bind fun b2 =>some b2) = some v) : evT 36 (wt (af tab k)) R43.sc (("octets",.val (.bytes ks)) :: ("order",.val (.str o)) :: ("at",.val (.int i)) :: ("found",.own fs) :: ex) (ar (sAt (blk R43.body []) 2)) = some v:=dW (by kernel_rfl) h
theorem shb_decode_utf16_replaced {k : Nat} {ks : List Int} {o : Str} {i : Int} {fs : List V} {ex : Gam} {P : Fl → Prop} (h : Out (let G:=af tab k; (orO (G.fn "utf16_step" [.bytes ks,.int i,.str o] []) (aj "utf16_step" [.bytes ks,.int i,.str o])).bind fun v1 =>un3 v1 fun v2 v3 v4 =>(ah (List.lookup ("code" : Str) (ae "what" (AV.val v4) (ae "code" (AV.val v2) ex)))).bind fun v5 =>cond (aw v5) (if fs.length < lid then some (.next (("octets",.val (.bytes ks)) :: ("order",.val (.str o)) :: ("at",.val v3) :: ("found",.own (fs ++ [.int 65533])) :: (ae "what" (AV.val v4) (ae "code" (AV.val v2) ex)))) else Option.none) ((ah (List.lookup ("code" : Str) (ae "what" (AV.val v4) (ae "code" (AV.val v2) ex)))).bind fun v6 =>if fs.length < lid then some (.next (("octets",.val (.bytes ks)) :: ("order",.val (.str o)) :: ("at",.val v3) :: ("found",.own (fs ++ [v6])) :: (ae "what" (AV.val v4) (ae "code" (AV.val v2) ex)))) else Option.none)) P) : Out (exs 36 (wt (af tab k)) R43.sc R43.mu (blk R43.body [2]) (("octets",.val (.bytes ks)) :: ("order",.val (.str o)) :: ("at",.val (.int i)) :: ("found",.own fs) :: ex)) P:=aU (by kernel_rfl) h
theorem sha_decode_utf16_replaced {k : Nat} {ks : List Int} {o : Str} {i : Int} {fs : List V} {ex : Gam} {v : Option (V)} (h : (let G:=af tab k; some (.list fs)) = v) : exsK 37 (wt (af tab k)) R43.sc R43.mu (("octets",.val (.bytes ks)) :: ("order",.val (.str o)) :: ("at",.val (.int i)) :: ("found",.own fs) :: ex) ((blk R43.body []).drop 3) ak = v:=Eq.trans (by kernel_rfl) h
theorem sht_decode_utf32 {k : Nat} {ks : List Int} {o : Str} {i : Int} {fs : List V} {ex : Gam} {v : Bool} (h : (let G:=af tab k; (aj "len" [.bytes ks]).bind fun v1 =>(ap .Lt (.int i) v1).bind fun b2 =>some b2) = some v) : evT 36 (wt (af tab k)) R48.sc (("octets",.val (.bytes ks)) :: ("order",.val (.str o)) :: ("at",.val (.int i)) :: ("found",.own fs) :: ex) (ar (sAt (blk R48.body []) 2)) = some v:=dW (by kernel_rfl) h
theorem shb_decode_utf32 {k : Nat} {ks : List Int} {o : Str} {i : Int} {fs : List V} {ex : Gam} {P : Fl → Prop} (h : Out (let G:=af tab k; (orO (G.fn "utf32_step" [.bytes ks,.int i,.str o] []) (aj "utf32_step" [.bytes ks,.int i,.str o])).bind fun v1 =>un3 v1 fun v2 v3 v4 =>(ah (List.lookup ("code" : Str) (ae "what" (AV.val v4) (ae "behind" (AV.val v3) (ae "code" (AV.val v2) ex))))).bind fun v5 =>cond (aw v5) (Option.none) ((ah (List.lookup ("code" : Str) (ae "what" (AV.val v4) (ae "behind" (AV.val v3) (ae "code" (AV.val v2) ex))))).bind fun v6 =>if fs.length < lid then (ah (List.lookup ("behind" : Str) (ae "what" (AV.val v4) (ae "behind" (AV.val v3) (ae "code" (AV.val v2) ex))))).bind fun v7 =>some (.next (("octets",.val (.bytes ks)) :: ("order",.val (.str o)) :: ("at",.val v7) :: ("found",.own (fs ++ [v6])) :: (ae "what" (AV.val v4) (ae "behind" (AV.val v3) (ae "code" (AV.val v2) ex))))) else Option.none)) P) : Out (exs 36 (wt (af tab k)) R48.sc R48.mu (blk R48.body [2]) (("octets",.val (.bytes ks)) :: ("order",.val (.str o)) :: ("at",.val (.int i)) :: ("found",.own fs) :: ex)) P:=aU (by kernel_rfl) h
theorem sha_decode_utf32 {k : Nat} {ks : List Int} {o : Str} {i : Int} {fs : List V} {ex : Gam} {v : Option (V)} (h : (let G:=af tab k; some (.list fs)) = v) : exsK 37 (wt (af tab k)) R48.sc R48.mu (("octets",.val (.bytes ks)) :: ("order",.val (.str o)) :: ("at",.val (.int i)) :: ("found",.own fs) :: ex) ((blk R48.body []).drop 3) ak = v:=Eq.trans (by kernel_rfl) h
theorem sh_Utf16Stream_init {k : Nat} {ov : V} {st : Bool} {v : List (Str × V)} (h : (let G:=af tab k; some [(("order" : Str),ov),(("is_strict" : Str),.bool st),(("left" : Str),.bytes []),(("used" : Str),.int 0)]) = some v) : (af tab (k + 1)).cls "Utf16Stream" [ov,.bool st] = some v:=cls_sh (r:=R44_0) (by kernel_rfl) (by kernel_rfl) h
theorem sh_Utf16Stream_init0 {k : Nat}  {v : List (Str × V)} (h : (let G:=af tab k; some [(("order" : Str),.none),(("is_strict" : Str),.bool true),(("left" : Str),.bytes []),(("used" : Str),.int 0)]) = some v) : (af tab (k + 1)).cls "Utf16Stream" [] = some v:=cls_sh (r:=R44_0) (by kernel_rfl) (by kernel_rfl) h
theorem sh_Utf16Stream_is_lacking {k : Nat} {ks : List Int} {i : Int} {o : Str} {v : V} (h : (let G:=af tab k; (aj "len" [.bytes ks]).bind fun v1 =>(ag .Sub v1 (.int i)).bind fun v2 =>(ap .Lt v2 (.int 2)).bind fun b3 =>cond b3 (some (.bool b3)) ((ap .Lt v2 (.int 4)).bind fun b4 =>cond b4 ((orO (G.fn "utf16_unit" [.bytes ks,.int i,.str o] []) (aj "utf16_unit" [.bytes ks,.int i,.str o])).bind fun v5 =>(orO (G.fn "is_high" [v5] []) (aj "is_high" [v5])).bind fun v6 =>some v6) (some (.bool b4)))) = some v) : (af tab (k + 1)).pm "Utf16Stream" "is_lacking" [.bytes ks,.int i,.str o] = some v:=pm_sh (r:=R44_1) (by kernel_rfl) (by kernel_rfl) h
theorem ci {k : Nat} {ov : V} {w p : List Int} {n : Int} {st last : Bool} {v : V × List (Str × V)} (h : (let G:=af tab k; (ag .Add (.bytes w) (.bytes p)).bind fun v1 =>cond (aw ov) ((aj "len" [v1]).bind fun v2 =>(ap .GtE v2 (.int 2)).bind fun b3 =>cond b3 ((orO (G.fn "utf16_start" [v1,.none] []) (aj "utf16_start" [v1,.none])).bind fun v4 =>un2 v4 fun v5 v6 =>(bK 36 (wt G) aQ.sc aQ.mu (ar (sAt (blk aQ.body []) 2)) (blk aQ.body [2]) 65536 [("self",.inst "Utf16Stream" [("order",ov),("is_strict",.bool st),("left",.bytes w),("used",.int n)]),("octets",.val (.bytes p)),("is_last",.val (.bool last)),("ahead",.val v1),("found",.own []),("at",.val v6),("order",.val v5)]).bind fun fl7 =>flC fl7 (fun g8 =>exsK 37 (wt G) aQ.sc aQ.mu g8 ((blk aQ.body []).drop 3) bQ) (fun g8 =>bQ (.brk g8)) (fun w g8 =>bQ (.ret w g8))) (cond last ((orO (G.fn "utf16_start" [v1,.none] []) (aj "utf16_start" [v1,.none])).bind fun v9 =>un2 v9 fun v10 v11 =>(bK 36 (wt G) aQ.sc aQ.mu (ar (sAt (blk aQ.body []) 2)) (blk aQ.body [2]) 65536 [("self",.inst "Utf16Stream" [("order",ov),("is_strict",.bool st),("left",.bytes w),("used",.int n)]),("octets",.val (.bytes p)),("is_last",.val (.bool last)),("ahead",.val v1),("found",.own []),("at",.val v11),("order",.val v10)]).bind fun fl12 =>flC fl12 (fun g13 =>exsK 37 (wt G) aQ.sc aQ.mu g13 ((blk aQ.body []).drop 3) bQ) (fun g13 =>bQ (.brk g13)) (fun w g13 =>bQ (.ret w g13))) ((bK 36 (wt G) aQ.sc aQ.mu (ar (sAt (blk aQ.body []) 2)) (blk aQ.body [2]) 65536 [("self",.inst "Utf16Stream" [("order",ov),("is_strict",.bool st),("left",.bytes w),("used",.int n)]),("octets",.val (.bytes p)),("is_last",.val (.bool last)),("ahead",.val v1),("found",.own []),("at",.val (.int 0)),("order",.val ov)]).bind fun fl14 =>flC fl14 (fun g15 =>exsK 37 (wt G) aQ.sc aQ.mu g15 ((blk aQ.body []).drop 3) bQ) (fun g15 =>bQ (.brk g15)) (fun w g15 =>bQ (.ret w g15))))) ((bK 36 (wt G) aQ.sc aQ.mu (ar (sAt (blk aQ.body []) 2)) (blk aQ.body [2]) 65536 [("self",.inst "Utf16Stream" [("order",ov),("is_strict",.bool st),("left",.bytes w),("used",.int n)]),("octets",.val (.bytes p)),("is_last",.val (.bool last)),("ahead",.val v1),("found",.own []),("at",.val (.int 0)),("order",.val ov)]).bind fun fl16 =>flC fl16 (fun g17 =>exsK 37 (wt G) aQ.sc aQ.mu g17 ((blk aQ.body []).drop 3) bQ) (fun g17 =>bQ (.brk g17)) (fun w g17 =>bQ (.ret w g17)))) = some v) : (af tab (k + 1)).mth "Utf16Stream" "feed" [("order",ov),("is_strict",.bool st),("left",.bytes w),("used",.int n)] [.bytes p,.bool last] = some v:=mth_sh (r:=aQ) (by kernel_rfl) (by kernel_rfl) h
theorem sht_feed16 {k : Nat} {ov o : V} {w p ks : List Int} {n i : Int} {st last : Bool} {fs : List V} {ex : Gam} {v : Bool} (h : (let G:=af tab k; cond (!aw o) ((aj "len" [.bytes ks]).bind fun v1 =>(ap .Lt (.int i) v1).bind fun b2 =>cond b2 (some true) (some false)) (some false)) = some v) : evT 36 (wt (af tab k)) aQ.sc (("self",.inst "Utf16Stream" [("order",ov),("is_strict",.bool st),("left",.bytes w),("used",.int n)]) :: ("octets",.val (.bytes p)) :: ("is_last",.val (.bool last)) :: ("ahead",.val (.bytes ks)) :: ("found",.own fs) :: ("at",.val (.int i)) :: ("order",.val o) :: ex) (ar (sAt (blk aQ.body []) 2)) = some v:=dW (by kernel_rfl) h
theorem shb_feed16 {k : Nat} {ov o : V} {w p ks : List Int} {n i : Int} {st last : Bool} {fs : List V} {ex : Gam} {P : Fl → Prop} (h : Out (let G:=af tab k; cond (!last) ((G.pm "Utf16Stream" "is_lacking" [.bytes ks,.int i,o]).bind fun v1 =>(V.tru v1).bind fun b2 =>cond b2 (some (.brk (("self",.inst "Utf16Stream" [("order",ov),("is_strict",.bool st),("left",.bytes w),("used",.int n)]) :: ("octets",.val (.bytes p)) :: ("is_last",.val (.bool last)) :: ("ahead",.val (.bytes ks)) :: ("found",.own fs) :: ("at",.val (.int i)) :: ("order",.val o) :: ex))) ((orO (G.fn "utf16_step" [.bytes ks,.int i,o] []) (aj "utf16_step" [.bytes ks,.int i,o])).bind fun v3 =>un3 v3 fun v4 v5 v6 =>(ah (List.lookup ("code" : Str) (ae "what" (AV.val v6) (ae "behind" (AV.val v5) (ae "code" (AV.val v4) ex))))).bind fun v7 =>cond (aw v7) (cond st (Option.none) ((ah (List.lookup ("code" : Str) (ae "what" (AV.val v6) (ae "behind" (AV.val v5) (ae "code" (AV.val v4) ex))))).bind fun v8 =>cond (aw v8) (if fs.length < lid then (ah (List.lookup ("behind" : Str) (ae "what" (AV.val v6) (ae "behind" (AV.val v5) (ae "code" (AV.val v4) ex))))).bind fun v9 =>some (.next (("self",.inst "Utf16Stream" [("order",ov),("is_strict",.bool st),("left",.bytes w),("used",.int n)]) :: ("octets",.val (.bytes p)) :: ("is_last",.val (.bool last)) :: ("ahead",.val (.bytes ks)) :: ("found",.own (fs ++ [.int 65533])) :: ("at",.val v9) :: ("order",.val o) :: (ae "what" (AV.val v6) (ae "behind" (AV.val v5) (ae "code" (AV.val v4) ex))))) else Option.none) ((ah (List.lookup ("code" : Str) (ae "what" (AV.val v6) (ae "behind" (AV.val v5) (ae "code" (AV.val v4) ex))))).bind fun v10 =>if fs.length < lid then (ah (List.lookup ("behind" : Str) (ae "what" (AV.val v6) (ae "behind" (AV.val v5) (ae "code" (AV.val v4) ex))))).bind fun v11 =>some (.next (("self",.inst "Utf16Stream" [("order",ov),("is_strict",.bool st),("left",.bytes w),("used",.int n)]) :: ("octets",.val (.bytes p)) :: ("is_last",.val (.bool last)) :: ("ahead",.val (.bytes ks)) :: ("found",.own (fs ++ [v10])) :: ("at",.val v11) :: ("order",.val o) :: (ae "what" (AV.val v6) (ae "behind" (AV.val v5) (ae "code" (AV.val v4) ex))))) else Option.none))) ((ah (List.lookup ("code" : Str) (ae "what" (AV.val v6) (ae "behind" (AV.val v5) (ae "code" (AV.val v4) ex))))).bind fun v12 =>cond (aw v12) (if fs.length < lid then (ah (List.lookup ("behind" : Str) (ae "what" (AV.val v6) (ae "behind" (AV.val v5) (ae "code" (AV.val v4) ex))))).bind fun v13 =>some (.next (("self",.inst "Utf16Stream" [("order",ov),("is_strict",.bool st),("left",.bytes w),("used",.int n)]) :: ("octets",.val (.bytes p)) :: ("is_last",.val (.bool last)) :: ("ahead",.val (.bytes ks)) :: ("found",.own (fs ++ [.int 65533])) :: ("at",.val v13) :: ("order",.val o) :: (ae "what" (AV.val v6) (ae "behind" (AV.val v5) (ae "code" (AV.val v4) ex))))) else Option.none) ((ah (List.lookup ("code" : Str) (ae "what" (AV.val v6) (ae "behind" (AV.val v5) (ae "code" (AV.val v4) ex))))).bind fun v14 =>if fs.length < lid then (ah (List.lookup ("behind" : Str) (ae "what" (AV.val v6) (ae "behind" (AV.val v5) (ae "code" (AV.val v4) ex))))).bind fun v15 =>some (.next (("self",.inst "Utf16Stream" [("order",ov),("is_strict",.bool st),("left",.bytes w),("used",.int n)]) :: ("octets",.val (.bytes p)) :: ("is_last",.val (.bool last)) :: ("ahead",.val (.bytes ks)) :: ("found",.own (fs ++ [v14])) :: ("at",.val v15) :: ("order",.val o) :: (ae "what" (AV.val v6) (ae "behind" (AV.val v5) (ae "code" (AV.val v4) ex))))) else Option.none)))) ((orO (G.fn "utf16_step" [.bytes ks,.int i,o] []) (aj "utf16_step" [.bytes ks,.int i,o])).bind fun v16 =>un3 v16 fun v17 v18 v19 =>(ah (List.lookup ("code" : Str) (ae "what" (AV.val v19) (ae "behind" (AV.val v18) (ae "code" (AV.val v17) ex))))).bind fun v20 =>cond (aw v20) (cond st (Option.none) ((ah (List.lookup ("code" : Str) (ae "what" (AV.val v19) (ae "behind" (AV.val v18) (ae "code" (AV.val v17) ex))))).bind fun v21 =>cond (aw v21) (if fs.length < lid then (ah (List.lookup ("behind" : Str) (ae "what" (AV.val v19) (ae "behind" (AV.val v18) (ae "code" (AV.val v17) ex))))).bind fun v22 =>some (.next (("self",.inst "Utf16Stream" [("order",ov),("is_strict",.bool st),("left",.bytes w),("used",.int n)]) :: ("octets",.val (.bytes p)) :: ("is_last",.val (.bool last)) :: ("ahead",.val (.bytes ks)) :: ("found",.own (fs ++ [.int 65533])) :: ("at",.val v22) :: ("order",.val o) :: (ae "what" (AV.val v19) (ae "behind" (AV.val v18) (ae "code" (AV.val v17) ex))))) else Option.none) ((ah (List.lookup ("code" : Str) (ae "what" (AV.val v19) (ae "behind" (AV.val v18) (ae "code" (AV.val v17) ex))))).bind fun v23 =>if fs.length < lid then (ah (List.lookup ("behind" : Str) (ae "what" (AV.val v19) (ae "behind" (AV.val v18) (ae "code" (AV.val v17) ex))))).bind fun v24 =>some (.next (("self",.inst "Utf16Stream" [("order",ov),("is_strict",.bool st),("left",.bytes w),("used",.int n)]) :: ("octets",.val (.bytes p)) :: ("is_last",.val (.bool last)) :: ("ahead",.val (.bytes ks)) :: ("found",.own (fs ++ [v23])) :: ("at",.val v24) :: ("order",.val o) :: (ae "what" (AV.val v19) (ae "behind" (AV.val v18) (ae "code" (AV.val v17) ex))))) else Option.none))) ((ah (List.lookup ("code" : Str) (ae "what" (AV.val v19) (ae "behind" (AV.val v18) (ae "code" (AV.val v17) ex))))).bind fun v25 =>cond (aw v25) (if fs.length < lid then (ah (List.lookup ("behind" : Str) (ae "what" (AV.val v19) (ae "behind" (AV.val v18) (ae "code" (AV.val v17) ex))))).bind fun v26 =>some (.next (("self",.inst "Utf16Stream" [("order",ov),("is_strict",.bool st),("left",.bytes w),("used",.int n)]) :: ("octets",.val (.bytes p)) :: ("is_last",.val (.bool last)) :: ("ahead",.val (.bytes ks)) :: ("found",.own (fs ++ [.int 65533])) :: ("at",.val v26) :: ("order",.val o) :: (ae "what" (AV.val v19) (ae "behind" (AV.val v18) (ae "code" (AV.val v17) ex))))) else Option.none) ((ah (List.lookup ("code" : Str) (ae "what" (AV.val v19) (ae "behind" (AV.val v18) (ae "code" (AV.val v17) ex))))).bind fun v27 =>if fs.length < lid then (ah (List.lookup ("behind" : Str) (ae "what" (AV.val v19) (ae "behind" (AV.val v18) (ae "code" (AV.val v17) ex))))).bind fun v28 =>some (.next (("self",.inst "Utf16Stream" [("order",ov),("is_strict",.bool st),("left",.bytes w),("used",.int n)]) :: ("octets",.val (.bytes p)) :: ("is_last",.val (.bool last)) :: ("ahead",.val (.bytes ks)) :: ("found",.own (fs ++ [v27])) :: ("at",.val v28) :: ("order",.val o) :: (ae "what" (AV.val v19) (ae "behind" (AV.val v18) (ae "code" (AV.val v17) ex))))) else Option.none)))) P) : Out (exs 36 (wt (af tab k)) aQ.sc aQ.mu (blk aQ.body [2]) (("self",.inst "Utf16Stream" [("order",ov),("is_strict",.bool st),("left",.bytes w),("used",.int n)]) :: ("octets",.val (.bytes p)) :: ("is_last",.val (.bool last)) :: ("ahead",.val (.bytes ks)) :: ("found",.own fs) :: ("at",.val (.int i)) :: ("order",.val o) :: ex)) P:=aU (by kernel_rfl) h
theorem sha_feed16 {k : Nat} {ov o : V} {w p ks : List Int} {n i : Int} {st last : Bool} {fs : List V} {ex : Gam} {v : Option (V × List (Str × V))} (h : (let G:=af tab k; (ay (some (.int i))).bind fun p1 =>(aq (.bytes ks) p1 Option.none).bind fun v2 =>some ((V.list fs),[(("order" : Str),o),(("is_strict" : Str),.bool st),(("left" : Str),v2),(("used" : Str),.int (n + i))])) = v) : exsK 37 (wt (af tab k)) aQ.sc aQ.mu ((("self" : Str),AV.inst ("Utf16Stream" : Str) [(("order" : Str),ov),(("is_strict" : Str),.bool st),(("left" : Str),.bytes w),(("used" : Str),.int n)]) :: (("octets" : Str),AV.val (.bytes p)) :: (("is_last" : Str),AV.val (.bool last)) :: (("ahead" : Str),AV.val (.bytes ks)) :: (("found" : Str),AV.own fs) :: (("at" : Str),AV.val (.int i)) :: (("order" : Str),AV.val o) :: ex) ((blk aQ.body []).drop 3) bQ = v:=Eq.trans (by kernel_rfl) h
theorem sh_utf32_step {k : Nat} {ks : List Int} {i : Int} {o : Str} {v : V} (h : (let G:=af tab k; (ay (some (.int i))).bind fun p1 =>(ay (some (.int (i + 4)))).bind fun p2 =>(aq (.bytes ks) p1 p2).bind fun v3 =>ownC v3 fun ks4 =>((gk (.list (ks4.map V.int))).map fun (n : Nat) =>V.int n).bind fun v5 =>(ap .Lt v5 (.int 4)).bind fun b6 =>cond b6 ((aj "len" [.bytes ks]).bind fun v7 =>some (.tup [.none,v7,.str "odd end"])) (cond (!(o == ("be" : Str))) (if (ks4.map V.int).length ≤ lid then (al (.list ((ks4.map V.int).reverse)) (.int 0)).bind fun v8 =>(ag .LShift v8 (.int 24)).bind fun v9 =>(al (.list ((ks4.map V.int).reverse)) (.int 1)).bind fun v10 =>(ag .LShift v10 (.int 16)).bind fun v11 =>(ag .BitOr v9 v11).bind fun v12 =>(al (.list ((ks4.map V.int).reverse)) (.int 2)).bind fun v13 =>(ag .LShift v13 (.int 8)).bind fun v14 =>(ag .BitOr v12 v14).bind fun v15 =>(al (.list ((ks4.map V.int).reverse)) (.int 3)).bind fun v16 =>(ag .BitOr v15 v16).bind fun v17 =>(orO (G.fn "is_scalar" [v17] []) (aj "is_scalar" [v17])).bind fun v18 =>(V.tru v18).bind fun b19 =>cond b19 (some (.tup [v17,.int (i + 4),.str ("" : Str)])) ((orO (G.fn "is_surrogate" [v17] []) (aj "is_surrogate" [v17])).bind fun v20 =>(V.tru v20).bind fun b21 =>cond b21 (some (.tup [.none,.int (i + 4),.str "surrogate"])) (some (.tup [.none,.int (i + 4),.str "beyond"]))) else Option.none) ((al (.list (ks4.map V.int)) (.int 0)).bind fun v22 =>(ag .LShift v22 (.int 24)).bind fun v23 =>(al (.list (ks4.map V.int)) (.int 1)).bind fun v24 =>(ag .LShift v24 (.int 16)).bind fun v25 =>(ag .BitOr v23 v25).bind fun v26 =>(al (.list (ks4.map V.int)) (.int 2)).bind fun v27 =>(ag .LShift v27 (.int 8)).bind fun v28 =>(ag .BitOr v26 v28).bind fun v29 =>(al (.list (ks4.map V.int)) (.int 3)).bind fun v30 =>(ag .BitOr v29 v30).bind fun v31 =>(orO (G.fn "is_scalar" [v31] []) (aj "is_scalar" [v31])).bind fun v32 =>(V.tru v32).bind fun b33 =>cond b33 (some (.tup [v31,.int (i + 4),.str ("" : Str)])) ((orO (G.fn "is_surrogate" [v31] []) (aj "is_surrogate" [v31])).bind fun v34 =>(V.tru v34).bind fun b35 =>cond b35 (some (.tup [.none,.int (i + 4),.str "surrogate"])) (some (.tup [.none,.int (i + 4),.str "beyond"])))))) = some v) : (af tab (k + 1)).fn "utf32_step" [.bytes ks,.int i,.str o] [] = some v:=aX (r:=R46) (by kernel_rfl) (by kernel_rfl) h
theorem sh_encoding_marks {k : Nat}  {v : V} (h : (let G:=af tab k; (ag .Add (.list [.tup [.bytes [0,0,254,255],.str "utf-32be"],.tup [.bytes [255,254,0,0],.str "utf-32le"],.tup [.bytes [239,187,191],.str "utf-8"]]) (.list [.tup [.bytes [254,255],.str "utf-16be"],.tup [.bytes [255,254],.str "utf-16le"],.tup [.bytes [14,254,255],.str "scsu"]])).bind fun v1 =>(ag .Add v1 (.list [.tup [.bytes [251,238,40],.str "bocu-1"],.tup [.bytes [132,49,149,51],.str "gb18030"],.tup [.bytes [221,115,102,115],.str "utf-ebcdic"]])).bind fun v2 =>(ao (.tup [.bytes [56],.bytes [57],.bytes [43],.bytes [47]])).bind fun xs3 =>if xs3.length ≤ lid then (aR (fun x4 =>(ag .Add (.bytes [43,47,118]) x4).bind fun v5 =>some (some (V.tup [v5,.str "utf-7"]))) xs3).bind fun v6 =>(ag .Add v2 (.list v6)).bind fun v7 =>some v7 else Option.none) = some v) : (af tab (k + 1)).fn "encoding_marks" [] [] = some v:=aX (r:=R49) (by kernel_rfl) (by kernel_rfl) h
theorem sh_sniffed {k : Nat} {ks : List Int} {v : V} (h : (let G:=af tab k; (orO (G.fn "encoding_marks" [] []) (aj "encoding_marks" [])).bind fun vv =>(ao vv).bind fun xs =>(bt 38 (wt G) R50.sc R50.mu (ar (sAt (blk R50.body []) 0)) (blk R50.body [0]) xs [("octets",.val (.bytes ks))]).bind fun fl1 =>flC fl1 (fun g2 =>exsK 39 (wt G) R50.sc R50.mu g2 ((blk R50.body []).drop 1) ak) (fun g2 =>ak (.brk g2)) (fun w g2 =>ak (.ret w g2))) = some v) : (af tab (k + 1)).fn "sniffed" [.bytes ks] [] = some v:=aX (r:=R50) (by kernel_rfl) (by kernel_rfl) h
theorem shb_sniffed {k : Nat} {ks : List Int} {ex : Gam} {P : Fl → Prop} (h : Out (let G:=af tab k; lenC (dQ (List.lookup ("mark" : Str) ex)) (fun xs1 =>((gk (.list xs1)).map fun (n : Nat) =>V.int n).bind fun v2 =>(ay (some v2)).bind fun p3 =>(aq (.bytes ks) Option.none p3).bind fun v4 =>(ah (List.lookup ("mark" : Str) ex)).bind fun v5 =>(ap .Eq v4 v5).bind fun b6 =>cond b6 ((ah (List.lookup ("word" : Str) (thaw ex))).bind fun v7 =>some (.ret v7 (("octets",.val (.bytes ks)) :: (thaw ex)))) (some (.next (("octets",.val (.bytes ks)) :: ex)))) ((ah (List.lookup ("mark" : Str) ex)).bind fun v8 =>(aj "len" [v8]).bind fun v9 =>(ay (some v9)).bind fun p10 =>(aq (.bytes ks) Option.none p10).bind fun v11 =>(ah (List.lookup ("mark" : Str) ex)).bind fun v12 =>(ap .Eq v11 v12).bind fun b13 =>cond b13 ((ah (List.lookup ("word" : Str) (thaw ex))).bind fun v14 =>some (.ret v14 (("octets",.val (.bytes ks)) :: (thaw ex)))) (some (.next (("octets",.val (.bytes ks)) :: ex))))) P) : Out (exs 38 (wt (af tab k)) R50.sc R50.mu (blk R50.body [0]) (("octets",.val (.bytes ks)) :: ex)) P:=aU (by kernel_rfl) h
theorem sha_sniffed {k : Nat} {ks : List Int} {ex : Gam} {v : Option (V)} (h : (let G:=af tab k; some .none) = v) : exsK 39 (wt (af tab k)) R50.sc R50.mu (("octets",.val (.bytes ks)) :: ex) ((blk R50.body []).drop 1) ak = v:=Eq.trans (by kernel_rfl) h
theorem sh_unmarked {k : Nat} {ks : List Int} {v : V} (h : (let G:=af tab k; (orO (G.fn "encoding_marks" [] []) (aj "encoding_marks" [])).bind fun vv =>(ao vv).bind fun xs =>(bt 38 (wt G) R51.sc R51.mu (ar (sAt (blk R51.body []) 0)) (blk R51.body [0]) xs [("octets",.val (.bytes ks))]).bind fun fl1 =>flC fl1 (fun g2 =>exsK 39 (wt G) R51.sc R51.mu g2 ((blk R51.body []).drop 1) ak) (fun g2 =>ak (.brk g2)) (fun w g2 =>ak (.ret w g2))) = some v) : (af tab (k + 1)).fn "unmarked" [.bytes ks] [] = some v:=aX (r:=R51) (by kernel_rfl) (by kernel_rfl) h
theorem shb_unmarked {k : Nat} {ks : List Int} {ex : Gam} {P : Fl → Prop} (h : Out (let G:=af tab k; lenC (dQ (List.lookup ("mark" : Str) ex)) (fun xs1 =>((gk (.list xs1)).map fun (n : Nat) =>V.int n).bind fun v2 =>(ay (some v2)).bind fun p3 =>(aq (.bytes ks) Option.none p3).bind fun v4 =>(ah (List.lookup ("mark" : Str) ex)).bind fun v5 =>(ap .Eq v4 v5).bind fun b6 =>cond b6 ((ah (List.lookup ("word" : Str) (thaw ex))).bind fun v7 =>(ah (List.lookup ("word" : Str) (thaw ex))).bind fun v8 =>(ap .Eq v8 (.str "utf-7")).bind fun b9 =>cond b9 (some (.ret (V.tup [v7,.bytes ks]) (("octets",.val (.bytes ks)) :: (thaw ex)))) (lenC (dQ (List.lookup ("mark" : Str) (thaw ex))) (fun xs10 =>((gk (.list xs10)).map fun (n : Nat) =>V.int n).bind fun v11 =>(ay (some v11)).bind fun p12 =>(aq (.bytes ks) p12 Option.none).bind fun v13 =>some (.ret (V.tup [v7,v13]) (("octets",.val (.bytes ks)) :: (thaw ex)))) ((ah (List.lookup ("mark" : Str) (thaw ex))).bind fun v14 =>(aj "len" [v14]).bind fun v15 =>(ay (some v15)).bind fun p16 =>(aq (.bytes ks) p16 Option.none).bind fun v17 =>some (.ret (V.tup [v7,v17]) (("octets",.val (.bytes ks)) :: (thaw ex)))))) (some (.next (("octets",.val (.bytes ks)) :: ex)))) ((ah (List.lookup ("mark" : Str) ex)).bind fun v18 =>(aj "len" [v18]).bind fun v19 =>(ay (some v19)).bind fun p20 =>(aq (.bytes ks) Option.none p20).bind fun v21 =>(ah (List.lookup ("mark" : Str) ex)).bind fun v22 =>(ap .Eq v21 v22).bind fun b23 =>cond b23 ((ah (List.lookup ("word" : Str) (thaw ex))).bind fun v24 =>(ah (List.lookup ("word" : Str) (thaw ex))).bind fun v25 =>(ap .Eq v25 (.str "utf-7")).bind fun b26 =>cond b26 (some (.ret (V.tup [v24,.bytes ks]) (("octets",.val (.bytes ks)) :: (thaw ex)))) (lenC (dQ (List.lookup ("mark" : Str) (thaw ex))) (fun xs27 =>((gk (.list xs27)).map fun (n : Nat) =>V.int n).bind fun v28 =>(ay (some v28)).bind fun p29 =>(aq (.bytes ks) p29 Option.none).bind fun v30 =>some (.ret (V.tup [v24,v30]) (("octets",.val (.bytes ks)) :: (thaw ex)))) ((ah (List.lookup ("mark" : Str) (thaw ex))).bind fun v31 =>(aj "len" [v31]).bind fun v32 =>(ay (some v32)).bind fun p33 =>(aq (.bytes ks) p33 Option.none).bind fun v34 =>some (.ret (V.tup [v24,v34]) (("octets",.val (.bytes ks)) :: (thaw ex)))))) (some (.next (("octets",.val (.bytes ks)) :: ex))))) P) : Out (exs 38 (wt (af tab k)) R51.sc R51.mu (blk R51.body [0]) (("octets",.val (.bytes ks)) :: ex)) P:=aU (by kernel_rfl) h
theorem sha_unmarked {k : Nat} {ks : List Int} {ex : Gam} {v : Option (V)} (h : (let G:=af tab k; some (.tup [.none,.bytes ks])) = v) : exsK 39 (wt (af tab k)) R51.sc R51.mu (("octets",.val (.bytes ks)) :: ex) ((blk R51.body []).drop 1) ak = v:=Eq.trans (by kernel_rfl) h
theorem fo {k : Nat} {ks : List Int} {v : V} (h : (let G:=af tab k; (al (.bytes ks) (.int 0)).bind fun v1 =>(ap .Lt v1 (.int 128)).bind fun b2 =>cond b2 ((aj "len" [.bytes ks]).bind fun v3 =>(ap .Eq v3 (.int 1)).bind fun b4 =>some (.bool b4)) ((ao (.tup [.tup [.int 2,.int 192],.tup [.int 3,.int 224],.tup [.int 4,.int 240]])).bind fun xs5 =>(bt 36 (wt G) R54.sc R54.mu (ar (sAt (blk R54.body []) 2)) (blk R54.body [2]) xs5 [("part",.val (.bytes ks)),("lead",.val v1),("many",.val (.int 0))]).bind fun fl6 =>flC fl6 (fun g7 =>exsK 37 (wt G) R54.sc R54.mu g7 ((blk R54.body []).drop 3) ak) (fun g7 =>ak (.brk g7)) (fun w g7 =>ak (.ret w g7)))) = some v) : (af tab (k + 1)).fn "_law_is_begun" [.bytes ks] [] = some v:=aX (r:=R54) (by kernel_rfl) (by kernel_rfl) h
theorem shb_is_begun1 {k : Nat} {ks : List Int} {b m : Int} {ex : Gam} {P : Fl → Prop} (h : Out (let G:=af tab k; (ah (List.lookup ("first" : Str) ex)).bind fun v1 =>(ap .LtE v1 (.int b)).bind fun b2 =>cond b2 ((ah (List.lookup ("first" : Str) ex)).bind fun v3 =>(ah (List.lookup ("size" : Str) ex)).bind fun v4 =>(ag .Add v4 (.int 1)).bind fun v5 =>(ag .Pow (.int 2) v5).bind fun v6 =>(ag .FloorDiv (.int 256) v6).bind fun v7 =>(ag .Add v3 v7).bind fun v8 =>(ap .Lt (.int b) v8).bind fun b9 =>cond b9 ((ah (List.lookup ("size" : Str) ex)).bind fun v10 =>some (.next (("part",.val (.bytes ks)) :: ("lead",.val (.int b)) :: ("many",.val v10) :: ex))) (some (.next (("part",.val (.bytes ks)) :: ("lead",.val (.int b)) :: ("many",.val (.int m)) :: ex)))) (some (.next (("part",.val (.bytes ks)) :: ("lead",.val (.int b)) :: ("many",.val (.int m)) :: ex)))) P) : Out (exs 36 (wt (af tab k)) R54.sc R54.mu (blk R54.body [2]) (("part",.val (.bytes ks)) :: ("lead",.val (.int b)) :: ("many",.val (.int m)) :: ex)) P:=aU (by kernel_rfl) h
theorem gq {k : Nat} {ks : List Int} {b m : Int} {ex : Gam} {v : Option (V)} (h : (let G:=af tab k; cond ((m == 0)) (some (.bool false)) ((aj "len" [.bytes ks]).bind fun v1 =>(ap .Gt v1 (.int m)).bind fun b2 =>cond b2 (some (.bool false)) ((ay (some (.int 1))).bind fun p3 =>(aq (.bytes ks) p3 Option.none).bind fun v4 =>(ao v4).bind fun xs5 =>if xs5.length ≤ lid then (aR (fun x6 =>(ah (List.lookup ("octet" : Str) (ae "octet" (AV.val x6) ex))).bind fun v7 =>(ap .LtE (.int 128) v7).bind fun b8 =>cond b8 ((ap .Lt v7 (.int 192)).bind fun b9 =>cond (!b9) ((ah (List.lookup ("octet" : Str) (ae "octet" (AV.val x6) ex))).bind fun v10 =>some (some v10)) (some Option.none)) ((ah (List.lookup ("octet" : Str) (ae "octet" (AV.val x6) ex))).bind fun v11 =>some (some v11))) xs5).bind fun v12 =>(ap .NotEq (.list v12) (.list [])).bind fun b13 =>cond b13 (some (.bool false)) ((ag .Pow (.int 2) (.int (m + 1))).bind fun v14 =>(ag .FloorDiv (.int 256) v14).bind fun v15 =>(ag .Mod (.int b) v15).bind fun v16 =>(ag .Pow (.int 2) (.int (m + 1))).bind fun v17 =>(ag .FloorDiv (.int 256) v17).bind fun v18 =>(ag .Mod (.int b) v18).bind fun v19 =>(bM "range" [.int 1,.int m]).bind fun xs20 =>(bt 33 (wt G) R54.sc R54.mu (ar (sAt (blk R54.body []) 5)) (blk R54.body [5]) xs20 (("part",.val (.bytes ks)) :: ("lead",.val (.int b)) :: ("many",.val (.int m)) :: (ae "high" (AV.val v19) (ae "low" (AV.val v16) ex)))).bind fun fl21 =>flC fl21 (fun g22 =>exsK 34 (wt G) R54.sc R54.mu g22 ((blk R54.body []).drop 6) ak) (fun g22 =>ak (.brk g22)) (fun w g22 =>ak (.ret w g22))) else Option.none))) = v) : exsK 37 (wt (af tab k)) R54.sc R54.mu (("part",.val (.bytes ks)) :: ("lead",.val (.int b)) :: ("many",.val (.int m)) :: ex) ((blk R54.body []).drop 3) ak = v:=Eq.trans (by kernel_rfl) h
theorem shb_is_begun2 {k : Nat} {ks : List Int} {b m lo hi : Int} {q1 q2 : V} {ex : Gam} {P : Fl → Prop} (h : Out (let G:=af tab k; (ag .Mult (.int 64) (.int lo)).bind fun v1 =>(ah (List.lookup ("k" : Str) ex)).bind fun v2 =>(aj "len" [.bytes ks]).bind fun v3 =>(ap .Lt v2 v3).bind fun b4 =>cond b4 ((ah (List.lookup ("k" : Str) ex)).bind fun v5 =>(al (.bytes ks) v5).bind fun v6 =>(ag .Sub v6 (.int 128)).bind fun v7 =>(ag .Add v1 v7).bind fun v8 =>(ag .Mult (.int 64) (.int hi)).bind fun v9 =>(ah (List.lookup ("k" : Str) ex)).bind fun v10 =>(aj "len" [.bytes ks]).bind fun v11 =>(ap .Lt v10 v11).bind fun b12 =>cond b12 ((ah (List.lookup ("k" : Str) ex)).bind fun v13 =>(al (.bytes ks) v13).bind fun v14 =>(ag .Sub v14 (.int 128)).bind fun v15 =>(ag .Add v9 v15).bind fun v16 =>some (.next (("part",.val (.bytes ks)) :: ("lead",.val (.int b)) :: ("many",.val (.int m)) :: ("size",.val q1) :: ("first",.val q2) :: ("low",.val v8) :: ("high",.val v16) :: ex))) ((ag .Add v9 (.int 63)).bind fun v17 =>some (.next (("part",.val (.bytes ks)) :: ("lead",.val (.int b)) :: ("many",.val (.int m)) :: ("size",.val q1) :: ("first",.val q2) :: ("low",.val v8) :: ("high",.val v17) :: ex)))) ((ag .Add v1 (.int 0)).bind fun v18 =>(ag .Mult (.int 64) (.int hi)).bind fun v19 =>(ah (List.lookup ("k" : Str) ex)).bind fun v20 =>(aj "len" [.bytes ks]).bind fun v21 =>(ap .Lt v20 v21).bind fun b22 =>cond b22 ((ah (List.lookup ("k" : Str) ex)).bind fun v23 =>(al (.bytes ks) v23).bind fun v24 =>(ag .Sub v24 (.int 128)).bind fun v25 =>(ag .Add v19 v25).bind fun v26 =>some (.next (("part",.val (.bytes ks)) :: ("lead",.val (.int b)) :: ("many",.val (.int m)) :: ("size",.val q1) :: ("first",.val q2) :: ("low",.val v18) :: ("high",.val v26) :: ex))) ((ag .Add v19 (.int 63)).bind fun v27 =>some (.next (("part",.val (.bytes ks)) :: ("lead",.val (.int b)) :: ("many",.val (.int m)) :: ("size",.val q1) :: ("first",.val q2) :: ("low",.val v18) :: ("high",.val v27) :: ex))))) P) : Out (exs 33 (wt (af tab k)) R54.sc R54.mu (blk R54.body [5]) (("part",.val (.bytes ks)) :: ("lead",.val (.int b)) :: ("many",.val (.int m)) :: ("size",.val q1) :: ("first",.val q2) :: ("low",.val (.int lo)) :: ("high",.val (.int hi)) :: ex)) P:=aU (by kernel_rfl) h
theorem sha_is_begun2 {k : Nat} {ks : List Int} {b m lo hi : Int} {q1 q2 : V} {ex : Gam} {v : Option (V)} (h : (let G:=af tab k; (dictV [2,3,4] [.list [.tup [.int 128,.int 2047]],.list [.tup [.int 2048,.int 55295],.tup [.int 57344,.int 65535]],.list [.tup [.int 65536,.int 1114111]]] (.int m)).bind fun v1 =>(ah (List.lookup ("some" : Str) (thaw (ae "some" (AV.val v1) ex)))).bind fun v2 =>(ao v2).bind fun xs3 =>if xs3.length ≤ lid then (aR (fun x4 =>(subC (dQ (List.lookup ("one" : Str) (ae "one" (AV.val x4) (thaw (ae "some" (AV.val v1) ex))))) (.int 1) (fun z =>(ap .LtE (.int lo) z).bind fun b5 =>cond b5 ((subC (dQ (List.lookup ("one" : Str) (ae "one" (AV.val x4) (thaw (ae "some" (AV.val v1) ex))))) (.int 0) (fun z =>(ap .GtE (.int hi) z).bind fun b6 =>cond b6 ((ah (List.lookup ("one" : Str) (ae "one" (AV.val x4) (thaw (ae "some" (AV.val v1) ex))))).bind fun v7 =>some (some v7)) (some Option.none)) ((ah (List.lookup ("one" : Str) (ae "one" (AV.val x4) (thaw (ae "some" (AV.val v1) ex))))).bind fun v8 =>(al v8 (.int 0)).bind fun v9 =>(ap .GtE (.int hi) v9).bind fun b10 =>cond b10 ((ah (List.lookup ("one" : Str) (ae "one" (AV.val x4) (thaw (ae "some" (AV.val v1) ex))))).bind fun v11 =>some (some v11)) (some Option.none)))) (some Option.none)) ((ah (List.lookup ("one" : Str) (ae "one" (AV.val x4) (thaw (ae "some" (AV.val v1) ex))))).bind fun v12 =>(al v12 (.int 1)).bind fun v13 =>(ap .LtE (.int lo) v13).bind fun b14 =>cond b14 ((subC (dQ (List.lookup ("one" : Str) (ae "one" (AV.val x4) (thaw (ae "some" (AV.val v1) ex))))) (.int 0) (fun z =>(ap .GtE (.int hi) z).bind fun b15 =>cond b15 ((ah (List.lookup ("one" : Str) (ae "one" (AV.val x4) (thaw (ae "some" (AV.val v1) ex))))).bind fun v16 =>some (some v16)) (some Option.none)) ((ah (List.lookup ("one" : Str) (ae "one" (AV.val x4) (thaw (ae "some" (AV.val v1) ex))))).bind fun v17 =>(al v17 (.int 0)).bind fun v18 =>(ap .GtE (.int hi) v18).bind fun b19 =>cond b19 ((ah (List.lookup ("one" : Str) (ae "one" (AV.val x4) (thaw (ae "some" (AV.val v1) ex))))).bind fun v20 =>some (some v20)) (some Option.none)))) (some Option.none)))) xs3).bind fun v21 =>(ap .NotEq (.list v21) (.list [])).bind fun b22 =>some (.bool b22) else Option.none) = v) : exsK 34 (wt (af tab k)) R54.sc R54.mu (("part",.val (.bytes ks)) :: ("lead",.val (.int b)) :: ("many",.val (.int m)) :: ("size",.val q1) :: ("first",.val q2) :: ("low",.val (.int lo)) :: ("high",.val (.int hi)) :: ex) ((blk R54.body []).drop 6) ak = v:=Eq.trans (by kernel_rfl) h
theorem sh_law_code {k : Nat} {ks : List Int} {v : V} (h : (let G:=af tab k; (al (.bytes ks) (.int 0)).bind fun v1 =>(ap .Lt v1 (.int 128)).bind fun b2 =>cond b2 ((aj "len" [.bytes ks]).bind fun v3 =>(ap .NotEq v3 (.int 1)).bind fun b4 =>cond b4 (some .none) ((orO (G.fn "_law_is_begun" [.bytes ks] []) (aj "_law_is_begun" [.bytes ks])).bind fun v5 =>(V.tru v5).bind fun b6 =>cond (!b6) (some .none) (cond ((1 == 1)) ((al (.bytes ks) (.int 0)).bind fun v7 =>(ay (some (.int 1))).bind fun p8 =>(aq (.bytes ks) p8 Option.none).bind fun v9 =>(ao v9).bind fun xs10 =>(bt 35 (wt G) R55.sc R55.mu (ar (sAt (blk R55.body []) 3)) (blk R55.body [3]) xs10 [("part",.val (.bytes ks)),("many",.val (.int 1)),("number",.val v7)]).bind fun fl11 =>flC fl11 (fun g12 =>exsK 36 (wt G) R55.sc R55.mu g12 ((blk R55.body []).drop 4) ak) (fun g12 =>ak (.brk g12)) (fun w g12 =>ak (.ret w g12))) ((al (.bytes ks) (.int 0)).bind fun v13 =>(ag .Pow (.int 2) (.int (1 + 1))).bind fun v14 =>(ag .FloorDiv (.int 256) v14).bind fun v15 =>(ag .Mod v13 v15).bind fun v16 =>(ay (some (.int 1))).bind fun p17 =>(aq (.bytes ks) p17 Option.none).bind fun v18 =>(ao v18).bind fun xs19 =>(bt 35 (wt G) R55.sc R55.mu (ar (sAt (blk R55.body []) 3)) (blk R55.body [3]) xs19 [("part",.val (.bytes ks)),("many",.val (.int 1)),("number",.val v16)]).bind fun fl20 =>flC fl20 (fun g21 =>exsK 36 (wt G) R55.sc R55.mu g21 ((blk R55.body []).drop 4) ak) (fun g21 =>ak (.brk g21)) (fun w g21 =>ak (.ret w g21)))))) ((al (.bytes ks) (.int 0)).bind fun v22 =>(ap .Lt v22 (.int 224)).bind fun b23 =>cond b23 ((aj "len" [.bytes ks]).bind fun v24 =>(ap .NotEq v24 (.int 2)).bind fun b25 =>cond b25 (some .none) ((orO (G.fn "_law_is_begun" [.bytes ks] []) (aj "_law_is_begun" [.bytes ks])).bind fun v26 =>(V.tru v26).bind fun b27 =>cond (!b27) (some .none) (cond ((2 == 1)) ((al (.bytes ks) (.int 0)).bind fun v28 =>(ay (some (.int 1))).bind fun p29 =>(aq (.bytes ks) p29 Option.none).bind fun v30 =>(ao v30).bind fun xs31 =>(bt 35 (wt G) R55.sc R55.mu (ar (sAt (blk R55.body []) 3)) (blk R55.body [3]) xs31 [("part",.val (.bytes ks)),("many",.val (.int 2)),("number",.val v28)]).bind fun fl32 =>flC fl32 (fun g33 =>exsK 36 (wt G) R55.sc R55.mu g33 ((blk R55.body []).drop 4) ak) (fun g33 =>ak (.brk g33)) (fun w g33 =>ak (.ret w g33))) ((al (.bytes ks) (.int 0)).bind fun v34 =>(ag .Pow (.int 2) (.int (2 + 1))).bind fun v35 =>(ag .FloorDiv (.int 256) v35).bind fun v36 =>(ag .Mod v34 v36).bind fun v37 =>(ay (some (.int 1))).bind fun p38 =>(aq (.bytes ks) p38 Option.none).bind fun v39 =>(ao v39).bind fun xs40 =>(bt 35 (wt G) R55.sc R55.mu (ar (sAt (blk R55.body []) 3)) (blk R55.body [3]) xs40 [("part",.val (.bytes ks)),("many",.val (.int 2)),("number",.val v37)]).bind fun fl41 =>flC fl41 (fun g42 =>exsK 36 (wt G) R55.sc R55.mu g42 ((blk R55.body []).drop 4) ak) (fun g42 =>ak (.brk g42)) (fun w g42 =>ak (.ret w g42)))))) ((al (.bytes ks) (.int 0)).bind fun v43 =>(ap .Lt v43 (.int 240)).bind fun b44 =>cond b44 ((aj "len" [.bytes ks]).bind fun v45 =>(ap .NotEq v45 (.int 3)).bind fun b46 =>cond b46 (some .none) ((orO (G.fn "_law_is_begun" [.bytes ks] []) (aj "_law_is_begun" [.bytes ks])).bind fun v47 =>(V.tru v47).bind fun b48 =>cond (!b48) (some .none) (cond ((3 == 1)) ((al (.bytes ks) (.int 0)).bind fun v49 =>(ay (some (.int 1))).bind fun p50 =>(aq (.bytes ks) p50 Option.none).bind fun v51 =>(ao v51).bind fun xs52 =>(bt 35 (wt G) R55.sc R55.mu (ar (sAt (blk R55.body []) 3)) (blk R55.body [3]) xs52 [("part",.val (.bytes ks)),("many",.val (.int 3)),("number",.val v49)]).bind fun fl53 =>flC fl53 (fun g54 =>exsK 36 (wt G) R55.sc R55.mu g54 ((blk R55.body []).drop 4) ak) (fun g54 =>ak (.brk g54)) (fun w g54 =>ak (.ret w g54))) ((al (.bytes ks) (.int 0)).bind fun v55 =>(ag .Pow (.int 2) (.int (3 + 1))).bind fun v56 =>(ag .FloorDiv (.int 256) v56).bind fun v57 =>(ag .Mod v55 v57).bind fun v58 =>(ay (some (.int 1))).bind fun p59 =>(aq (.bytes ks) p59 Option.none).bind fun v60 =>(ao v60).bind fun xs61 =>(bt 35 (wt G) R55.sc R55.mu (ar (sAt (blk R55.body []) 3)) (blk R55.body [3]) xs61 [("part",.val (.bytes ks)),("many",.val (.int 3)),("number",.val v58)]).bind fun fl62 =>flC fl62 (fun g63 =>exsK 36 (wt G) R55.sc R55.mu g63 ((blk R55.body []).drop 4) ak) (fun g63 =>ak (.brk g63)) (fun w g63 =>ak (.ret w g63)))))) ((aj "len" [.bytes ks]).bind fun v64 =>(ap .NotEq v64 (.int 4)).bind fun b65 =>cond b65 (some .none) ((orO (G.fn "_law_is_begun" [.bytes ks] []) (aj "_law_is_begun" [.bytes ks])).bind fun v66 =>(V.tru v66).bind fun b67 =>cond (!b67) (some .none) (cond ((4 == 1)) ((al (.bytes ks) (.int 0)).bind fun v68 =>(ay (some (.int 1))).bind fun p69 =>(aq (.bytes ks) p69 Option.none).bind fun v70 =>(ao v70).bind fun xs71 =>(bt 35 (wt G) R55.sc R55.mu (ar (sAt (blk R55.body []) 3)) (blk R55.body [3]) xs71 [("part",.val (.bytes ks)),("many",.val (.int 4)),("number",.val v68)]).bind fun fl72 =>flC fl72 (fun g73 =>exsK 36 (wt G) R55.sc R55.mu g73 ((blk R55.body []).drop 4) ak) (fun g73 =>ak (.brk g73)) (fun w g73 =>ak (.ret w g73))) ((al (.bytes ks) (.int 0)).bind fun v74 =>(ag .Pow (.int 2) (.int (4 + 1))).bind fun v75 =>(ag .FloorDiv (.int 256) v75).bind fun v76 =>(ag .Mod v74 v76).bind fun v77 =>(ay (some (.int 1))).bind fun p78 =>(aq (.bytes ks) p78 Option.none).bind fun v79 =>(ao v79).bind fun xs80 =>(bt 35 (wt G) R55.sc R55.mu (ar (sAt (blk R55.body []) 3)) (blk R55.body [3]) xs80 [("part",.val (.bytes ks)),("many",.val (.int 4)),("number",.val v77)]).bind fun fl81 =>flC fl81 (fun g82 =>exsK 36 (wt G) R55.sc R55.mu g82 ((blk R55.body []).drop 4) ak) (fun g82 =>ak (.brk g82)) (fun w g82 =>ak (.ret w g82))))))))) = some v) : (af tab (k + 1)).fn "_law_code" [.bytes ks] [] = some v:=aX (r:=R55) (by kernel_rfl) (by kernel_rfl) h
theorem shb_law_code {k : Nat} {ks : List Int} {m c : Int} {ex : Gam} {P : Fl → Prop} (h : Out (let G:=af tab k; (ag .Mult (.int 64) (.int c)).bind fun v1 =>(ah (List.lookup ("octet" : Str) ex)).bind fun v2 =>(ag .Add v1 v2).bind fun v3 =>(ag .Sub v3 (.int 128)).bind fun v4 =>some (.next (("part",.val (.bytes ks)) :: ("many",.val (.int m)) :: ("number",.val v4) :: ex))) P) : Out (exs 35 (wt (af tab k)) R55.sc R55.mu (blk R55.body [3]) (("part",.val (.bytes ks)) :: ("many",.val (.int m)) :: ("number",.val (.int c)) :: ex)) P:=aU (by kernel_rfl) h
theorem sha_law_code {k : Nat} {ks : List Int} {m c : Int} {ex : Gam} {v : Option (V)} (h : (let G:=af tab k; some (.int c)) = v) : exsK 36 (wt (af tab k)) R55.sc R55.mu (("part",.val (.bytes ks)) :: ("many",.val (.int m)) :: ("number",.val (.int c)) :: ex) ((blk R55.body []).drop 4) ak = v:=Eq.trans (by kernel_rfl) h
theorem sh_law_cut {k : Nat} {ks : List Int} {v : V} (h : (let G:=af tab k; (bK 37 (wt G) R56.sc R56.mu (ar (sAt (blk R56.body []) 1)) (blk R56.body [1]) 65536 [("octets",.val (.bytes ks)),("found",.own []),("at",.val (.int 0))]).bind fun fl1 =>flC fl1 (fun g2 =>exsK 38 (wt G) R56.sc R56.mu g2 ((blk R56.body []).drop 2) ak) (fun g2 =>ak (.brk g2)) (fun w g2 =>ak (.ret w g2))) = some v) : (af tab (k + 1)).fn "_law_cut" [.bytes ks] [] = some v:=aX (r:=R56) (by kernel_rfl) (by kernel_rfl) h
theorem sht_law_cut {k : Nat} {ks : List Int} {fs : List V} {i : Int} {ex : Gam} {v : Bool} (h : (let G:=af tab k; (aj "len" [.bytes ks]).bind fun v1 =>(ap .Lt (.int i) v1).bind fun b2 =>some b2) = some v) : evT 37 (wt (af tab k)) R56.sc (("octets",.val (.bytes ks)) :: ("found",.own fs) :: ("at",.val (.int i)) :: ex) (ar (sAt (blk R56.body []) 1)) = some v:=dW (by kernel_rfl) h
theorem shb_law_cut {k : Nat} {ks : List Int} {fs : List V} {i : Int} {ex : Gam} {P : Fl → Prop} (h : Out (let G:=af tab k; (ao (.tup [.int 2,.int 3,.int 4])).bind fun xs1 =>(bt 34 (wt G) R56.sc R56.mu (ar (sAt (blk R56.body [1]) 1)) (blk R56.body [1,1]) xs1 (("octets",.val (.bytes ks)) :: ("found",.own fs) :: ("at",.val (.int i)) :: (ae "size" (AV.val (.int 1)) ex))).bind fun fl2 =>flC fl2 (fun g3 =>exsK 35 (wt G) R56.sc R56.mu g3 ((blk R56.body [1]).drop 2) some) (fun g3 =>some (.brk g3)) (fun w g3 =>some (.ret w g3))) P) : Out (exs 37 (wt (af tab k)) R56.sc R56.mu (blk R56.body [1]) (("octets",.val (.bytes ks)) :: ("found",.own fs) :: ("at",.val (.int i)) :: ex)) P:=aU (by kernel_rfl) h
theorem sha_law_cut {k : Nat} {ks : List Int} {fs : List V} {i : Int} {ex : Gam} {v : Option (V)} (h : (let G:=af tab k; some (.list fs)) = v) : exsK 38 (wt (af tab k)) R56.sc R56.mu (("octets",.val (.bytes ks)) :: ("found",.own fs) :: ("at",.val (.int i)) :: ex) ((blk R56.body []).drop 2) ak = v:=Eq.trans (by kernel_rfl) h
theorem shb_law_cut_in {k : Nat} {ks : List Int} {fs : List V} {i : Int} {ex : Gam} {P : Fl → Prop} (h : Out (let G:=af tab k; (ah (List.lookup ("more" : Str) ex)).bind fun v1 =>(ag .Add (.int i) v1).bind fun v2 =>(aj "len" [.bytes ks]).bind fun v3 =>(ap .LtE v2 v3).bind fun b4 =>cond b4 ((ay (some (.int i))).bind fun p5 =>(ah (List.lookup ("more" : Str) ex)).bind fun v6 =>(ag .Add (.int i) v6).bind fun v7 =>(ay (some v7)).bind fun p8 =>(aq (.bytes ks) p5 p8).bind fun v9 =>(orO (G.fn "_law_is_begun" [v9] []) (aj "_law_is_begun" [v9])).bind fun v10 =>(V.tru v10).bind fun b11 =>cond b11 ((ah (List.lookup ("more" : Str) ex)).bind fun v12 =>some (.next (("octets",.val (.bytes ks)) :: ("found",.own fs) :: ("at",.val (.int i)) :: (ae "size" (AV.val v12) ex)))) (some (.next (("octets",.val (.bytes ks)) :: ("found",.own fs) :: ("at",.val (.int i)) :: ex)))) (some (.next (("octets",.val (.bytes ks)) :: ("found",.own fs) :: ("at",.val (.int i)) :: ex)))) P) : Out (exs 34 (wt (af tab k)) R56.sc R56.mu (blk R56.body [1,1]) (("octets",.val (.bytes ks)) :: ("found",.own fs) :: ("at",.val (.int i)) :: ex)) P:=aU (by kernel_rfl) h
theorem sha_law_cut_in {k : Nat} {ks : List Int} {fs : List V} {i : Int} {ex : Gam} {v : Option (Fl)} (h : (let G:=af tab k; (ay (some (.int i))).bind fun p1 =>(ah (List.lookup ("size" : Str) ex)).bind fun v2 =>(ag .Add (.int i) v2).bind fun v3 =>(ay (some v3)).bind fun p4 =>(aq (.bytes ks) p1 p4).bind fun v5 =>if fs.length < lid then (ah (List.lookup ("size" : Str) ex)).bind fun v6 =>(ag .Add (.int i) v6).bind fun v7 =>some (.next (("octets",.val (.bytes ks)) :: ("found",.own (fs ++ [v5])) :: ("at",.val v7) :: ex)) else Option.none) = v) : exsK 35 (wt (af tab k)) R56.sc R56.mu (("octets",.val (.bytes ks)) :: ("found",.own fs) :: ("at",.val (.int i)) :: ex) ((blk R56.body [1]).drop 2) some = v:=Eq.trans (by kernel_rfl) h
theorem sh_law_written {k : Nat} {x : Int} {v : V} (h : (let G:=af tab k; cond (decide (x < 128)) ((aj "bytes" [.list [.int x]]).bind fun v1 =>some v1) (cond (decide (x < 2048)) ((bM "range" [.int (2 - 1)]).bind fun xs2 =>(bt 35 (wt G) R57.sc R57.mu (ar (sAt (blk R57.body []) 3)) (blk R57.body [3]) xs2 [("code",.val (.int x)),("size",.val (.int 2)),("found",.val (.list []))]).bind fun fl3 =>flC fl3 (fun g4 =>exsK 36 (wt G) R57.sc R57.mu g4 ((blk R57.body []).drop 4) ak) (fun g4 =>ak (.brk g4)) (fun w g4 =>ak (.ret w g4))) (cond (decide (x < 65536)) ((bM "range" [.int (3 - 1)]).bind fun xs5 =>(bt 35 (wt G) R57.sc R57.mu (ar (sAt (blk R57.body []) 3)) (blk R57.body [3]) xs5 [("code",.val (.int x)),("size",.val (.int 3)),("found",.val (.list []))]).bind fun fl6 =>flC fl6 (fun g7 =>exsK 36 (wt G) R57.sc R57.mu g7 ((blk R57.body []).drop 4) ak) (fun g7 =>ak (.brk g7)) (fun w g7 =>ak (.ret w g7))) ((bM "range" [.int (4 - 1)]).bind fun xs8 =>(bt 35 (wt G) R57.sc R57.mu (ar (sAt (blk R57.body []) 3)) (blk R57.body [3]) xs8 [("code",.val (.int x)),("size",.val (.int 4)),("found",.val (.list []))]).bind fun fl9 =>flC fl9 (fun g10 =>exsK 36 (wt G) R57.sc R57.mu g10 ((blk R57.body []).drop 4) ak) (fun g10 =>ak (.brk g10)) (fun w g10 =>ak (.ret w g10)))))) = some v) : (af tab (k + 1)).fn "_law_written" [.int x] [] = some v:=aX (r:=R57) (by kernel_rfl) (by kernel_rfl) h
theorem shb_law_written {k : Nat} {x s : Int} {fs : List V} {ex : Gam} {P : Fl → Prop} (h : Out (let G:=af tab k; (ag .Mod (.int x) (.int 64)).bind fun v1 =>(ag .Add (.int 128) v1).bind fun v2 =>(ag .Add (.list [v2]) (.list fs)).bind fun v3 =>(ag .FloorDiv (.int x) (.int 64)).bind fun v4 =>some (.next (("code",.val v4) :: ("size",.val (.int s)) :: ("found",.val v3) :: ex))) P) : Out (exs 35 (wt (af tab k)) R57.sc R57.mu (blk R57.body [3]) (("code",.val (.int x)) :: ("size",.val (.int s)) :: ("found",.val (.list fs)) :: ex)) P:=aU (by kernel_rfl) h
theorem sha_law_written {k : Nat} {x s : Int} {fs : List V} {ex : Gam} {v : Option (V)} (h : (let G:=af tab k; (dictV [2,3,4] [.int 192,.int 224,.int 240] (.int s)).bind fun v1 =>(ag .Add v1 (.int x)).bind fun v2 =>(ag .Add (.list [v2]) (.list fs)).bind fun v3 =>(aj "bytes" [v3]).bind fun v4 =>some v4) = v) : exsK 36 (wt (af tab k)) R57.sc R57.mu (("code",.val (.int x)) :: ("size",.val (.int s)) :: ("found",.val (.list fs)) :: ex) ((blk R57.body []).drop 4) ak = v:=Eq.trans (by kernel_rfl) h
theorem sh_law_codes {k : Nat} {ks : List Int} {last : Bool} {v : V} (h : (let G:=af tab k; (orO (G.fn "_law_cut" [.bytes ks] []) (aj "_law_cut" [.bytes ks])).bind fun v1 =>cond (!last) ((ap .NotEq v1 (.list [])).bind fun b2 =>cond b2 ((al v1 (.int (-1))).bind fun v3 =>(orO (G.fn "_law_code" [v3] []) (aj "_law_code" [v3])).bind fun v4 =>cond (aw v4) ((al v1 (.int (-1))).bind fun v5 =>(orO (G.fn "_law_is_begun" [v5] []) (aj "_law_is_begun" [v5])).bind fun v6 =>(V.tru v6).bind fun b7 =>cond b7 ((ay (some (.int (-1)))).bind fun p8 =>(aq v1 Option.none p8).bind fun v9 =>(ao v9).bind fun xs10 =>if xs10.length ≤ lid then (aR (fun x11 =>(orO (G.fn "_law_code" [x11] []) (aj "_law_code" [x11])).bind fun v12 =>some (some v12)) xs10).bind fun v13 =>(ao (.list v13)).bind fun xs14 =>if xs14.length ≤ lid then (aR (fun x15 =>cond (!aw x15) (some (some x15)) (some (some (V.int 65533)))) xs14).bind fun v16 =>some (.list v16) else Option.none else Option.none) ((ao v1).bind fun xs17 =>if xs17.length ≤ lid then (aR (fun x18 =>(orO (G.fn "_law_code" [x18] []) (aj "_law_code" [x18])).bind fun v19 =>some (some v19)) xs17).bind fun v20 =>(ao (.list v20)).bind fun xs21 =>if xs21.length ≤ lid then (aR (fun x22 =>cond (!aw x22) (some (some x22)) (some (some (V.int 65533)))) xs21).bind fun v23 =>some (.list v23) else Option.none else Option.none)) ((ao v1).bind fun xs24 =>if xs24.length ≤ lid then (aR (fun x25 =>(orO (G.fn "_law_code" [x25] []) (aj "_law_code" [x25])).bind fun v26 =>some (some v26)) xs24).bind fun v27 =>(ao (.list v27)).bind fun xs28 =>if xs28.length ≤ lid then (aR (fun x29 =>cond (!aw x29) (some (some x29)) (some (some (V.int 65533)))) xs28).bind fun v30 =>some (.list v30) else Option.none else Option.none)) ((ao v1).bind fun xs31 =>if xs31.length ≤ lid then (aR (fun x32 =>(orO (G.fn "_law_code" [x32] []) (aj "_law_code" [x32])).bind fun v33 =>some (some v33)) xs31).bind fun v34 =>(ao (.list v34)).bind fun xs35 =>if xs35.length ≤ lid then (aR (fun x36 =>cond (!aw x36) (some (some x36)) (some (some (V.int 65533)))) xs35).bind fun v37 =>some (.list v37) else Option.none else Option.none)) ((ao v1).bind fun xs38 =>if xs38.length ≤ lid then (aR (fun x39 =>(orO (G.fn "_law_code" [x39] []) (aj "_law_code" [x39])).bind fun v40 =>some (some v40)) xs38).bind fun v41 =>(ao (.list v41)).bind fun xs42 =>if xs42.length ≤ lid then (aR (fun x43 =>cond (!aw x43) (some (some x43)) (some (some (V.int 65533)))) xs42).bind fun v44 =>some (.list v44) else Option.none else Option.none)) = some v) : (af tab (k + 1)).fn "_law_codes" [.bytes ks,.bool last] [] = some v:=aX (r:=R58) (by kernel_rfl) (by kernel_rfl) h
theorem sh_law_halves {k : Nat} {ks : List Int} {v : V} (h : (let G:=af tab k; (aj "len" [.bytes ks]).bind fun v1 =>(ag .Sub v1 (.int 1)).bind fun v2 =>(bM "range" [.int 0,v2,.int 2]).bind fun xs3 =>if xs3.length ≤ lid then (aR (fun x4 =>(al (.bytes ks) x4).bind fun v5 =>(ag .Mult (.int 256) v5).bind fun v6 =>(ag .Add x4 (.int 1)).bind fun v7 =>(al (.bytes ks) v7).bind fun v8 =>(ag .Add v6 v8).bind fun v9 =>some (some v9)) xs3).bind fun v10 =>(bK 36 (wt G) R59.sc R59.mu (ar (sAt (blk R59.body []) 2)) (blk R59.body [2]) 65536 [("octets",.val (.bytes ks)),("units",.val (.list v10)),("found",.own []),("k",.val (.int 0))]).bind fun fl11 =>flC fl11 (fun g12 =>exsK 37 (wt G) R59.sc R59.mu g12 ((blk R59.body []).drop 3) ak) (fun g12 =>ak (.brk g12)) (fun w g12 =>ak (.ret w g12)) else Option.none) = some v) : (af tab (k + 1)).fn "_law_halves" [.bytes ks] [] = some v:=aX (r:=R59) (by kernel_rfl) (by kernel_rfl) h
theorem sht_law_halves {k : Nat} {ks : List Int} {us fs : List V} {i : Int} {ex : Gam} {v : Bool} (h : (let G:=af tab k; (aj "len" [.list us]).bind fun v1 =>(ap .Lt (.int i) v1).bind fun b2 =>some b2) = some v) : evT 36 (wt (af tab k)) R59.sc (("octets",.val (.bytes ks)) :: ("units",.val (.list us)) :: ("found",.own fs) :: ("k",.val (.int i)) :: ex) (ar (sAt (blk R59.body []) 2)) = some v:=dW (by kernel_rfl) h
theorem fK {k : Nat} {ks : List Int} {us fs : List V} {i : Int} {ex : Gam} {P : Fl → Prop} (h : Out (let G:=af tab k; (al (.list us) (.int i)).bind fun v1 =>(ap .LtE (.int 55296) v1).bind fun b2 =>cond b2 ((ap .Lt v1 (.int 56320)).bind fun b3 =>cond b3 ((aj "len" [.list us]).bind fun v4 =>(ap .Lt (.int (i + 1)) v4).bind fun b5 =>cond b5 ((al (.list us) (.int (i + 1))).bind fun v6 =>(ap .LtE (.int 56320) v6).bind fun b7 =>cond b7 ((ap .Lt v6 (.int 57344)).bind fun b8 =>cond b8 ((al (.list us) (.int i)).bind fun v9 =>(ag .Sub v9 (.int 55296)).bind fun v10 =>(ag .Mult (.int 1024) v10).bind fun v11 =>(ag .Add (.int 65536) v11).bind fun v12 =>(al (.list us) (.int (i + 1))).bind fun v13 =>(ag .Add v12 v13).bind fun v14 =>(ag .Sub v14 (.int 56320)).bind fun v15 =>if fs.length < lid then some (.next (("octets",.val (.bytes ks)) :: ("units",.val (.list us)) :: ("found",.own (fs ++ [v15])) :: ("k",.val (.int ((i + 1) + 1))) :: ex)) else Option.none) ((al (.list us) (.int i)).bind fun v16 =>(ap .LtE (.int 55296) v16).bind fun b17 =>cond b17 ((ap .Lt v16 (.int 57344)).bind fun b18 =>cond b18 (if fs.length < lid then some (.next (("octets",.val (.bytes ks)) :: ("units",.val (.list us)) :: ("found",.own (fs ++ [.int 65533])) :: ("k",.val (.int (i + 1))) :: ex)) else Option.none) ((al (.list us) (.int i)).bind fun v19 =>if fs.length < lid then some (.next (("octets",.val (.bytes ks)) :: ("units",.val (.list us)) :: ("found",.own (fs ++ [v19])) :: ("k",.val (.int (i + 1))) :: ex)) else Option.none)) ((al (.list us) (.int i)).bind fun v20 =>if fs.length < lid then some (.next (("octets",.val (.bytes ks)) :: ("units",.val (.list us)) :: ("found",.own (fs ++ [v20])) :: ("k",.val (.int (i + 1))) :: ex)) else Option.none))) ((al (.list us) (.int i)).bind fun v21 =>(ap .LtE (.int 55296) v21).bind fun b22 =>cond b22 ((ap .Lt v21 (.int 57344)).bind fun b23 =>cond b23 (if fs.length < lid then some (.next (("octets",.val (.bytes ks)) :: ("units",.val (.list us)) :: ("found",.own (fs ++ [.int 65533])) :: ("k",.val (.int (i + 1))) :: ex)) else Option.none) ((al (.list us) (.int i)).bind fun v24 =>if fs.length < lid then some (.next (("octets",.val (.bytes ks)) :: ("units",.val (.list us)) :: ("found",.own (fs ++ [v24])) :: ("k",.val (.int (i + 1))) :: ex)) else Option.none)) ((al (.list us) (.int i)).bind fun v25 =>if fs.length < lid then some (.next (("octets",.val (.bytes ks)) :: ("units",.val (.list us)) :: ("found",.own (fs ++ [v25])) :: ("k",.val (.int (i + 1))) :: ex)) else Option.none))) ((al (.list us) (.int i)).bind fun v26 =>(ap .LtE (.int 55296) v26).bind fun b27 =>cond b27 ((ap .Lt v26 (.int 57344)).bind fun b28 =>cond b28 (if fs.length < lid then some (.next (("octets",.val (.bytes ks)) :: ("units",.val (.list us)) :: ("found",.own (fs ++ [.int 65533])) :: ("k",.val (.int (i + 1))) :: ex)) else Option.none) ((al (.list us) (.int i)).bind fun v29 =>if fs.length < lid then some (.next (("octets",.val (.bytes ks)) :: ("units",.val (.list us)) :: ("found",.own (fs ++ [v29])) :: ("k",.val (.int (i + 1))) :: ex)) else Option.none)) ((al (.list us) (.int i)).bind fun v30 =>if fs.length < lid then some (.next (("octets",.val (.bytes ks)) :: ("units",.val (.list us)) :: ("found",.own (fs ++ [v30])) :: ("k",.val (.int (i + 1))) :: ex)) else Option.none))) ((al (.list us) (.int i)).bind fun v31 =>(ap .LtE (.int 55296) v31).bind fun b32 =>cond b32 ((ap .Lt v31 (.int 57344)).bind fun b33 =>cond b33 (if fs.length < lid then some (.next (("octets",.val (.bytes ks)) :: ("units",.val (.list us)) :: ("found",.own (fs ++ [.int 65533])) :: ("k",.val (.int (i + 1))) :: ex)) else Option.none) ((al (.list us) (.int i)).bind fun v34 =>if fs.length < lid then some (.next (("octets",.val (.bytes ks)) :: ("units",.val (.list us)) :: ("found",.own (fs ++ [v34])) :: ("k",.val (.int (i + 1))) :: ex)) else Option.none)) ((al (.list us) (.int i)).bind fun v35 =>if fs.length < lid then some (.next (("octets",.val (.bytes ks)) :: ("units",.val (.list us)) :: ("found",.own (fs ++ [v35])) :: ("k",.val (.int (i + 1))) :: ex)) else Option.none))) ((al (.list us) (.int i)).bind fun v36 =>(ap .LtE (.int 55296) v36).bind fun b37 =>cond b37 ((ap .Lt v36 (.int 57344)).bind fun b38 =>cond b38 (if fs.length < lid then some (.next (("octets",.val (.bytes ks)) :: ("units",.val (.list us)) :: ("found",.own (fs ++ [.int 65533])) :: ("k",.val (.int (i + 1))) :: ex)) else Option.none) ((al (.list us) (.int i)).bind fun v39 =>if fs.length < lid then some (.next (("octets",.val (.bytes ks)) :: ("units",.val (.list us)) :: ("found",.own (fs ++ [v39])) :: ("k",.val (.int (i + 1))) :: ex)) else Option.none)) ((al (.list us) (.int i)).bind fun v40 =>if fs.length < lid then some (.next (("octets",.val (.bytes ks)) :: ("units",.val (.list us)) :: ("found",.own (fs ++ [v40])) :: ("k",.val (.int (i + 1))) :: ex)) else Option.none))) P) : Out (exs 36 (wt (af tab k)) R59.sc R59.mu (blk R59.body [2]) (("octets",.val (.bytes ks)) :: ("units",.val (.list us)) :: ("found",.own fs) :: ("k",.val (.int i)) :: ex)) P:=aU (by kernel_rfl) h
theorem sha_law_halves {k : Nat} {ks : List Int} {us fs : List V} {i : Int} {ex : Gam} {v : Option (V)} (h : (let G:=af tab k; (aj "len" [.bytes ks]).bind fun v1 =>(ag .Mod v1 (.int 2)).bind fun v2 =>(ag .Mult (.list [.int 65533]) v2).bind fun v3 =>(ag .Add (.list fs) v3).bind fun v4 =>some v4) = v) : exsK 37 (wt (af tab k)) R59.sc R59.mu (("octets",.val (.bytes ks)) :: ("units",.val (.list us)) :: ("found",.own fs) :: ("k",.val (.int i)) :: ex) ((blk R59.body []).drop 3) ak = v:=Eq.trans (by kernel_rfl) h
theorem sh_law_units {k : Nat} {ks : List Int} {last : Bool} {v : V} (h : (let G:=af tab k; cond last ((orO (G.fn "_law_halves" [.bytes ks] []) (aj "_law_halves" [.bytes ks])).bind fun v1 =>some v1) ((aj "len" [.bytes ks]).bind fun v2 =>(ag .FloorDiv v2 (.int 2)).bind fun v3 =>(ag .Mult v3 (.int 2)).bind fun v4 =>(ay (some v4)).bind fun p5 =>(aq (.bytes ks) Option.none p5).bind fun v6 =>(ap .NotEq v6 (.bytes [])).bind fun b7 =>cond b7 ((al v6 (.int (-2))).bind fun v8 =>(ap .LtE (.int 216) v8).bind fun b9 =>cond b9 ((ap .Lt v8 (.int 220)).bind fun b10 =>cond b10 ((ay (some (.int (-2)))).bind fun p11 =>(aq v6 Option.none p11).bind fun v12 =>(orO (G.fn "_law_halves" [v12] []) (aj "_law_halves" [v12])).bind fun v13 =>some v13) ((orO (G.fn "_law_halves" [v6] []) (aj "_law_halves" [v6])).bind fun v14 =>some v14)) ((orO (G.fn "_law_halves" [v6] []) (aj "_law_halves" [v6])).bind fun v15 =>some v15)) ((orO (G.fn "_law_halves" [v6] []) (aj "_law_halves" [v6])).bind fun v16 =>some v16))) = some v) : (af tab (k + 1)).fn "_law_units" [.bytes ks,.bool last] [] = some v:=aX (r:=R60) (by kernel_rfl) (by kernel_rfl) h
theorem sh_law_wide {k : Nat} {xs : List V} {s : Int} {o : Str} {v : V} (h : (let G:=af tab k; (ao (.list xs)).bind fun xs1 =>(bt 37 (wt G) R61.sc R61.mu (ar (sAt (blk R61.body []) 1)) (blk R61.body [1]) xs1 [("text",.val (.list xs)),("size",.val (.int s)),("order",.val (.str o)),("found",.val (.bytes []))]).bind fun fl2 =>flC fl2 (fun g3 =>exsK 38 (wt G) R61.sc R61.mu g3 ((blk R61.body []).drop 2) ak) (fun g3 =>ak (.brk g3)) (fun w g3 =>ak (.ret w g3))) = some v) : (af tab (k + 1)).fn "_law_wide" [.list xs,.int s,.str o] [] = some v:=aX (r:=R61) (by kernel_rfl) (by kernel_rfl) h
theorem shb_law_wide {k : Nat} {xs : List V} {s : Int} {o : Str} {fs : List Int} {ex : Gam} {P : Fl → Prop} (h : Out (let G:=af tab k; (ah (List.lookup ("code" : Str) ex)).bind fun v1 =>cond ((s == 2)) ((ah (List.lookup ("code" : Str) (ae "units" (AV.val (.list [v1])) ex))).bind fun v2 =>(ap .Gt v2 (.int 65535)).bind fun b3 =>cond b3 ((ah (List.lookup ("code" : Str) (ae "units" (AV.val (.list [v1])) ex))).bind fun v4 =>(ag .Sub v4 (.int 65536)).bind fun v5 =>(ag .FloorDiv v5 (.int 1024)).bind fun v6 =>(ag .Add (.int 55296) v6).bind fun v7 =>(ah (List.lookup ("code" : Str) (ae "units" (AV.val (.list [v1])) ex))).bind fun v8 =>(ag .Mod v8 (.int 1024)).bind fun v9 =>(ag .Add (.int 56320) v9).bind fun v10 =>(ah (List.lookup ("units" : Str) (ae "units" (AV.val (.list [v7,v10])) (ae "units" (AV.val (.list [v1])) ex)))).bind fun v11 =>(ao v11).bind fun xs12 =>(bt 33 (wt G) R61.sc R61.mu (ar (sAt (blk R61.body [1]) 2)) (blk R61.body [1,2]) xs12 (("text",.val (.list xs)) :: ("size",.val (.int s)) :: ("order",.val (.str o)) :: ("found",.val (.bytes fs)) :: (ae "units" (AV.val (.list [v7,v10])) (ae "units" (AV.val (.list [v1])) ex)))).bind fun fl13 =>flC fl13 (fun g14 =>exsK 34 (wt G) R61.sc R61.mu g14 ((blk R61.body [1]).drop 3) some) (fun g14 =>some (.brk g14)) (fun w g14 =>some (.ret w g14))) ((ah (List.lookup ("units" : Str) (ae "units" (AV.val (.list [v1])) ex))).bind fun v15 =>(ao v15).bind fun xs16 =>(bt 33 (wt G) R61.sc R61.mu (ar (sAt (blk R61.body [1]) 2)) (blk R61.body [1,2]) xs16 (("text",.val (.list xs)) :: ("size",.val (.int s)) :: ("order",.val (.str o)) :: ("found",.val (.bytes fs)) :: (ae "units" (AV.val (.list [v1])) ex))).bind fun fl17 =>flC fl17 (fun g18 =>exsK 34 (wt G) R61.sc R61.mu g18 ((blk R61.body [1]).drop 3) some) (fun g18 =>some (.brk g18)) (fun w g18 =>some (.ret w g18)))) ((ah (List.lookup ("units" : Str) (ae "units" (AV.val (.list [v1])) ex))).bind fun v19 =>(ao v19).bind fun xs20 =>(bt 33 (wt G) R61.sc R61.mu (ar (sAt (blk R61.body [1]) 2)) (blk R61.body [1,2]) xs20 (("text",.val (.list xs)) :: ("size",.val (.int s)) :: ("order",.val (.str o)) :: ("found",.val (.bytes fs)) :: (ae "units" (AV.val (.list [v1])) ex))).bind fun fl21 =>flC fl21 (fun g22 =>exsK 34 (wt G) R61.sc R61.mu g22 ((blk R61.body [1]).drop 3) some) (fun g22 =>some (.brk g22)) (fun w g22 =>some (.ret w g22)))) P) : Out (exs 37 (wt (af tab k)) R61.sc R61.mu (blk R61.body [1]) (("text",.val (.list xs)) :: ("size",.val (.int s)) :: ("order",.val (.str o)) :: ("found",.val (.bytes fs)) :: ex)) P:=aU (by kernel_rfl) h
theorem sha_law_wide {k : Nat} {xs : List V} {s : Int} {o : Str} {fs : List Int} {ex : Gam} {v : Option (V)} (h : (let G:=af tab k; some (.bytes fs)) = v) : exsK 38 (wt (af tab k)) R61.sc R61.mu (("text",.val (.list xs)) :: ("size",.val (.int s)) :: ("order",.val (.str o)) :: ("found",.val (.bytes fs)) :: ex) ((blk R61.body []).drop 2) ak = v:=Eq.trans (by kernel_rfl) h
theorem shb_law_wide_in {k : Nat} {xs : List V} {s : Int} {o : Str} {fs : List Int} {ex : Gam} {P : Fl → Prop} (h : Out (let G:=af tab k; (ah (List.lookup ("unit" : Str) ex)).bind fun v1 =>(ag .FloorDiv v1 (.int 16777216)).bind fun v2 =>(ah (List.lookup ("unit" : Str) ex)).bind fun v3 =>(ag .FloorDiv v3 (.int 65536)).bind fun v4 =>(ag .Mod v4 (.int 256)).bind fun v5 =>(ah (List.lookup ("unit" : Str) ex)).bind fun v6 =>(ag .FloorDiv v6 (.int 256)).bind fun v7 =>(ag .Mod v7 (.int 256)).bind fun v8 =>(ah (List.lookup ("unit" : Str) ex)).bind fun v9 =>(ag .Mod v9 (.int 256)).bind fun v10 =>(aj "bytes" [.list [v2,v5,v8,v10]]).bind fun v11 =>(ay (some (.int (4 - s)))).bind fun p12 =>(aq v11 p12 Option.none).bind fun v13 =>cond (o == ("be" : Str)) ((ah (List.lookup ("octets" : Str) (ae "octets" (AV.val v13) ex))).bind fun v14 =>(ag .Add (.bytes fs) v14).bind fun v15 =>some (.next (("text",.val (.list xs)) :: ("size",.val (.int s)) :: ("order",.val (.str o)) :: ("found",.val v15) :: (ae "octets" (AV.val v13) ex)))) (((ah (List.lookup ("octets" : Str) (ae "octets" (AV.val v13) ex))).bind revV).bind fun v16 =>(ag .Add (.bytes fs) v16).bind fun v17 =>some (.next (("text",.val (.list xs)) :: ("size",.val (.int s)) :: ("order",.val (.str o)) :: ("found",.val v17) :: (ae "octets" (AV.val v13) ex))))) P) : Out (exs 33 (wt (af tab k)) R61.sc R61.mu (blk R61.body [1,2]) (("text",.val (.list xs)) :: ("size",.val (.int s)) :: ("order",.val (.str o)) :: ("found",.val (.bytes fs)) :: ex)) P:=aU (by kernel_rfl) h
theorem sha_law_wide_in {k : Nat} {xs : List V} {s : Int} {o : Str} {fs : List Int} {ex : Gam} {v : Option (Fl)} (h : (let G:=af tab k; some (.next (("text",.val (.list xs)) :: ("size",.val (.int s)) :: ("order",.val (.str o)) :: ("found",.val (.bytes fs)) :: ex))) = v) : exsK 34 (wt (af tab k)) R61.sc R61.mu (("text",.val (.list xs)) :: ("size",.val (.int s)) :: ("order",.val (.str o)) :: ("found",.val (.bytes fs)) :: ex) ((blk R61.body [1]).drop 3) some = v:=Eq.trans (by kernel_rfl) h
theorem sh_law_pieces {k : Nat} {ks : List Int} {xs : List V} {v : V} (h : (let G:=af tab k; (ao (.list xs)).bind fun xs1 =>if xs1.length ≤ lid then (aR (fun x2 =>(aj "len" [.bytes ks]).bind fun v3 =>(ag .Add v3 (.int 1)).bind fun v4 =>(ag .Mod x2 v4).bind fun v5 =>some (some v5)) xs1).bind fun v6 =>(aj "sorted" [.list v6]).bind fun v7 =>(ag .Add (.list [.int 0]) v7).bind fun v8 =>(aj "len" [.bytes ks]).bind fun v9 =>(ag .Add v8 (.list [v9])).bind fun v10 =>(aj "len" [v10]).bind fun v11 =>(ag .Sub v11 (.int 1)).bind fun v12 =>(bM "range" [v12]).bind fun xs13 =>if xs13.length ≤ lid then (aR (fun x14 =>(al v10 x14).bind fun v15 =>(ay (some v15)).bind fun p16 =>(ag .Add x14 (.int 1)).bind fun v17 =>(al v10 v17).bind fun v18 =>(ay (some v18)).bind fun p19 =>(aq (.bytes ks) p16 p19).bind fun v20 =>some (some v20)) xs13).bind fun v21 =>some (.list v21) else Option.none else Option.none) = some v) : (af tab (k + 1)).fn "_law_pieces" [.bytes ks,.list xs] [] = some v:=aX (r:=R62) (by kernel_rfl) (by kernel_rfl) h
theorem sh_law_streams_right {k : Nat} {ks : List Int} {xs : List V} {v : V} (h : (let G:=af tab k; (clsC (G.cls "Utf8Stream" []) (fun fl1 =>(clsC (G.cls "Utf16Stream" [.str "be",.bool false]) (fun fl2 =>(orO (G.fn "_law_pieces" [.bytes ks,.list xs] []) (aj "_law_pieces" [.bytes ks,.list xs])).bind fun v3 =>((aW v3).bind fun zz =>if zz.length ≤ lid then bt 36 (wt G) R63.sc R63.mu (ar (sAt (blk R63.body []) 2)) (blk R63.body [2]) (dD 0 zz) [("octets",.val (.bytes ks)),("ends",.val (.list xs)),("near",.inst "Utf8Stream" fl1),("far",.inst "Utf16Stream" fl2),("told",.val (.list [])),("units",.val (.list [])),("came",.val (.bytes [])),("lots",.val v3)] else Option.none).bind fun fl4 =>flC fl4 (fun g5 =>exsK 37 (wt G) R63.sc R63.mu g5 ((blk R63.body []).drop 3) ak) (fun g5 =>ak (.brk g5)) (fun w g5 =>ak (.ret w g5))) (Option.none))) (Option.none))) = some v) : (af tab (k + 1)).fn "_law_streams_right" [.bytes ks,.list xs] [] = some v:=aX (r:=R63) (by kernel_rfl) (by kernel_rfl) h
theorem shb_streams {k : Nat} {ks c : List Int} {xs ts us ls : List V} {f1 f2 : List (Str × V)} {ex : Gam} {P : Fl → Prop} (h : Out (let G:=af tab k; (ah (List.lookup ("piece" : Str) ex)).bind fun v1 =>(ag .Add (.bytes c) v1).bind fun v2 =>(ah (List.lookup ("k" : Str) ex)).bind fun v3 =>(aj "len" [.list ls]).bind fun v4 =>(ag .Sub v4 (.int 1)).bind fun v5 =>(ap .Eq v3 v5).bind fun b6 =>(ah (List.lookup ("piece" : Str) (ae "is_last" (AV.val (.bool b6)) ex))).bind fun v7 =>(ah (List.lookup ("is_last" : Str) (ae "is_last" (AV.val (.bool b6)) ex))).bind fun v8 =>if (List.lookup ("feed" : Str) f1).isNone = true then (G.mth "Utf8Stream" "feed" f1 [v7,v8]).bind fun r1284 =>(aW r1284.1).bind fun zs1285 =>if ts.length + zs1285.length ≤ lid then (ah (List.lookup ("piece" : Str) (ae "is_last" (AV.val (.bool b6)) ex))).bind fun v9 =>(ah (List.lookup ("is_last" : Str) (ae "is_last" (AV.val (.bool b6)) ex))).bind fun v10 =>if (List.lookup ("feed" : Str) f2).isNone = true then (G.mth "Utf16Stream" "feed" f2 [v9,v10]).bind fun r1288 =>(aW r1288.1).bind fun zs1289 =>if us.length + zs1289.length ≤ lid then (ah (List.lookup ("is_last" : Str) (ae "is_last" (AV.val (.bool b6)) ex))).bind fun v11 =>(orO (G.fn "_law_codes" [v2,v11] []) (aj "_law_codes" [v2,v11])).bind fun v12 =>(ap .NotEq (.list (ts ++ zs1285)) v12).bind fun b13 =>cond b13 (some (.ret (V.bool false) (("octets",.val (.bytes ks)) :: ("ends",.val (.list xs)) :: ("near",.inst "Utf8Stream" r1284.2) :: ("far",.inst "Utf16Stream" r1288.2) :: ("told",.val (.list (ts ++ zs1285))) :: ("units",.val (.list (us ++ zs1289))) :: ("came",.val v2) :: ("lots",.val (.list ls)) :: (thaw (ae "is_last" (AV.val (.bool b6)) ex))))) ((ah (List.lookup ("is_last" : Str) (ae "is_last" (AV.val (.bool b6)) ex))).bind fun v14 =>(orO (G.fn "_law_units" [v2,v14] []) (aj "_law_units" [v2,v14])).bind fun v15 =>(ap .NotEq (.list (us ++ zs1289)) v15).bind fun b16 =>cond b16 (some (.ret (V.bool false) (("octets",.val (.bytes ks)) :: ("ends",.val (.list xs)) :: ("near",.inst "Utf8Stream" r1284.2) :: ("far",.inst "Utf16Stream" r1288.2) :: ("told",.val (.list (ts ++ zs1285))) :: ("units",.val (.list (us ++ zs1289))) :: ("came",.val v2) :: ("lots",.val (.list ls)) :: (thaw (ae "is_last" (AV.val (.bool b6)) ex))))) (some (.next (("octets",.val (.bytes ks)) :: ("ends",.val (.list xs)) :: ("near",.inst "Utf8Stream" r1284.2) :: ("far",.inst "Utf16Stream" r1288.2) :: ("told",.val (.list (ts ++ zs1285))) :: ("units",.val (.list (us ++ zs1289))) :: ("came",.val v2) :: ("lots",.val (.list ls)) :: (ae "is_last" (AV.val (.bool b6)) ex))))) else Option.none else Option.none else Option.none else Option.none) P) : Out (exs 36 (wt (af tab k)) R63.sc R63.mu (blk R63.body [2]) (("octets",.val (.bytes ks)) :: ("ends",.val (.list xs)) :: ("near",.inst "Utf8Stream" f1) :: ("far",.inst "Utf16Stream" f2) :: ("told",.val (.list ts)) :: ("units",.val (.list us)) :: ("came",.val (.bytes c)) :: ("lots",.val (.list ls)) :: ex)) P:=aU (by kernel_rfl) h
theorem sha_streams {k : Nat} {ks c : List Int} {xs ts us ls : List V} {f1 f2 : List (Str × V)} {ex : Gam} {v : Option (V)} (h : (let G:=af tab k; (orO (G.fn "decode_utf8_replaced" [.bytes ks] []) (aj "decode_utf8_replaced" [.bytes ks])).bind fun v1 =>(aj "list" [v1]).bind fun v2 =>(ap .NotEq v2 (.list ts)).bind fun b3 =>cond b3 (some (.bool false)) ((orO (G.fn "decode_utf16_replaced" [.bytes ks,.str "be"] []) (aj "decode_utf16_replaced" [.bytes ks,.str "be"])).bind fun v4 =>(aj "list" [v4]).bind fun v5 =>(ap .Eq v5 (.list us)).bind fun b6 =>some (.bool b6))) = v) : exsK 37 (wt (af tab k)) R63.sc R63.mu (("octets",.val (.bytes ks)) :: ("ends",.val (.list xs)) :: ("near",.inst "Utf8Stream" f1) :: ("far",.inst "Utf16Stream" f2) :: ("told",.val (.list ts)) :: ("units",.val (.list us)) :: ("came",.val (.bytes c)) :: ("lots",.val (.list ls)) :: ex) ((blk R63.body []).drop 3) ak = v:=Eq.trans (by kernel_rfl) h
theorem sh_law_round_right {k : Nat} {xs es : List V} {o : Str} {v : V} (h : (let G:=af tab k; (orO (G.fn "encode_utf8" [.list xs] []) (aj "encode_utf8" [.list xs])).bind fun v1 =>(ao (.list xs)).bind fun xs2 =>if xs2.length ≤ lid then (aR (fun x3 =>(orO (G.fn "_law_written" [x3] []) (aj "_law_written" [x3])).bind fun v4 =>some (some v4)) xs2).bind fun v5 =>((aW (.list v5)).bind joinV).bind fun v6 =>(ap .NotEq v1 v6).bind fun b7 =>cond b7 (some (.bool false)) ((orO (G.fn "decode_utf8" [v1] []) (aj "decode_utf8" [v1])).bind fun v8 =>(aj "list" [v8]).bind fun v9 =>(ap .NotEq v9 (.list xs)).bind fun b10 =>cond b10 (some (.bool false)) ((orO (G.fn "encode_utf16" [.list xs,.str o] []) (aj "encode_utf16" [.list xs,.str o])).bind fun v11 =>(orO (G.fn "_law_wide" [.list xs,.int 2,.str o] []) (aj "_law_wide" [.list xs,.int 2,.str o])).bind fun v12 =>(ap .NotEq v11 v12).bind fun b13 =>cond b13 (some (.bool false)) ((orO (G.fn "encode_utf32" [.list xs,.str o] []) (aj "encode_utf32" [.list xs,.str o])).bind fun v14 =>(orO (G.fn "_law_wide" [.list xs,.int 4,.str o] []) (aj "_law_wide" [.list xs,.int 4,.str o])).bind fun v15 =>(ap .NotEq v14 v15).bind fun b16 =>cond b16 (some (.bool false)) ((orO (G.fn "encode_utf16" [.list xs,.str o] [("with_mark",.bool true)]) Option.none).bind fun v17 =>(clsC (G.cls "Utf16Stream" []) (fun fl18 =>(orO (G.fn "_law_pieces" [v17,.list es] []) (aj "_law_pieces" [v17,.list es])).bind fun v19 =>((aW v19).bind fun zz =>if zz.length ≤ lid then bt 33 (wt G) R64.sc R64.mu (ar (sAt (blk R64.body []) 5)) (blk R64.body [5]) (dD 0 zz) [("text",.val (.list xs)),("order",.val (.str o)),("ends",.val (.list es)),("octets",.val v1),("there",.val v17),("home",.val (.list [])),("stream",.inst "Utf16Stream" fl18),("lots",.val v19)] else Option.none).bind fun fl20 =>flC fl20 (fun g21 =>exsK 34 (wt G) R64.sc R64.mu g21 ((blk R64.body []).drop 6) ak) (fun g21 =>ak (.brk g21)) (fun w g21 =>ak (.ret w g21))) (Option.none)))))) else Option.none) = some v) : (af tab (k + 1)).fn "_law_round_right" [.list xs,.str o,.list es] [] = some v:=aX (r:=R64) (by kernel_rfl) (by kernel_rfl) h
theorem shb_round {k : Nat} {ks t : List Int} {xs es hs ls : List V} {o : Str} {f1 : List (Str × V)} {ex : Gam} {P : Fl → Prop} (h : Out (let G:=af tab k; (ah (List.lookup ("piece" : Str) ex)).bind fun v1 =>(ah (List.lookup ("k" : Str) ex)).bind fun v2 =>(aj "len" [.list ls]).bind fun v3 =>(ag .Sub v3 (.int 1)).bind fun v4 =>(ap .Eq v2 v4).bind fun b5 =>if (List.lookup ("feed" : Str) f1).isNone = true then (G.mth "Utf16Stream" "feed" f1 [v1,.bool b5]).bind fun r1377 =>(aW r1377.1).bind fun zs1378 =>if hs.length + zs1378.length ≤ lid then some (.next (("text",.val (.list xs)) :: ("order",.val (.str o)) :: ("ends",.val (.list es)) :: ("octets",.val (.bytes ks)) :: ("there",.val (.bytes t)) :: ("home",.val (.list (hs ++ zs1378))) :: ("stream",.inst "Utf16Stream" r1377.2) :: ("lots",.val (.list ls)) :: ex)) else Option.none else Option.none) P) : Out (exs 33 (wt (af tab k)) R64.sc R64.mu (blk R64.body [5]) (("text",.val (.list xs)) :: ("order",.val (.str o)) :: ("ends",.val (.list es)) :: ("octets",.val (.bytes ks)) :: ("there",.val (.bytes t)) :: ("home",.val (.list hs)) :: ("stream",.inst "Utf16Stream" f1) :: ("lots",.val (.list ls)) :: ex)) P:=aU (by kernel_rfl) h
theorem sha_round {k : Nat} {ks t : List Int} {xs es hs ls : List V} {o : Str} {f1 : List (Str × V)} {ex : Gam} {v : Option (V)} (h : (let G:=af tab k; (ap .NotEq (.list hs) (.list xs)).bind fun b1 =>cond b1 (some (.bool false)) ((orO (G.fn "encode_utf32" [.list xs,.str o] []) (aj "encode_utf32" [.list xs,.str o])).bind fun v2 =>(orO (G.fn "decode_utf32" [v2,.str o] []) (aj "decode_utf32" [v2,.str o])).bind fun v3 =>(aj "list" [v3]).bind fun v4 =>(ap .NotEq v4 (.list xs)).bind fun b5 =>cond b5 (some (.bool false)) (cond (o == ("le" : Str)) ((ay (some (.int 1))).bind fun p6 =>(aq (.list xs) Option.none p6).bind fun v7 =>(ap .Eq v7 (.list [.int 0])).bind fun b8 =>cond b8 ((ag .Add (.bytes [239,187,191]) (.bytes ks)).bind fun v9 =>(orO (G.fn "sniffed" [.bytes t] []) (aj "sniffed" [.bytes t])).bind fun v10 =>(ah (List.lookup ("marked" : Str) (ae "marked" (AV.val v9) (ae "word" (AV.val (.str "utf-32le")) ex)))).bind fun v11 =>(orO (G.fn "sniffed" [v11] []) (aj "sniffed" [v11])).bind fun v12 =>(orO (G.fn "encode_utf32" [.list xs,.str o] [("with_mark",.bool true)]) Option.none).bind fun v13 =>(orO (G.fn "sniffed" [v13] []) (aj "sniffed" [v13])).bind fun v14 =>(ah (List.lookup ("word" : Str) (ae "marked" (AV.val v9) (ae "word" (AV.val (.str "utf-32le")) ex)))).bind fun v15 =>(ag .Add (.str "utf-32") (.str o)).bind fun v16 =>(ap .NotEq (.list [v10,v12,v14]) (.list [v15,.str "utf-8",v16])).bind fun b17 =>cond b17 (some (.bool false)) ((ah (List.lookup ("marked" : Str) (thaw (ae "marked" (AV.val v9) (ae "word" (AV.val (.str "utf-32le")) ex))))).bind fun v18 =>(orO (G.fn "unmarked" [v18] []) (aj "unmarked" [v18])).bind fun v19 =>(aj "tuple" [v19]).bind fun v20 =>(ap .Eq v20 (.tup [.str "utf-8",.bytes ks])).bind fun b21 =>some (.bool b21))) ((ag .Add (.str "utf-16") (.str o)).bind fun v22 =>(ag .Add (.bytes [239,187,191]) (.bytes ks)).bind fun v23 =>(orO (G.fn "sniffed" [.bytes t] []) (aj "sniffed" [.bytes t])).bind fun v24 =>(ah (List.lookup ("marked" : Str) (ae "marked" (AV.val v23) (ae "word" (AV.val v22) ex)))).bind fun v25 =>(orO (G.fn "sniffed" [v25] []) (aj "sniffed" [v25])).bind fun v26 =>(orO (G.fn "encode_utf32" [.list xs,.str o] [("with_mark",.bool true)]) Option.none).bind fun v27 =>(orO (G.fn "sniffed" [v27] []) (aj "sniffed" [v27])).bind fun v28 =>(ah (List.lookup ("word" : Str) (ae "marked" (AV.val v23) (ae "word" (AV.val v22) ex)))).bind fun v29 =>(ag .Add (.str "utf-32") (.str o)).bind fun v30 =>(ap .NotEq (.list [v24,v26,v28]) (.list [v29,.str "utf-8",v30])).bind fun b31 =>cond b31 (some (.bool false)) ((ah (List.lookup ("marked" : Str) (thaw (ae "marked" (AV.val v23) (ae "word" (AV.val v22) ex))))).bind fun v32 =>(orO (G.fn "unmarked" [v32] []) (aj "unmarked" [v32])).bind fun v33 =>(aj "tuple" [v33]).bind fun v34 =>(ap .Eq v34 (.tup [.str "utf-8",.bytes ks])).bind fun b35 =>some (.bool b35)))) ((ag .Add (.str "utf-16") (.str o)).bind fun v36 =>(ag .Add (.bytes [239,187,191]) (.bytes ks)).bind fun v37 =>(orO (G.fn "sniffed" [.bytes t] []) (aj "sniffed" [.bytes t])).bind fun v38 =>(ah (List.lookup ("marked" : Str) (ae "marked" (AV.val v37) (ae "word" (AV.val v36) ex)))).bind fun v39 =>(orO (G.fn "sniffed" [v39] []) (aj "sniffed" [v39])).bind fun v40 =>(orO (G.fn "encode_utf32" [.list xs,.str o] [("with_mark",.bool true)]) Option.none).bind fun v41 =>(orO (G.fn "sniffed" [v41] []) (aj "sniffed" [v41])).bind fun v42 =>(ah (List.lookup ("word" : Str) (ae "marked" (AV.val v37) (ae "word" (AV.val v36) ex)))).bind fun v43 =>(ag .Add (.str "utf-32") (.str o)).bind fun v44 =>(ap .NotEq (.list [v38,v40,v42]) (.list [v43,.str "utf-8",v44])).bind fun b45 =>cond b45 (some (.bool false)) ((ah (List.lookup ("marked" : Str) (thaw (ae "marked" (AV.val v37) (ae "word" (AV.val v36) ex))))).bind fun v46 =>(orO (G.fn "unmarked" [v46] []) (aj "unmarked" [v46])).bind fun v47 =>(aj "tuple" [v47]).bind fun v48 =>(ap .Eq v48 (.tup [.str "utf-8",.bytes ks])).bind fun b49 =>some (.bool b49)))))) = v) : exsK 34 (wt (af tab k)) R64.sc R64.mu (("text",.val (.list xs)) :: ("order",.val (.str o)) :: ("ends",.val (.list es)) :: ("octets",.val (.bytes ks)) :: ("there",.val (.bytes t)) :: ("home",.val (.list hs)) :: ("stream",.inst "Utf16Stream" f1) :: ("lots",.val (.list ls)) :: ex) ((blk R64.body []).drop 6) ak = v:=Eq.trans (by kernel_rfl) h
theorem sh_law {k : Nat} {xs : List V} {v : V} (h : (let G:=af tab k; (ay (some (.int 11))).bind fun p1 =>(aq (.list xs) Option.none p1).bind fun v2 =>(ao v2).bind fun xs3 =>if xs3.length ≤ lid then (aR (fun x4 =>(aj "int" [x4]).bind fun v5 =>some (some v5)) xs3).bind fun v6 =>(ap .NotEq (.list v6) (.list [])).bind fun b7 =>cond b7 ((al (.list v6) (.int 0)).bind fun v8 =>(ay (some (.int 1))).bind fun p9 =>(ay (some (.int 4))).bind fun p10 =>(aq (.list v6) p9 p10).bind fun v11 =>(ao v11).bind fun xs12 =>if xs12.length ≤ lid then (aR (fun x13 =>(ag .FloorDiv x13 (.int 7)).bind fun v14 =>some (some v14)) xs12).bind fun v15 =>(ag .Add (.list v15) (.list [.int 1,.int 2])).bind fun v16 =>(ay (some (.int 1))).bind fun p17 =>(aq (.list v6) p17 Option.none).bind fun v18 =>(ao v18).bind fun xs19 =>if xs19.length ≤ lid then (aR (fun x20 =>(ag .FloorDiv x20 (.int 256)).bind fun v21 =>(ag .Mod v21 (.int 2)).bind fun v22 =>(ap .Eq v22 (.int 0)).bind fun b23 =>cond b23 ((ag .Mod x20 (.int 256)).bind fun v24 =>some (some v24)) ((ag .FloorDiv x20 (.int 512)).bind fun v25 =>(ag .Mod v25 (.int 24)).bind fun v26 =>(al (.bytes [65,127,128,143,144,159,160,191,192,194,223,224,225,237,239,240,241,244,245,255,216,220,254,0]) v26).bind fun v27 =>some (some v27))) xs19).bind fun v28 =>(aj "bytes" [.list v28]).bind fun v29 =>(ag .Mod v8 (.int 4)).bind fun v30 =>(ag .Add (.int 1) v30).bind fun v31 =>(ay (some v31)).bind fun p32 =>(aq v16 Option.none p32).bind fun v33 =>(orO (G.fn "_law_streams_right" [v29,v33] []) (aj "_law_streams_right" [v29,v33])).bind fun v34 =>(V.tru v34).bind fun b35 =>cond (!b35) (some (.bool false)) ((orO (G.fn "_law_codes" [v29,.bool true] []) (aj "_law_codes" [v29,.bool true])).bind fun v36 =>(ag .FloorDiv v8 (.int 4)).bind fun v37 =>(ag .Mod v37 (.int 2)).bind fun v38 =>(ap .Eq v38 (.int 0)).bind fun b39 =>cond b39 ((ag .FloorDiv v8 (.int 8)).bind fun v40 =>(ag .Mod v40 (.int 4)).bind fun v41 =>(ay (some v41)).bind fun p42 =>(aq v16 Option.none p42).bind fun v43 =>(orO (G.fn "_law_round_right" [v36,.str "be",v43] []) (aj "_law_round_right" [v36,.str "be",v43])).bind fun v44 =>some v44) ((ag .FloorDiv v8 (.int 8)).bind fun v45 =>(ag .Mod v45 (.int 4)).bind fun v46 =>(ay (some v46)).bind fun p47 =>(aq v16 Option.none p47).bind fun v48 =>(orO (G.fn "_law_round_right" [v36,.str "le",v48] []) (aj "_law_round_right" [v36,.str "le",v48])).bind fun v49 =>some v49)) else Option.none else Option.none) ((ay (some (.int 1))).bind fun p50 =>(ay (some (.int 4))).bind fun p51 =>(aq (.list v6) p50 p51).bind fun v52 =>(ao v52).bind fun xs53 =>if xs53.length ≤ lid then (aR (fun x54 =>(ag .FloorDiv x54 (.int 7)).bind fun v55 =>some (some v55)) xs53).bind fun v56 =>(ag .Add (.list v56) (.list [.int 1,.int 2])).bind fun v57 =>(ay (some (.int 1))).bind fun p58 =>(aq (.list v6) p58 Option.none).bind fun v59 =>(ao v59).bind fun xs60 =>if xs60.length ≤ lid then (aR (fun x61 =>(ag .FloorDiv x61 (.int 256)).bind fun v62 =>(ag .Mod v62 (.int 2)).bind fun v63 =>(ap .Eq v63 (.int 0)).bind fun b64 =>cond b64 ((ag .Mod x61 (.int 256)).bind fun v65 =>some (some v65)) ((ag .FloorDiv x61 (.int 512)).bind fun v66 =>(ag .Mod v66 (.int 24)).bind fun v67 =>(al (.bytes [65,127,128,143,144,159,160,191,192,194,223,224,225,237,239,240,241,244,245,255,216,220,254,0]) v67).bind fun v68 =>some (some v68))) xs60).bind fun v69 =>(aj "bytes" [.list v69]).bind fun v70 =>(ag .Mod (.int 0) (.int 4)).bind fun v71 =>(ag .Add (.int 1) v71).bind fun v72 =>(ay (some v72)).bind fun p73 =>(aq v57 Option.none p73).bind fun v74 =>(orO (G.fn "_law_streams_right" [v70,v74] []) (aj "_law_streams_right" [v70,v74])).bind fun v75 =>(V.tru v75).bind fun b76 =>cond (!b76) (some (.bool false)) ((orO (G.fn "_law_codes" [v70,.bool true] []) (aj "_law_codes" [v70,.bool true])).bind fun v77 =>(ag .FloorDiv (.int 0) (.int 4)).bind fun v78 =>(ag .Mod v78 (.int 2)).bind fun v79 =>(ap .Eq v79 (.int 0)).bind fun b80 =>cond b80 ((ag .FloorDiv (.int 0) (.int 8)).bind fun v81 =>(ag .Mod v81 (.int 4)).bind fun v82 =>(ay (some v82)).bind fun p83 =>(aq v57 Option.none p83).bind fun v84 =>(orO (G.fn "_law_round_right" [v77,.str "be",v84] []) (aj "_law_round_right" [v77,.str "be",v84])).bind fun v85 =>some v85) ((ag .FloorDiv (.int 0) (.int 8)).bind fun v86 =>(ag .Mod v86 (.int 4)).bind fun v87 =>(ay (some v87)).bind fun p88 =>(aq v57 Option.none p88).bind fun v89 =>(orO (G.fn "_law_round_right" [v77,.str "le",v89] []) (aj "_law_round_right" [v77,.str "le",v89])).bind fun v90 =>some v90)) else Option.none else Option.none) else Option.none) = some v) : (af tab (k + 1)).fn "law" [.list xs] [] = some v:=aX (r:=R65) (by kernel_rfl) (by kernel_rfl) h
theorem band_nat (x y : Nat) : Builtin.bitAnd (x : Int) (y : Int) = ((x &&& y : Nat) : Int):=by
 unfold Builtin.bitAnd
 simp
theorem bor_nat (x y : Nat) : Builtin.bitOr (x : Int) (y : Int) = ((x ||| y : Nat) : Int):=by
 unfold Builtin.bitOr
 have h : ∀ z : Nat,Builtin.bitNot (z : Int) = -(z : Int) - 1:=fun z =>by unfold Builtin.bitNot; lia
 simp only [h,h]
 unfold Builtin.bitAnd
 have h1 : decide (0 ≤ -(x : Int) - 1) = false:=by simp; lia
 have h2 : decide (0 ≤ -(y : Int) - 1) = false:=by simp; lia
 simp only [h1,h2]
 have h3 : ∀ z : Nat,(Builtin.bitNot (-(z : Int) - 1)).toNat = z:=fun z =>by unfold Builtin.bitNot; lia
 simp only [h3]
 have h4 : ∀ z : Int,Builtin.bitNot (Builtin.bitNot z) = z:=fun z =>by unfold Builtin.bitNot; lia
 exact h4 _
theorem dr {x : Int} (k : Nat) {m : Int} (hm : m = 2 ^ k - 1) (hx : 0 ≤ x) : Builtin.bitAnd x m = x % 2 ^ k:=by
 obtain ⟨n,rfl⟩:=Int.eq_ofNat_of_zero_le hx
 have : m = ((2 ^ k - 1 : Nat) : Int):=by
  have:=Nat.two_pow_pos k
  rw [hm]; push_cast [Int.natCast_sub]
  rw [Int.natCast_sub (by lia)]; push_cast; rfl
 simp only [this,band_nat,Nat.and_two_pow_sub_one_eq_mod]
 push_cast; rfl
theorem dM {a b : Int} (k : Nat) {m : Int} (hm : m = a * 2 ^ k) (ha : 0 ≤ a) (hb : 0 ≤ b) (h : b < 2 ^ k) : Builtin.bitOr m b = m + b:=by
 obtain ⟨n,rfl⟩:=Int.eq_ofNat_of_zero_le ha
 obtain ⟨c,rfl⟩:=Int.eq_ofNat_of_zero_le hb
 have hc : c < 2 ^ k:=by exact_mod_cast h
 have : m = ((2 ^ k * n : Nat) : Int):=by rw [hm]; push_cast; rw [Int.mul_comm]
 rw [this,bor_nat,← Nat.two_pow_add_eq_or_of_lt hc]
 push_cast; rfl
theorem fdivp {a b : Int} (h : 0 ≤ b) : a.fdiv b = a / b:=Int.fdiv_eq_ediv_of_nonneg a h
theorem fmodp {a b : Int} (h : 0 ≤ b) : a.fmod b = a % b:=Int.fmod_eq_emod_of_nonneg a h
theorem bC {x : Int} (h1 : 0 ≤ x) (h2 : x < 1073741824) : small x = true:=by unfold small; simp; lia
theorem small_of2 {x : Int} (h1 : -1073741824 < x) (h2 : x < 1073741824) : small x = true:=by unfold small; simp; lia
theorem band63 {x : Int} (h : 0 ≤ x) : Builtin.bitAnd x 63 = x % 64:=dr 6 rfl h
theorem band255 {x : Int} (h : 0 ≤ x) : Builtin.bitAnd x 255 = x % 256:=dr 8 rfl h
theorem band1023 {x : Int} (h : 0 ≤ x) : Builtin.bitAnd x 1023 = x % 1024:=dr 10 rfl h
theorem or256 {a b : Int} (ha : 0 ≤ a) (hb : 0 ≤ b) (h : b < 256) : Builtin.bitOr (a * 256) b = a * 256 + b:=dM (m:=a * 256) 8 (by rw [show (2 : Int) ^ 8 = 256 from rfl]) ha hb h
theorem or64 {a b : Int} (ha : 0 ≤ a) (hb : 0 ≤ b) (h : b < 64) : Builtin.bitOr (a * 64) b = a * 64 + b:=dM (m:=a * 64) 6 (by rw [show (2 : Int) ^ 6 = 64 from rfl]) ha hb h
theorem clip_nat {n a : Nat} : clip n (a : Int) = min a n:=by unfold clip; rw [if_neg (by lia)]; simp
theorem di {α : Type} {l : List α} {a : Nat} : cut l (some (a : Int)) Option.none = l.drop a:=by
 unfold cut
 simp only [Option.elim,clip_nat]
 rw [List.take_of_length_le (by rw [List.length_drop]; lia)]
 rcases Nat.le_total a l.length with h | h
 ·rw [Nat.min_eq_left h]
 ·simp only [Nat.min_eq_right h,List.drop_length,List.drop_eq_nil_of_le h]
theorem bL {α : Type} {l : List α} {b : Nat} : cut l Option.none (some (b : Int)) = l.take b:=by
 unfold cut
 simp only [Option.elim,clip_nat,Nat.sub_zero,List.drop_zero]
 rcases Nat.le_total b l.length with h | h
 ·rw [Nat.min_eq_left h]
 ·simp only [Nat.min_eq_right h,List.take_length,List.take_of_length_le h]
theorem eg {α : Type} {l : List α} {a b : Nat} : cut l (some (a : Int)) (some (b : Int)) = (l.drop a).take (b - a):=by
 unfold cut
 simp only [Option.elim,clip_nat]
 rcases Nat.le_total a l.length with h | h
 ·rw [Nat.min_eq_left h]
  rcases Nat.le_total b l.length with h2 | h2
  ·rw [Nat.min_eq_left h2]
  ·rw [Nat.min_eq_right h2,List.take_of_length_le (by rw [List.length_drop]; lia),List.take_of_length_le (by rw [List.length_drop]; lia)]
 ·simp only [Nat.min_eq_right h,List.drop_length,List.drop_eq_nil_of_le h]; simp
section
variable {α ρ : Type} {x y : Option ρ} {p : Prop} [Decidable p] {ks ls : List Int} {xs ys : List V} {a b : Int} {l r : Option Int} {s t : Str} {n : Nat}
theorem cp (h : p) : cond (decide p) x y = x:=by rw [decide_eq_true h]; rfl
theorem cn (h : ¬ p) : cond (decide p) x y = y:=by rw [decide_eq_false h]; rfl
theorem cnp (h : p) : cond (!decide p) x y = y:=by rw [decide_eq_true h]; rfl
theorem cnn (h : ¬ p) : cond (!decide p) x y = x:=by rw [decide_eq_false h]; rfl
theorem orS {v : α} {o : Option α} : orO (some v) o = some v:=rfl
theorem bS {v : α} {f : α → Option ρ} : (some v).bind f = f v:=rfl
theorem mS {β : Type} {v : α} {f : α → β} : (some v).map f = some (f v):=rfl
theorem cT : cond true x y = x:=rfl
theorem cF : cond false x y = y:=rfl
theorem trB {c : Bool} : V.tru (.bool c) = some c:=rfl
theorem lenB (h : ks.length ≤ 1048576) : aj "len" [.bytes ks] = some (.int (ks.length : Int)):=by simp only [bl_len,len_bytes,if_pos h]; rfl
theorem lenL (h : xs.length ≤ 1048576) : aj "len" [.list xs] = some (.int (xs.length : Int)):=by simp only [bl_len,len_list,if_pos h]; rfl
theorem lisL (h : xs.length ≤ 1048576) : aj "list" [.list xs] = some (.list xs):=by rw [bl_listL,if_pos h]
theorem itB (h : ks.length ≤ 1048576) : al (.bytes ks) (.int a) = (aH ks a).map .int:=by simp only [item_bytes,if_pos h]
theorem itL (h : xs.length ≤ 1048576) : al (.list xs) (.int a) = aH xs a:=by simp only [item_list,if_pos h]
theorem slB (h : ks.length ≤ 1048576) : aq (.bytes ks) l r = some (.bytes (cut ks l r)):=by simp only [slice_bytes,if_pos h]
theorem slL (h : xs.length ≤ 1048576) : aq (.list xs) l r = some (.list (cut xs l r)):=by simp only [slice_list,if_pos h]
theorem ptS (h : a.natAbs < 4611686018427387904) : ay (some (.int a)) = some (some a):=by rw [part_int,if_pos h]
theorem isL (h : xs.length ≤ 1048576) : ao (.list xs) = some xs:=by simp only [items_list,if_pos h]
theorem isT (h : xs.length ≤ 1048576) : ao (.tup xs) = some xs:=by rw [items_tup,if_pos h]
theorem isB (h : ks.length ≤ 1048576) : ao (.bytes ks) = some (ks.map .int):=by rw [items_bytes,if_pos h]
theorem adI : ag .Add (.int a) (.int b) = some (.int (a + b)):=rfl
theorem sbI : ag .Sub (.int a) (.int b) = some (.int (a - b)):=rfl
theorem anI : ag .BitAnd (.int a) (.int b) = some (.int (Builtin.bitAnd a b)):=rfl
theorem orI : ag .BitOr (.int a) (.int b) = some (.int (Builtin.bitOr a b)):=rfl
theorem muI (h1 : small a = true) (h2 : small b = true) : ag .Mult (.int a) (.int b) = some (.int (a * b)):=by simp only [b_mulI,h1,h2]; rfl
theorem fdI (h1 : 0 < b) (h2 : small b = true) : ag .FloorDiv (.int a) (.int b) = some (.int (a / b)):=by rw [b_fdiv,if_pos ⟨by lia,h2⟩,fdivp (by lia)]
theorem mdI (h1 : 0 < b) : ag .Mod (.int a) (.int b) = some (.int (a % b)):=by rw [b_mod,if_pos (by lia),fmodp (by lia)]
theorem shrI (j : Nat) {m : Int} (h : ((2 : Int) ^ j) = m) : ag .RShift (.int a) (.int (j : Int)) = some (.int (a / m)):=by
 subst h
 rw [b_shr,if_pos (by lia),Int.toNat_natCast,fdivp (by exact Int.le_of_lt (Int.pow_pos (by lia)))]
theorem shlI (j : Nat) {m : Int} (h : ((2 : Int) ^ j) = m) (hj : j ≤ 64) (h1 : small a = true) : ag .LShift (.int a) (.int (j : Int)) = some (.int (a * m)):=by
 subst h
 rw [b_shl,if_pos ⟨by lia,by lia,h1⟩,Int.toNat_natCast]
theorem r6 : ag .RShift (.int a) (.int 6) = some (.int (a / 64)):=shrI 6 rfl
theorem r8 : ag .RShift (.int a) (.int 8) = some (.int (a / 256)):=shrI 8 rfl
theorem r10 : ag .RShift (.int a) (.int 10) = some (.int (a / 1024)):=shrI 10 rfl
theorem r12 : ag .RShift (.int a) (.int 12) = some (.int (a / 4096)):=shrI 12 rfl
theorem r16 : ag .RShift (.int a) (.int 16) = some (.int (a / 65536)):=shrI 16 rfl
theorem r18 : ag .RShift (.int a) (.int 18) = some (.int (a / 262144)):=shrI 18 rfl
theorem l6 (h : small a = true) : ag .LShift (.int a) (.int 6) = some (.int (a * 64)):=shlI 6 rfl (by lia) h
theorem l8 (h : small a = true) : ag .LShift (.int a) (.int 8) = some (.int (a * 256)):=shlI 8 rfl (by lia) h
theorem l10 (h : small a = true) : ag .LShift (.int a) (.int 10) = some (.int (a * 1024)):=shlI 10 rfl (by lia) h
theorem l16 (h : small a = true) : ag .LShift (.int a) (.int 16) = some (.int (a * 65536)):=shlI 16 rfl (by lia) h
theorem l24 (h : small a = true) : ag .LShift (.int a) (.int 24) = some (.int (a * 16777216)):=shlI 24 rfl (by lia) h
theorem d2 : ag .FloorDiv (.int a) (.int 2) = some (.int (a / 2)):=fdI (by lia) rfl
theorem d4 : ag .FloorDiv (.int a) (.int 4) = some (.int (a / 4)):=fdI (by lia) rfl
theorem d7 : ag .FloorDiv (.int a) (.int 7) = some (.int (a / 7)):=fdI (by lia) rfl
theorem d8 : ag .FloorDiv (.int a) (.int 8) = some (.int (a / 8)):=fdI (by lia) rfl
theorem d64 : ag .FloorDiv (.int a) (.int 64) = some (.int (a / 64)):=fdI (by lia) rfl
theorem d256 : ag .FloorDiv (.int a) (.int 256) = some (.int (a / 256)):=fdI (by lia) rfl
theorem d512 : ag .FloorDiv (.int a) (.int 512) = some (.int (a / 512)):=fdI (by lia) rfl
theorem d1024 : ag .FloorDiv (.int a) (.int 1024) = some (.int (a / 1024)):=fdI (by lia) rfl
theorem d65536 : ag .FloorDiv (.int a) (.int 65536) = some (.int (a / 65536)):=fdI (by lia) rfl
theorem d16777216 : ag .FloorDiv (.int a) (.int 16777216) = some (.int (a / 16777216)):=fdI (by lia) rfl
theorem m2 : ag .Mod (.int a) (.int 2) = some (.int (a % 2)):=mdI (by lia)
theorem m4 : ag .Mod (.int a) (.int 4) = some (.int (a % 4)):=mdI (by lia)
theorem m24 : ag .Mod (.int a) (.int 24) = some (.int (a % 24)):=mdI (by lia)
theorem m64 : ag .Mod (.int a) (.int 64) = some (.int (a % 64)):=mdI (by lia)
theorem m256 : ag .Mod (.int a) (.int 256) = some (.int (a % 256)):=mdI (by lia)
theorem m1024 : ag .Mod (.int a) (.int 1024) = some (.int (a % 1024)):=mdI (by lia)
theorem adB (h : ks.length + ls.length ≤ 1048576) : ag .Add (.bytes ks) (.bytes ls) = some (.bytes (ks ++ ls)):=by simp only [b_addB,if_pos h]
theorem adL (h : xs.length + ys.length ≤ 1048576) : ag .Add (.list xs) (.list ys) = some (.list (xs ++ ys)):=by rw [b_addL,if_pos h]
theorem lt_ : ap .Lt (.int a) (.int b) = some (decide (a < b)):=rfl
theorem le_ : ap .LtE (.int a) (.int b) = some (decide (a ≤ b)):=rfl
theorem gt_ : ap .Gt (.int a) (.int b) = some (decide (b < a)):=rfl
theorem ge_ : ap .GtE (.int a) (.int b) = some (decide (b ≤ a)):=rfl
theorem eqI_ : ap .Eq (.int a) (.int b) = some (a == b):=rfl
theorem eqS_ : ap .Eq (.str s) (.str t) = some (s == t):=rfl
theorem eqB_ : ap .Eq (.bytes ks) (.bytes ls) = some (ks == ls):=rfl
theorem neB_ : ap .NotEq (.bytes ks) (.bytes ls) = some (!(ks == ls)):=rfl
theorem vV {v : V} : ah (some (.val v)) = some v:=rfl
theorem oO : dQ (some (.own xs)) = some xs:=rfl
theorem oV {v : V} : dQ (some (.val v)) = Option.none:=rfl
theorem lkS {c : α} {g : List (Str × α)} : List.lookup s (ae s c g) = some c:=by rw [lk_set,beq_self_eq_true]; rfl
theorem lkN {c : α} {g : List (Str × α)} (h : (t == s) = false) : List.lookup t (ae s c g) = List.lookup t g:=by rw [lk_set,h]; rfl
theorem u2 {v w : V} {K : V → V → Option ρ} : un2 (.tup [v,w]) K = K v w:=rfl
theorem u3 {v w z : V} {K : V → V → V → Option ρ} : un3 (.tup [v,w,z]) K = K v w z:=rfl
theorem xC {K : List V → Option ρ} : extC (.list xs) K = K xs:=rfl
theorem inI : aw (.int a) = false:=rfl
theorem inN : aw .none = true:=rfl
theorem inS : aw (.str s) = false:=rfl
theorem inT : aw (.tup xs) = false:=rfl
theorem loO : aW (.list xs) = some xs:=rfl
theorem lcN {A : List V → Option ρ} : lenC Option.none A x = x:=rfl
theorem outS {c : α} {P : α → Prop} : Out (some c) P = P c:=propext ⟨fun ⟨_,e,h⟩ =>by obtain rfl:=oj e; exact h,fun h =>⟨c,rfl,h⟩⟩
end
noncomputable def fu (I : Gam → Prop) (Z : Fl → Prop) : Fl → Prop
 | .next g =>I g
 | .brk g =>Z (.next g)
 | .ret v g =>Z (.ret v g)
section
variable {n : Nat} {G : Ge} {sc : Scope} {mu : List Str} {t : Expr} {b : List Stmt} {Z : Fl → Prop}
theorem cont_out {o : Option Fl} {k : Gam → Option Fl} {I : Gam → Prop} (h : Out o (fu I Z)) (hk : ∀ g,I g → Out (k g) Z) : Out (contF o k) Z:=by
 obtain ⟨fl,rfl,h⟩:=h
 cases fl with
 | next g =>exact hk g h
 | brk g =>exact ⟨_,rfl,h⟩
 | ret v g =>exact ⟨_,rfl,h⟩
theorem while_rule {α : Type} (I : α → Gam → Prop) (meas : α → Nat) (c : α → Prop) [∀ a,Decidable (c a)] (hT : ∀ a g,I a g → evT n G sc g t = some (decide (c a)))
  (hS : ∀ a g,I a g → c a → Out (exs n G sc mu b g) (fu (fun g' =>∃ a',I a' g' ∧ meas a' < meas a) Z)) (hE : ∀ a g,I a g → ¬ c a → Z (.next g)) :
  ∀ K a g,meas a < K → I a g → Out (bK n G sc mu t b K g) Z
 | 0,_,_,h,_ =>absurd h (Nat.not_lt_zero _)
 | K + 1,a,g,h,hI =>by
  rw [whileX_succ,hT a g hI]
  by_cases hc : c a
  ·rw [decide_eq_true hc]
   exact cont_out (hS a g hI hc) fun g' ⟨a',hI',hm⟩ =>while_rule I meas c hT hS hE K a' g' (Nat.lt_of_lt_of_le hm (Nat.le_of_lt_succ h)) hI'
  ·rw [decide_eq_false hc]
   exact ⟨_,rfl,hE a g hI hc⟩
theorem tp_ {p : Int} (h : 1 ≤ p) : 0 < p.toNat:=Int.lt_toNat.mpr h
theorem dec_ {α : Type} {l : List α} {p : Int} (h : l ≠ []) (hp : 1 ≤ p) : (l.drop p.toNat).length < l.length:=by rw [List.length_drop]; exact Nat.sub_lt (List.length_pos_iff.mpr h) (tp_ hp)
theorem dnD {α : Type} {l : List α} {p : Int} {n : Nat} (h : 1 ≤ p) (hl : l.length ≤ n + 1) : (l.drop p.toNat).length ≤ n:=by rw [List.length_drop]; exact Nat.sub_le_of_le_add (Nat.le_trans hl (Nat.add_le_add_left (tp_ h) n))
theorem rl_ {A B L : Nat} {p : Int} (h1 : 1 ≤ p) (h2 : p ≤ L) (h : A + B ≤ L - p.toNat) : A + 1 + B ≤ L:=by rw [Nat.add_right_comm]; exact Nat.lt_of_le_of_lt h (Nat.sub_lt (Int.ofNat_lt.mp (Int.lt_of_lt_of_le (show (0 : Int) < p from h1) h2)) (tp_ h1))
theorem nx4 {a : Nat} {p : Int} (h : 1 ≤ p) : (a : Int) + p = ((a + p.toNat : Nat) : Int):=by rw [Int.natCast_add,Int.toNat_of_nonneg (Int.le_trans (by decide) h)]
inductive CurI {β : Type} (E : Nat → List β → Gam → Gam) (L : Nat) (J : Nat → List β → Prop) (x : Nat × List β) (g : Gam) : Prop
 | mk (ex : Gam) (hg : g = E x.1 x.2 ex) (h1 : x.1 ≤ L) (h2 : x.2.length ≤ x.1) (h3 : J x.1 x.2) : CurI E L J x g
inductive CurN {β : Type} (E : Nat → List β → Gam → Gam) (L : Nat) (J : Nat → List β → Prop) (a : Nat) (fs : List β) (g : Gam) : Prop
 | mk (p : Int) (c : β) (ex : Gam) (hg : g = E (a + p.toNat) (fs ++ [c]) ex) (h1 : 1 ≤ p) (h2 : p ≤ (L - a : Nat)) (h3 : J (a + p.toNat) (fs ++ [c])) : CurN E L J a fs g
theorem fv {β : Type} {L d : Nat} {ex0 : Gam} {E : Nat → List β → Gam → Gam} {J : Nat → List β → Prop} (hL : L ≤ 1000) (hT : ∀ a fs ex,evT n G sc (E a fs ex) t = some (decide ((a : Int) < L)))
  (hS : ∀ a fs ex,a < L → fs.length < 1048576 → J a fs → Out (exs n G sc mu b (E a fs ex)) (fu (CurN E L J a fs) Z)) (hE : ∀ fs ex,fs.length ≤ L → J L fs → Z (.next (E L fs ex))) (hd : d ≤ L) (h0 : J d []) : Out (bK n G sc mu t b 65536 (E d [] ex0)) Z:=by
 refine while_rule (CurI E L J) (fun x =>L - x.1) (fun x =>(x.1 : Int) < L) ?_ ?_ ?_ 65536 (d,[]) _ ?_ ⟨ex0,rfl,hd,Nat.zero_le _,h0⟩
 ·rintro x g ⟨ex,rfl,_,_,_⟩; exact hT _ _ _
 ·rintro ⟨a,fs⟩ g ⟨ex,rfl,h1,h2,h3⟩ hc
  have hlt : a < L:=Int.ofNat_lt.mp hc
  obtain ⟨fl,e,h⟩:=hS a fs ex hlt (Nat.lt_of_le_of_lt h2 (Nat.lt_of_lt_of_le hlt (Nat.le_trans hL (by decide)))) h3
  refine ⟨fl,e,?_⟩
  cases fl with
  | next g =>
   obtain ⟨p,c,ex',hg,k1,k2,k3⟩:=h
   exact ⟨(a + p.toNat,fs ++ [c]),⟨ex',hg,Nat.add_le_of_le_sub' h1 (Int.toNat_le.mpr k2),by rw [List.length_append]; exact Nat.add_le_add h2 (tp_ k1),k3⟩,Nat.sub_lt_sub_left hlt (Nat.lt_add_of_pos_right (tp_ k1))⟩
  | brk g =>exact h
  | ret v g =>exact h
 ·rintro ⟨a,fs⟩ g ⟨ex,rfl,h1,h2,h3⟩ hc
  have : a = L:=Nat.le_antisymm h1 (Nat.not_lt.mp fun h =>hc (Int.ofNat_lt.mpr h))
  subst this
  exact hE fs ex h2 h3
 ·exact Nat.lt_of_le_of_lt (Nat.sub_le _ _) (Nat.lt_of_le_of_lt hL (by decide))
theorem bA {β : Type} {f : β → V} (I : List β → Gam → Prop) (hS : ∀ x r g,I (x :: r) g → ∃ g1,cg sc t (f x) g = some g1 ∧ Out (exs n G sc mu b g1) (fu (I r) Z)) (hE : ∀ g,I [] g → Z (.next g)) :
  ∀ ns g,I ns g → Out (bt n G sc mu t b (ns.map f) g) Z
 | [],g,hI =>⟨_,rfl,hE g hI⟩
 | x :: r,g,hI =>by
  refine bc fun hN =>?_
  obtain ⟨g1,h1,h⟩:=hS x r g hI
  refine hN ?_; clear hN
  simp only [List.map_cons,forX_cons,h1]
  exact cont_out h fun g' h' =>bA I hS hE r g' h'
theorem fz {x : V} {r : List V} {g g1 : Gam} (h1 : cg sc t x g = some g1) (h : Out (exs n G sc mu b g1) (fu (fun g' =>Out (bt n G sc mu t b r g') Z) Z)) : Out (bt n G sc mu t b (x :: r) g) Z:=by
 simp only [forX_cons,h1]
 exact cont_out h fun g' h' =>h'
theorem for_nil {g : Gam} (h : Z (.next g)) : Out (bt n G sc mu t b [] g) Z:=⟨_,rfl,h⟩
theorem enum_rule {β : Type} {f : β → V} (I : Nat → List β → Gam → Prop) (hS : ∀ j x r g,I j (x :: r) g → ∃ g1,cg sc t (.tup [.int (j : Int),f x]) g = some g1 ∧ Out (exs n G sc mu b g1) (fu (I (j + 1) r) Z)) (hE : ∀ j g,I j [] g → Z (.next g)) :
  ∀ ns j g,I j ns g → Out (bt n G sc mu t b (dD j (ns.map f)) g) Z
 | [],j,g,hI =>⟨_,rfl,hE j g hI⟩
 | x :: r,j,g,hI =>by
  obtain ⟨g1,h1,h⟩:=hS j x r g hI
  simp only [List.map_cons,en_cons,forX_cons,h1]
  exact cont_out h fun g' h' =>enum_rule I hS hE r (j + 1) g' h'
end
theorem bH {ρ : Type} {o : Option Fl} {A B : Gam → Option ρ} {D : V → Gam → Option ρ} {R : Option ρ} (h : Out o fun fl =>flC fl A B D = R) : (o.bind fun fl =>flC fl A B D) = R:=by
 obtain ⟨fl,rfl,h⟩:=h
 exact h
theorem sN {I : Gam → Prop} {Z : Fl → Prop} {g : Gam} : fu I Z (.next g) = I g:=rfl
theorem sB {I : Gam → Prop} {Z : Fl → Prop} {g : Gam} : fu I Z (.brk g) = Z (.next g):=rfl
theorem sR {I : Gam → Prop} {Z : Fl → Prop} {v : V} {g : Gam} : fu I Z (.ret v g) = Z (.ret v g):=rfl
theorem fN {ρ : Type} {g : Gam} {A B : Gam → Option ρ} {D : V → Gam → Option ρ} : flC (.next g) A B D = A g:=rfl
theorem fR {ρ : Type} {v : V} {g : Gam} {A B : Gam → Option ρ} {D : V → Gam → Option ρ} : flC (.ret v g) A B D = D v g:=rfl
theorem fB {ρ : Type} {g : Gam} {A B : Gam → Option ρ} {D : V → Gam → Option ρ} : flC (.brk g) A B D = B g:=rfl
theorem mapS {l : List Int} {c : Int} : (l ++ [c]).map V.int = l.map V.int ++ [V.int c]:=by rw [List.map_append]; rfl
theorem lenS {α : Type} {l : List α} {c : α} : (l ++ [c]).length = l.length + 1:=List.length_append
theorem scN {ρ : Type} {j : V} {K : V → Option ρ} {alt : Option ρ} : subC Option.none j K alt = alt:=rfl
theorem tp0 {v w : V} : al (.tup [v,w]) (.int 0) = some v:=rfl
theorem tp1 {v w : V} : al (.tup [v,w]) (.int 1) = some w:=rfl
theorem neE {zs : List V} : ap .NotEq (.list zs) (.list []) = some (!zs.isEmpty):=by cases zs <;> rfl
theorem comp_if {β : Type} {f : V → Option (Option V)} {g : β → V} {p : β → Bool} : ∀ (l : List β),(∀ x ∈ l,∃ o,f (g x) = some o ∧ o.isSome = p x) → ∃ zs,aR f (l.map g) = some zs ∧ zs.isEmpty = !(l.any p)
 | [],_ =>⟨[],rfl,rfl⟩
 | x :: r,h =>by
  refine bc fun hN =>?_
  obtain ⟨zs,h1,h2⟩:=comp_if r fun y hy =>h y (.tail _ hy)
  obtain ⟨o,h3,h4⟩:=h x (.head _)
  refine hN ?_; clear hN
  simp only [List.map_cons,cv_cons,h1,h3,List.any_cons,← h4]
  cases o with
  | none =>exact ⟨zs,rfl,h2⟩
  | some y =>exact ⟨y :: zs,rfl,rfl⟩
theorem cj {β : Type} {f : V → Option (Option V)} {g : β → V} {q : β → V} : ∀ (l : List β),(∀ x ∈ l,f (g x) = some (some (q x))) → aR f (l.map g) = some (l.map q)
 | [],_ =>rfl
 | x :: r,h =>by
  simp only [List.map_cons,cv_cons,cj r fun y hy =>h y (.tail _ hy),h x (.head _)]; rfl
theorem bindEx {α ρ : Type} {o : Option α} {P : α → Prop} {f : α → Option ρ} {r : Option ρ} (h : ∃ a,o = some a ∧ P a) (hk : ∀ a,P a → f a = r) : o.bind f = r:=by
 obtain ⟨a,rfl,h⟩:=h
 exact hk a h
theorem loopP {ρ : Type} {o : Option Fl} {A B : Gam → Option ρ} {D : V → Gam → Option ρ} {P : ρ → Prop} (h : Out o fun fl =>Out (flC fl A B D) P) : Out (o.bind fun fl =>flC fl A B D) P:=by
 obtain ⟨fl,rfl,h⟩:=h
 exact h
theorem outE {α : Type} {o : Option α} {a : α} {P : α → Prop} (e : o = some a) (h : P a) : Out o P:=⟨a,e,h⟩
theorem ptN {a : Nat} (h : a ≤ 1000000) : ay (some (.int (a : Int))) = some (some (a : Int)):=ptS (by lia)
section
variable {α β : Type} {o : Option α} {K : α → Option β} {a : α} {r x y : Option β} {b : Bool} {p : Prop} [Decidable p] {P : β → Prop} {ol : Option (List V)} {xs : List V} {j : V}
theorem bE (h : o = some a) (h2 : K a = r) : o.bind K = r:=by rw [h]; exact h2
theorem bO (h : o = some a) (h2 : Out (K a) P) : Out (o.bind K) P:=by rw [h]; exact h2
theorem bE0 (h2 : K a = r) : (some a).bind K = r:=h2
theorem bO0 (h2 : Out (K a) P) : Out ((some a).bind K) P:=h2
theorem cE (h : b = true) (h2 : x = r) : cond b x y = r:=by rw [h]; exact h2
theorem cE' (h : b = false) (h2 : y = r) : cond b x y = r:=by rw [h]; exact h2
theorem cO (h : b = true) (h2 : Out x P) : Out (cond b x y) P:=by rw [h]; exact h2
theorem cO' (h : b = false) (h2 : Out y P) : Out (cond b x y) P:=by rw [h]; exact h2
theorem cQ (h : b = true → x = y) : cond b x y = y:=by
 cases b
 ·rfl
 ·exact h rfl
theorem cR (h : b = true → x = y) (h2 : Out y P) : Out (cond b x y) P:=by
 cases b
 ·exact h2
 ·rw [h rfl]; exact h2
theorem iE (h : p) (h2 : x = r) : (if p then x else y) = r:=by rw [if_pos h]; exact h2
theorem iE' (h : ¬ p) (h2 : y = r) : (if p then x else y) = r:=by rw [if_neg h]; exact h2
theorem iO (h : p) (h2 : Out x P) : Out (if p then x else y) P:=by rw [if_pos h]; exact h2
theorem iO' (h : ¬ p) (h2 : Out y P) : Out (if p then x else y) P:=by rw [if_neg h]; exact h2
theorem sE {K : V → Option β} (h : ol = some xs) (h2 : (al (.list xs) j).bind K = r) : subC ol j K x = r:=by rw [h]; exact h2
theorem sE' {K : V → Option β} (h : ol = .none) (h2 : x = r) : subC ol j K x = r:=by rw [h]; exact h2
theorem sO {K : V → Option β} (h : ol = some xs) (h2 : Out ((al (.list xs) j).bind K) P) : Out (subC ol j K x) P:=by rw [h]; exact h2
theorem sO' {K : V → Option β} (h : ol = .none) (h2 : Out x P) : Out (subC ol j K x) P:=by rw [h]; exact h2
theorem lE {A : List V → Option β} (h : ol = some xs) (h2 : A xs = r) : lenC ol A x = r:=by rw [h]; exact h2
theorem lE' {A : List V → Option β} (h : ol = .none) (h2 : x = r) : lenC ol A x = r:=by rw [h]; exact h2
theorem lO {A : List V → Option β} (h : ol = some xs) (h2 : Out (A xs) P) : Out (lenC ol A x) P:=by rw [h]; exact h2
theorem lO' {A : List V → Option β} (h : ol = .none) (h2 : Out x P) : Out (lenC ol A x) P:=by rw [h]; exact h2
theorem kE {f : List (Str × V) → Option β} {cl : List (Str × V)} {oc : Option (List (Str × V))} (h : oc = some cl) (h2 : f cl = r) : clsC oc f x = r:=by rw [h]; exact h2
theorem kO {f : List (Str × V) → Option β} {cl : List (Str × V)} {oc : Option (List (Str × V))} (h : oc = some cl) (h2 : Out (f cl) P) : Out (clsC oc f x) P:=by rw [h]; exact h2
theorem uE {u v : V} {K : V → V → Option β} (h : K u v = r) : un2 (.tup [u,v]) K = r:=h
theorem uO {u v : V} {K : V → V → Option β} (h : Out (K u v) P) : Out (un2 (.tup [u,v]) K) P:=h
theorem wE {u v w : V} {K : V → V → V → Option β} (h : K u v w = r) : un3 (.tup [u,v,w]) K = r:=h
theorem wO {u v w : V} {K : V → V → V → Option β} (h : Out (K u v w) P) : Out (un3 (.tup [u,v,w]) K) P:=h
theorem fE {g : Gam} {A B : Gam → Option β} {D : V → Gam → Option β} (h : A g = r) : flC (.next g) A B D = r:=h
theorem fE' {g : Gam} {v : V} {A B : Gam → Option β} {D : V → Gam → Option β} (h : D v g = r) : flC (.ret v g) A B D = r:=h
theorem fO {g : Gam} {A B : Gam → Option β} {D : V → Gam → Option β} (h : Out (A g) P) : Out (flC (.next g) A B D) P:=h
theorem fO' {g : Gam} {v : V} {A B : Gam → Option β} {D : V → Gam → Option β} (h : Out (D v g) P) : Out (flC (.ret v g) A B D) P:=h
theorem eO {c : β} (h : P c) : Out (some c) P:=⟨c,rfl,h⟩
end
end Mine
end
namespace Mine
open PySem
local macro_rules
  | `(tactic| simp_arith! [$as,*]) => do
    let xs := (("bS mS orS cT cF trB lenB lenL lisL itB itL slB slL ptS isL isB isT adI sbI anI orI muI r6 r8 r10 r12 r16 r18 l6 l8 l10 l16 l24 d2 d4 d7 d8 d64 d256 d512 d1024 d65536 d16777216 m2 m4 m24 m64 m256 m1024 adB adL lt_ le_ gt_ ge_ eqI_ eqS_ eqB_ neB_ vV oO oV lkS lkN u2 u3 xC inI inN inS inT loO lcN fN fR fB outS scN tp0 tp1 neE sN sB sR cp cn cnp cnn Bool.not_true Bool.not_false decide_true decide_false ofString_beq String.reduceBEq Int.reduceAdd Int.reduceSub Int.reduceMul Int.reduceLT Int.reduceLE Int.reduceNeg Int.reduceBEq Nat.reduceBEq Int.reduceDiv Int.reduceMod Nat.reduceAdd Nat.reduceLT Nat.reduceLeDiff Nat.reduceSub".splitOn " ").toArray.map fun s => (⟨(Lean.mkIdent s.toName).raw⟩ : Lean.Term))
    `(tactic| simp only [$[$xs:term],*, ↓reduceIte, $as,*])
local macro_rules
  | `(tactic| simp_arith [$as,*]) => do
    let e ← `(tactic| first | (simp_arith! [$as,*] <;> with_reducible rfl) | fail)
    let c ← `(tactic| first | (simp_arith! [$as,*] <;> fail) | fail)
    let g (l : String) (u : Lean.Syntax.Tactic) : Lean.MacroM (Array Lean.Syntax.Tactic) := (l.splitOn " ").toArray.mapM fun s => `(tactic| refine $(Lean.mkIdent s.toName) (by $u:tactic) ?_)
    let z ← ("bE0 bO0 fE fO fE' fO' uE uO wE wO".splitOn " ").toArray.mapM fun s => `(tactic| refine $(Lean.mkIdent s.toName) ?_)
    let ts := z ++ (← g "bE bO" e) ++ (← g "cE cE' cO cO' iE iE' iO iO'" c) ++ (← g "sE sE' sO sO' lE lE' lO lO' kE kO" e)
    `(tactic| repeat (with_reducible first $[| $ts:tactic]*))
local macro_rules
  | `(tactic| simp_arith only [$as,*]) => `(tactic| (simp_arith [$as,*]; try simp_arith! [$as,*]))
noncomputable def aM (x : Int) : Bool:=decide (55296 ≤ x) && decide (x ≤ 56319)
noncomputable def bg (x : Int) : Bool:=decide (56320 ≤ x) && decide (x ≤ 57343)
noncomputable def dk (x : Int) : Bool:=decide (55296 ≤ x) && decide (x ≤ 57343)
noncomputable def isSca (x : Int) : Bool:=(decide (0 ≤ x) && decide (x ≤ 1114111)) && !dk x
theorem condB {a b : Bool} : cond a (some (V.bool b)) (some (.bool false)) = some (.bool (a && b)):=by cases a <;> rfl
theorem condC {a b : Bool} : cond a (some (V.bool b)) (some (.bool a)) = some (.bool (a && b)):=by cases a <;> rfl
theorem bneF {a b : Int} (h : ¬ a = b) : (a == b) = false:=beq_eq_false_iff_ne.mpr h
section
variable {k : Nat} {x : Int}
theorem is_code_eq : (af tab (k + 1)).fn "is_code" [.int x] [] = some (.bool (decide (0 ≤ x) && decide (x ≤ 1114111))):=sh_is_code condB
theorem is_high_eq : (af tab (k + 1)).fn "is_high" [.int x] [] = some (.bool (aM x)):=sh_is_high condB
theorem is_low_eq : (af tab (k + 1)).fn "is_low" [.int x] [] = some (.bool (bg x)):=sh_is_low condB
theorem is_surrogate_eq : (af tab (k + 1)).fn "is_surrogate" [.int x] [] = some (.bool (dk x)):=sh_is_surrogate condB
theorem eP : (af tab (k + 2)).fn "is_scalar" [.int x] [] = some (.bool (isSca x)):=by
 refine sh_is_scalar ?_
 simp_arith! [is_code_eq,is_surrogate_eq]
 exact condC
theorem lead1 (h : x < 128) : (af tab (k + 1)).fn "utf8_lead" [.int x] [] = some (.tup [.int 1,.int 0,.int 0]):=by
 refine cP ?_
 simp_arith! [h]
theorem lead0 (h : (128 ≤ x ∧ x < 194) ∨ 245 ≤ x) : (af tab (k + 1)).fn "utf8_lead" [.int x] [] = some .none:=by
 refine cP ?_
 have h1 : ¬ x < 128:=by lia
 rcases h with h | h
 ·have h2 : ¬ 194 ≤ x:=by lia
  have h3 : ¬ 224 ≤ x:=by lia
  have h4 : ¬ 240 ≤ x:=by lia
  simp_arith! [h1,h2,h3,h4]
 ·have h2 : 194 ≤ x:=by lia
  have h3 : ¬ x ≤ 223:=by lia
  have h4 : 224 ≤ x:=by lia
  have h5 : ¬ x ≤ 239:=by lia
  have h6 : 240 ≤ x:=by lia
  have h7 : ¬ x ≤ 244:=by lia
  simp_arith! [h1,h2,h3,h4,h5,h6,h7]
theorem lead2 (h : 194 ≤ x ∧ x ≤ 223) : (af tab (k + 1)).fn "utf8_lead" [.int x] [] = some (.tup [.int 2,.int 128,.int 191]):=by
 refine cP ?_
 have h1 : ¬ x < 128:=by lia
 simp_arith! [h1,h.1,h.2]
theorem condE {x c d e : Int} {A : Int → Option V} : cond (x == c) (A d) (A e) = A (if x = c then d else e):=by
 by_cases h : x = c
 ·subst h; rw [beq_self_eq_true,if_pos rfl]; rfl
 ·rw [bneF h,if_neg h]; rfl
theorem lead3 (h : 224 ≤ x ∧ x ≤ 239) : (af tab (k + 1)).fn "utf8_lead" [.int x] [] = some (.tup [.int 3,.int (if x = 224 then 160 else 128),.int (if x = 237 then 159 else 191)]):=by
 refine cP ?_
 have h1 : ¬ x < 128:=by lia
 have h2 : 194 ≤ x:=by lia
 have h3 : ¬ x ≤ 223:=by lia
 simp_arith [h1,h2,h3,h.1,h.2]
 rw [condE (A:=fun b =>some (V.tup [.int 3,.int 160,.int b])),condE (A:=fun b =>some (V.tup [.int 3,.int 128,.int b]))]
 exact condE (A:=fun a =>some (V.tup [.int 3,.int a,.int (if x = 237 then 159 else 191)]))
theorem lead4 (h : 240 ≤ x ∧ x ≤ 244) : (af tab (k + 1)).fn "utf8_lead" [.int x] [] = some (.tup [.int 4,.int (if x = 240 then 144 else 128),.int (if x = 244 then 143 else 191)]):=by
 refine cP ?_
 have h1 : ¬ x < 128:=by lia
 have h2 : 194 ≤ x:=by lia
 have h3 : ¬ x ≤ 223:=by lia
 have h4 : 224 ≤ x:=by lia
 have h5 : ¬ x ≤ 239:=by lia
 simp_arith [h1,h2,h3,h4,h5,h.1,h.2]
 rw [condE (A:=fun b =>some (V.tup [.int 4,.int 144,.int b])),condE (A:=fun b =>some (V.tup [.int 4,.int 128,.int b]))]
 exact condE (A:=fun a =>some (V.tup [.int 4,.int a,.int (if x = 244 then 143 else 191)]))
noncomputable def bX (x : Int) : List Int :=
 if x < 128 then [x] else if x < 2048 then [192 + x / 64,128 + x % 64]
 else if x < 65536 then [224 + x / 4096,128 + x / 64 % 64,128 + x % 64]
 else [240 + x / 262144,128 + x / 4096 % 64,128 + x / 64 % 64,128 + x % 64]
theorem bor128 {x : Int} : Builtin.bitOr 128 (x % 64) = 128 + x % 64:=dM (a:=2) 6 rfl (by lia) (by lia) (by lia)
theorem utf8_octets_eq (h0 : 0 ≤ x) (h1 : x ≤ 1114111) : (af tab (k + 1)).fn "utf8_octets" [.int x] [] = some (.list ((bX x).map .int)):=by
 refine sh_utf8_octets ?_
 have b0:=band63 (x:=x) h0
 have b1:=band63 (x:=x / 64) (by lia)
 have b2:=band63 (x:=x / 4096) (by lia)
 unfold bX
 by_cases c1 : x < 128
 ·rw [if_pos c1]; simp_arith [c1]; rfl
 ·rw [if_neg c1]
  by_cases c2 : x < 2048
  ·rw [if_pos c2]
   have e:=dM (a:=6) (b:=x / 64) (m:=192) 5 rfl (by lia) (by lia) (by lia)
   simp_arith! [c1,c2,b0,bor128,e]; rfl
  ·rw [if_neg c2]
   by_cases c3 : x < 65536
   ·rw [if_pos c3]
    have e:=dM (a:=14) (b:=x / 4096) (m:=224) 4 rfl (by lia) (by lia) (by lia)
    simp_arith! [c1,c2,c3,b0,b1,bor128,e]; rfl
   ·rw [if_neg c3]
    have e:=dM (a:=30) (b:=x / 262144) (m:=240) 3 rfl (by lia) (by lia) (by lia)
    simp_arith! [c1,c2,c3,b0,b1,b2,bor128,e,List.length_cons,List.length_nil,List.cons_append,List.nil_append]; rfl
theorem utf16_joined_eq {y : Int} (h0 : 55296 ≤ x) (h1 : x ≤ 56319) : (af tab (k + 1)).fn "utf16_joined" [.int x,.int y] [] = some (.int (65536 + (x - 55296) * 1024 + (y - 56320))):=by
 refine sh_utf16_joined ?_
 have hs : small (x - 55296) = true:=bC (by lia) (by lia)
 simp_arith! [hs]
theorem sneF {o s : String} (h : ¬ o = s) : (o == s) = false:=beq_eq_false_iff_ne.mpr h
theorem utf16_octets_eq {o : String} (h0 : 0 ≤ x) : (af tab (k + 1)).fn "utf16_octets" [.int x,.str o] [] = some (.list ((if o = "be" then [x / 256,x % 256] else [x % 256,x / 256]).map .int)):=by
 refine sh_utf16_octets ?_
 by_cases c : o = "be"
 ·rw [if_pos c]; simp_arith! [c,beq_self_eq_true,band255 h0]; rfl
 ·rw [if_neg c]; simp_arith! [sneF c,band255 h0]; rfl
theorem ed {ks : List Int} {at_ a b : Int} {o : String} (hl : ks.length ≤ 1048576) (ha : aH ks at_ = some a) (hb : aH ks (at_ + 1) = some b) (a0 : 0 ≤ a ∧ a < 256) (b0 : 0 ≤ b ∧ b < 256) : (af tab (k + 1)).fn "utf16_unit" [.bytes ks,.int at_,.str o] [] = some (.int (if o = "be" then a * 256 + b else b * 256 + a)):=by
 refine sh_utf16_unit ?_
 have hs1 : small a = true:=bC (by lia) (by lia)
 have hs2 : small b = true:=bC (by lia) (by lia)
 by_cases c : o = "be"
 ·rw [if_pos c]
  simp_arith! [c,beq_self_eq_true,hl,ha,hb,hs1,or256 a0.1 b0.1 b0.2]
 ·rw [if_neg c]
  simp_arith! [sneF c,hl,ha,hb,hs2,or256 b0.1 a0.1 a0.2]
end
noncomputable abbrev bu : Str:="a sequence that is cut short"
noncomputable abbrev sBroken : Str:="a sequence that breaks off"
noncomputable abbrev sAlone : Str:="a trail octet without a lead"
noncomputable abbrev sNever : Str:="an octet that never stands"
noncomputable abbrev Pc:=Int × Option Int × Str
noncomputable def aC : Nat → Int → Int → Int → Int → List Int → Pc
 | 0,d,_,_,code,_ =>(d,some code,"")
 | _ + 1,d,_,_,_,[] =>(d,none,bu)
 | k + 1,d,lo,hi,code,o :: r =>if lo ≤ o ∧ o ≤ hi then aC k (d + 1) 128 191 (code * 64 + o % 64) r else (d,none,sBroken)
noncomputable def ai : List Int → Pc
 | [] =>(1,none,"")
 | b :: r =>if b < 128 then (1,some b,"") else if 194 ≤ b ∧ b ≤ 223 then aC 1 1 128 191 (b % 32) r
  else if 224 ≤ b ∧ b ≤ 239 then aC 2 1 (if b = 224 then 160 else 128) (if b = 237 then 159 else 191) (b % 16) r
  else if 240 ≤ b ∧ b ≤ 244 then aC 3 1 (if b = 240 then 144 else 128) (if b = 244 then 143 else 191) (b % 8) r
  else (1,none,if b < 192 then sAlone else sNever)
noncomputable def eu : Option Int → V
 | some c =>.int c
 | none =>.none
noncomputable def gJ (p : Pc) : V:=.tup [.int p.1,eu p.2.1,.str p.2.2]
noncomputable def Oct (l : List Int) : Prop:=∀ x ∈ l,0 ≤ x ∧ x < 256
theorem itNat {l : List Int} {j : Int} (n : Nat) (h : j = n) : aH l j = l[n]?:=by
 subst h
 unfold aH
 rw [if_pos (Int.natCast_nonneg n)]
 split
 ·rw [Int.toNat_natCast]
 ·rename_i c; rw [List.getElem?_eq_none (Nat.le_of_not_lt fun d =>c (Int.ofNat_lt.mpr d))]
theorem bG {ks l : List Int} {a : Nat} (h : ks.drop a = l) (j : Nat) (hj : j < l.length) : aH ks ((a : Int) + j) = l[j]?:=by
 subst h; rw [itNat (a + j) (Int.natCast_add a j).symm,List.getElem?_drop]
theorem eq {ks l : List Int} {a : Nat} (h : ks.drop a = l) (ha : a ≤ ks.length) : (ks.length : Int) = a + l.length:=by
 subst h; rw [List.length_drop,← Int.natCast_add,Nat.add_sub_of_le ha]
theorem Oct.cons {a : Int} {l : List Int} (h : Oct (a :: l)) : (0 ≤ a ∧ a < 256) ∧ Oct l:=⟨h a (.head _),fun x hx =>h x (.tail _ hx)⟩
theorem Oct.drop {l : List Int} (h : Oct l) (n : Nat) : Oct (l.drop n):=fun x hx =>h x (List.mem_of_mem_drop hx)
theorem Oct.take {l : List Int} (h : Oct l) (n : Nat) : Oct (l.take n):=fun x hx =>h x (List.mem_of_mem_take hx)
theorem Oct.append {l m : List Int} (h : Oct l) (h2 : Oct m) : Oct (l ++ m):=fun x hx =>(List.mem_append.mp hx).elim (h x) (h2 x)
section
variable {k : Nat} {ks : List Int} {i b c lo hi : Int}
theorem bN {x : Str} {v : V} : ∀ {g : Gam},thaw (ae x (.val v) g) = ae x (.val v) (thaw g)
 | [] =>rfl
 | (y,a) :: r =>by
  cases h : y == x with
  | true =>
   simp only [ae,if_pos h]
   cases a <;> (simp only [thaw]; simp only [ae,if_pos h])
  | false =>
   have h' : ¬ (y == x) = true:=by rw [h]; exact Bool.false_ne_true
   simp only [ae,if_neg h']
   cases a <;> (simp only [thaw]; simp only [ae,if_neg h',bN])
noncomputable def Bd : Nat → Int → Prop
 | 0,_ =>True
 | 1,x =>0 ≤ x ∧ x < 32768
 | 2,x =>0 ≤ x ∧ x < 512
 | 3,x =>0 ≤ x ∧ x < 8
 | _,_ =>False
theorem eF {x : Int} : ∀ {q : Nat},Bd (q + 1) x → 0 ≤ x ∧ x < 32768
 | 0,h =>h
 | 1,h =>⟨h.1,Int.lt_trans h.2 (by decide)⟩
 | 2,h =>⟨h.1,Int.lt_trans h.2 (by decide)⟩
theorem bd_step {x y : Int} (hy : 0 ≤ y ∧ y < 64) : ∀ {q : Nat},Bd (q + 1) x → Bd q (x * 64 + y)
 | 0,_ =>trivial
 | 1,h =>by have h : 0 ≤ x ∧ x < 512:=h; show 0 ≤ x * 64 + y ∧ x * 64 + y < 32768; lia
 | 2,h =>by have h : 0 ≤ x ∧ x < 8:=h; show 0 ≤ x * 64 + y ∧ x * 64 + y < 512; lia
theorem bd_step' {x y : Int} {q : Nat} (hy : 0 ≤ y ∧ y < 64) (h : Bd (q + 1) x) : Bd q (64 * x + y):=by rw [Int.mul_comm]; exact bd_step hy h
theorem mod64 {o : Int} : 0 ≤ o % 64 ∧ o % 64 < 64:=⟨Int.emod_nonneg _ (by decide),Int.emod_lt_of_pos _ (by decide)⟩
theorem eY {i m : Int} {l : V} : ∀ (q d : Nat) (lo hi c : Int) (r : List Int) (ex : Gam),m = (d + q : Nat) → ks.length ≤ 1048576 → (∀ j : Nat,j < r.length → aH ks (i + (d + j : Nat)) = r[j]?) → (ks.length : Int) = i + d + r.length → Oct r → Bd q c →
  Out (bt 33 (wt (af tab k)) R28.sc R28.mu (ar (sAt (blk R28.body []) 5)) (blk R28.body [5]) ((List.range' d q).map fun (j : Nat) =>V.int (j : Int)) (("octets",.val (.bytes ks)) :: ("at",.val (.int i)) :: ("lead",.val l) :: ("many",.val (.int m)) :: ("low",.val (.int lo)) :: ("high",.val (.int hi)) :: ("code",.val (.int c)) :: ex))
   fun fl =>flC fl (fun g =>exsK 34 (wt (af tab k)) R28.sc R28.mu g ((blk R28.body []).drop 6) ak) (fun g =>ak (.brk g)) (fun w g =>ak (.ret w g)) = some (gJ (aC q d lo hi c r))
 | 0,d,lo,hi,c,r,ex,hm,hl,hr,hn,ho,hcb =>by
  refine for_nil ?_
  subst hm
  dsimp only [fN]
  exact sha_utf8_piece rfl
 | q + 1,d,lo,hi,c,r,ex,hm,hl,hr,hn,ho,hcb =>by
  simp only [List.range'_succ,List.map_cons]
  refine fz (g1:=("octets",.val (.bytes ks)) :: ("at",.val (.int i)) :: ("lead",.val l) :: ("many",.val (.int m)) :: ("low",.val (.int lo)) :: ("high",.val (.int hi)) :: ("code",.val (.int c)) :: ae "behind" (AV.val (.int d)) ex) (by kernel_rfl) (shb_utf8_piece ?_)
  have hne : (("behind" : Str) == ("octet" : Str)) = false:=by kernel_rfl
  rcases r with _ | ⟨o,r⟩
  ·have L1 : (ks.length : Int) ≤ i + d:=by simp at hn; lia
   simp_arith only [bN,hl,L1]
   rfl
  ·have L1 : ¬ (ks.length : Int) ≤ i + d:=by simp at hn; lia
   have h1 : aH ks (i + d) = some o:=hr 0 (by simp)
   simp_arith only [bN,hl,L1,hne,h1]
   unfold aC
   by_cases h2 : lo ≤ o
   ·by_cases h3 : o ≤ hi
    ·have b2 : Builtin.bitAnd o 63 = o % 64:=band63 ho.cons.1.1
     have b3 : Builtin.bitOr (c * 64) (o % 64) = c * 64 + o % 64:=or64 (eF hcb).1 mod64.1 mod64.2
     simp_arith! [h2,h3,b2,b3,bC (eF hcb).1 (Int.lt_trans (eF hcb).2 (by decide)),hne]
     rw [if_pos ⟨trivial,trivial⟩]
     exact eY q (d + 1) 128 191 _ r _ (by lia) hl (fun j hj =>by have:=hr (j + 1) (by simpa using hj); rw [← Nat.add_assoc,Nat.add_right_comm] at this; rw [this]; rfl) (by simp at hn; lia) ho.cons.2 (bd_step mod64 hcb)
    ·simp_arith! [h2,h3,hne]; rw [if_neg (fun h =>h.2)]; rfl
   ·simp_arith! [h2,hne]; rw [if_neg (fun h =>h.1)]; rfl
theorem rg2 : bM "range" [.int 1,.int 2] = some ((List.range' 1 1).map fun (j : Nat) =>V.int (j : Int)):=by kernel_rfl
theorem rg3 : bM "range" [.int 1,.int 3] = some ((List.range' 1 2).map fun (j : Nat) =>V.int (j : Int)):=by kernel_rfl
theorem rg4 : bM "range" [.int 1,.int 4] = some ((List.range' 1 3).map fun (j : Nat) =>V.int (j : Int)):=by kernel_rfl
theorem sh2 : ag .RShift (.int 127) (.int 2) = some (.int 31):=by kernel_rfl
theorem sh3 : ag .RShift (.int 127) (.int 3) = some (.int 15):=by kernel_rfl
theorem sh4 : ag .RShift (.int 127) (.int 4) = some (.int 7):=by kernel_rfl
end
theorem ef {k : Nat} {ks : List Int} {a : Nat} (hl : ks.length ≤ 1048576) (ha : a < ks.length) (ho : Oct ks) : (af tab (k + 2)).fn "utf8_piece" [.bytes ks,.int a] [] = some (gJ (ai (ks.drop a))):=by
 refine sh_utf8_piece ?_
 have hd:=ho.drop a
 cases hr : ks.drop a with
 | nil =>have:=congrArg List.length hr; simp at this; lia
 | cons b r =>
  rw [hr] at hd
  have hn:=eq hr (Nat.le_of_lt ha)
  have hn' : (ks.length : Int) = a + (1 : Nat) + r.length:=by simp at hn; lia
  have h0 : aH ks a = some b:=by
   have:=bG hr 0 (by simp)
   simpa using this
  have hj : ∀ j : Nat,j < r.length → aH ks ((a : Int) + (1 + j : Nat)) = r[j]?:=fun j h =>by
   have:=bG hr (j + 1) (by simpa using h)
   simp only [Nat.add_comm 1 j,this]; rfl
  have ob:=hd.cons.1
  have or:=hd.cons.2
  have i0 : al (.bytes ks) (.int a) = some (.int b):=(itB hl).trans (by rw [h0]; rfl)
  refine bE i0 (bE i0 ?_)
  rw [ai]
  by_cases c1 : b < 128
  ·rw [if_pos c1]
   simp_arith! [hl,h0,lead1 c1]; rfl
  rw [if_neg c1]
  by_cases c2 : 194 ≤ b ∧ b ≤ 223
  ·rw [if_pos c2]
   simp_arith [hl,h0,lead2 c2,sh2,rg2,dr 5 (show (31 : Int) = 2 ^ 5 - 1 from rfl) ob.1]
   exact bH (eY 1 1 _ _ _ r [] (by simp) hl hj hn' or ⟨Int.emod_nonneg _ (by decide),Int.lt_trans (Int.emod_lt_of_pos _ (by decide)) (by decide)⟩)
  rw [if_neg c2]
  by_cases c3 : 224 ≤ b ∧ b ≤ 239
  ·rw [if_pos c3]
   simp_arith only [hl,h0,lead3 c3,sh3,rg3,dr 4 (show (15 : Int) = 2 ^ 4 - 1 from rfl) ob.1]
   exact bH (eY 2 1 _ _ _ r [] (by simp) hl hj hn' or ⟨Int.emod_nonneg _ (by decide),Int.lt_trans (Int.emod_lt_of_pos _ (by decide)) (by decide)⟩)
  rw [if_neg c3]
  by_cases c4 : 240 ≤ b ∧ b ≤ 244
  ·rw [if_pos c4]
   simp_arith only [hl,h0,lead4 c4,sh4,rg4,dr 3 (show (7 : Int) = 2 ^ 3 - 1 from rfl) ob.1]
   exact bH (eY 3 1 _ _ _ r [] (by simp) hl hj hn' or ⟨Int.emod_nonneg _ (by decide),Int.emod_lt_of_pos _ (by decide)⟩)
  rw [if_neg c4]
  have c5 : (128 ≤ b ∧ b < 194) ∨ 245 ≤ b:=by lia
  by_cases c6 : b < 192
  ·rw [if_pos c6]; simp_arith! [hl,h0,lead0 c5,c6]; rfl
  ·rw [if_neg c6]; simp_arith! [hl,h0,lead0 c5,c6]; rfl
theorem eC : ∀ (k : Nat) (d lo hi code : Int) (r : List Int),d ≤ (aC k d lo hi code r).1 ∧ (aC k d lo hi code r).1 ≤ d + r.length
 | 0,d,_,_,_,r =>by simp [aC]; lia
 | k + 1,d,_,_,_,[] =>by simp [aC]
 | k + 1,d,lo,hi,code,o :: r =>by
  rw [aC]
  split
  ·have:=eC k (d + 1) 128 191 (code * 64 + o % 64) r
   simp only [List.length_cons]; lia
  ·simp only [List.length_cons]; lia
theorem bm {l : List Int} (h : l ≠ []) : 1 ≤ (ai l).1 ∧ (ai l).1 ≤ l.length:=by
 cases l with
 | nil =>exact absurd rfl h
 | cons b r =>
  simp only [ai,List.length_cons]
  split
  ·simp only; lia
  ·split
   ·have:=eC 1 1 128 191 (b % 32) r; lia
   ·split
    ·have:=eC 2 1 (if b = 224 then 160 else 128) (if b = 237 then 159 else 191) (b % 16) r; omega
    ·split
     ·have:=eC 3 1 (if b = 240 then 144 else 128) (if b = 244 then 143 else 191) (b % 8) r; omega
     ·simp only; lia
noncomputable def run (last : Bool) (l : List Int) : List Int × List Int :=
 if h : l = [] then ([],[]) else
  if (ai l).2.2 = bu ∧ last = false then ([],l)
  else ((ai l).2.1.getD 65533 :: (run last (l.drop (ai l).1.toNat)).1,(run last (l.drop (ai l).1.toNat)).2)
termination_by l.length
decreasing_by all_goals exact dec_ h (bm h).1
theorem dp {last : Bool} : run last [] = ([],[]):=by rw [run]; rfl
theorem dw {last : Bool} {l : List Int} (h : l ≠ []) (h2 : (ai l).2.2 = bu ∧ last = false) : run last l = ([],l):=by rw [run,dif_neg h,if_pos h2]
theorem cN {last : Bool} {l : List Int} (h : l ≠ []) (h2 : ¬ ((ai l).2.2 = bu ∧ last = false)) : run last l = ((ai l).2.1.getD 65533 :: (run last (l.drop (ai l).1.toNat)).1,(run last (l.drop (ai l).1.toNat)).2):=by
 rw [run,dif_neg h,if_neg h2]
theorem run_len (last : Bool) : ∀ (n : Nat) (l : List Int),l.length ≤ n → (run last l).1.length + (run last l).2.length ≤ l.length
 | _,[],_ =>by rw [dp]; simp
 | 0,_ :: _,h =>by simp at h
 | n + 1,b :: r,h =>by
  have hne : b :: r ≠ []:=by simp
  by_cases h2 : (ai (b :: r)).2.2 = bu ∧ last = false
  ·rw [dw hne h2]; simp
  ·rw [cN hne h2]
   have hb:=bm hne
   have:=run_len last n ((b :: r).drop (ai (b :: r)).1.toNat) (dnD hb.1 h)
   rw [List.length_drop] at this
   exact rl_ hb.1 hb.2 this
theorem bw {ks : List Int} {a : Nat} (h : a < ks.length) : ks.drop a ≠ []:=by
 intro e; have:=congrArg List.length e; simp at this; lia
theorem decode_utf8_replaced_eq {k : Nat} {ks : List Int} (hl : ks.length ≤ 1000) (ho : Oct ks) : (af tab (k + 3)).fn "decode_utf8_replaced" [.bytes ks] [] = some (.list ((run true ks).1.map .int)):=by
 have hl' : ks.length ≤ 1048576:=by lia
 refine sh_decode_utf8_replaced (bH (fv (L:=ks.length) (d:=0) (E:=fun a (fs : List Int) ex =>("octets",.val (.bytes ks)) :: ("found",.own (fs.map .int)) :: ("at",.val (.int a)) :: ex) (J:=fun a fs =>fs ++ (run true (ks.drop a)).1 = (run true ks).1) hl ?_ ?_ ?_ (Nat.zero_le _) rfl))
 ·intro a fs ex
  refine sht_decode_utf8_replaced ?_
  simp_arith only [hl']
 ·intro a fs ex hlt hfs h6
  have hp:=ef (k:=k) hl' hlt ho
  have hb:=bm (bw hlt)
  rw [List.length_drop] at hb
  rw [cN (last:=true) (bw hlt) (fun h =>nomatch h.2),List.drop_drop] at h6
  refine shb_decode_utf8_replaced ?_
  have e1 : (("code" : Str) == ("wrong" : Str)) = false:=by kernel_rfl
  have e2 : (("many" : Str) == ("wrong" : Str)) = false:=by kernel_rfl
  have e3 : (("many" : Str) == ("code" : Str)) = false:=by kernel_rfl
  have hm:=nx4 (a:=a) hb.1
  cases hz : (ai (ks.drop a)).2.1 with
  | none =>
   rw [hz] at h6
   simp_arith! [hp,gJ,hz,eu,e1,e2,e3,List.length_map,hfs,hm]
   exact ⟨_,65533,_,by rw [mapS],hb.1,hb.2,by rw [List.append_assoc]; exact h6⟩
  | some c =>
   rw [hz] at h6
   simp_arith only [hp,gJ,hz,eu,e1,e2,e3,List.length_map,hfs,hm]
   exact ⟨_,c,_,by rw [mapS],hb.1,hb.2,by rw [List.append_assoc]; exact h6⟩
 ·intro fs ex _ h6
  rw [List.drop_length,dp,List.append_nil] at h6
  rw [fN,h6]
  exact sha_decode_utf8_replaced rfl
noncomputable def fl8 (w : List Int) (n : Int) : List (Str × V):=[("is_strict",.bool false),("waiting",.bytes w),("place",.int n)]
theorem init8_eq {k : Nat} : (af tab (k + 1)).cls "Utf8Stream" [] = some (fl8 [] 0):=sh_Utf8Stream_init rfl
noncomputable def out8 (w p : List Int) (n : Int) (last : Bool) : V × List (Str × V):=(.list ((run last (w ++ p)).1.map .int),fl8 (if last = true then [] else (run last (w ++ p)).2) (if last = true then 0 else n + ((w ++ p).length - (run last (w ++ p)).2.length : Nat)))
theorem fin8_eq {k a : Nat} {w p : List Int} {n : Int} {last : Bool} {ex : Gam} (hl : (w ++ p).length ≤ 1000) (ha : a ≤ (w ++ p).length) (hd : (w ++ p).drop a = (run last (w ++ p)).2) : exsK 38 (wt (af tab k)) cH.sc cH.mu (("self",.inst "Utf8Stream" [("is_strict",V.bool false),("waiting",V.bytes w),("place",V.int n)]) :: ("octets",.val (.bytes p)) :: ("is_last",.val (.bool last)) :: ("whole",.val (.bytes (w ++ p))) :: ("found",.own ((run last (w ++ p)).1.map V.int)) :: ("at",.val (.int a)) :: ex) ((blk cH.body []).drop 2) bQ = some (out8 w p n last):=by
 refine sha_feed8 ?_
 unfold out8
 have hl' : (w ++ p).length ≤ 1048576:=by lia
 cases last with
 | true =>rfl
 | false =>
  have hna : (a : Int).natAbs < 4611686018427387904:=by lia
  have hx:=congrArg List.length hd
  rw [List.length_drop] at hx
  have ha' : (w ++ p).length - (run false (w ++ p)).2.length = a:=by rw [← hx]; exact Nat.sub_sub_self ha
  simp_arith only [hna,hl',di,hd,ha']
  rfl
theorem feed8_eq {k : Nat} {w p : List Int} {n : Int} {last : Bool} (hw : w.length + p.length ≤ 1000) (ho : Oct (w ++ p)) : (af tab (k + 3)).mth "Utf8Stream" "feed" (fl8 w n) [.bytes p,.bool last] = some (out8 w p n last):=by
 have hl1 : w.length + p.length ≤ 1048576:=by lia
 have hl2 : (w ++ p).length ≤ 1000:=by rw [List.length_append]; exact hw
 have hl' : (w ++ p).length ≤ 1048576:=by lia
 refine sh_Utf8Stream_feed (Eq.trans (congrArg (Option.bind · _) (adB hl1)) (bH (fv (L:=(w ++ p).length) (d:=0) (E:=fun a (fs : List Int) ex =>("self",.inst "Utf8Stream" [("is_strict",V.bool false),("waiting",V.bytes w),("place",V.int n)]) :: ("octets",.val (.bytes p)) :: ("is_last",.val (.bool last)) :: ("whole",.val (.bytes (w ++ p))) :: ("found",.own (fs.map .int)) :: ("at",.val (.int a)) :: ex) (J:=fun a fs =>fs ++ (run last ((w ++ p).drop a)).1 = (run last (w ++ p)).1 ∧ (run last ((w ++ p).drop a)).2 = (run last (w ++ p)).2) hl2 ?_ ?_ ?_ (Nat.zero_le _) ⟨rfl,rfl⟩)))
 ·intro a fs ex
  refine sht_feed8 ?_
  simp_arith! [hl']
 ·intro a fs ex hlt hfs ⟨h6,h7⟩
  have hp:=ef (k:=k) hl' hlt ho
  have hb:=bm (bw hlt)
  rw [List.length_drop] at hb
  refine shb_feed8 ?_
  have e1 : (("code" : Str) == ("wrong" : Str)) = false:=by kernel_rfl
  have e2 : (("many" : Str) == ("wrong" : Str)) = false:=by kernel_rfl
  have e3 : (("many" : Str) == ("code" : Str)) = false:=by kernel_rfl
  have hm:=nx4 (a:=a) hb.1
  have next : ∀ (c : Int),(ai ((w ++ p).drop a)).2.1.getD 65533 = c → ¬ ((ai ((w ++ p).drop a)).2.2 = bu ∧ last = false) → (fs ++ [c]) ++ (run last ((w ++ p).drop (a + (ai ((w ++ p).drop a)).1.toNat))).1 = (run last (w ++ p)).1 ∧ (run last ((w ++ p).drop (a + (ai ((w ++ p).drop a)).1.toNat))).2 = (run last (w ++ p)).2:=by
   intro c hz hs
   simp only [cN (bw hlt) hs,List.drop_drop,hz] at h6 h7
   exact ⟨by rw [List.append_assoc]; exact h6,h7⟩
  by_cases hs : (ai ((w ++ p).drop a)).2.2 = bu ∧ last = false
  ·have hs1 : ((ai ((w ++ p).drop a)).2.2 == bu) = true:=by rw [hs.1]; exact beq_self_eq_true _
   rw [dw (bw hlt) hs] at h6 h7
   rw [List.append_nil] at h6
   have hs2:=hs.2
   subst hs2
   simp_arith only [hp,gJ,e1,e2,e3,hs1]
   rw [h6]
   exact fin8_eq hl2 (Nat.le_of_lt hlt) h7
  ·simp_arith [hp,gJ,e1,e2,e3]
   refine cR (fun hb =>cE' (by cases last with | true =>rfl | false =>exact absurd ⟨beq_iff_eq.mp hb,rfl⟩ hs) rfl) ?_
   cases hz : (ai ((w ++ p).drop a)).2.1 with
   | none =>
    simp_arith! [hz,eu,e1,e2,e3,List.length_map,hfs,hm]
    exact ⟨_,65533,_,by rw [mapS],hb.1,hb.2,next _ (by rw [hz]; rfl) hs⟩
   | some c =>
    simp_arith only [hz,eu,e1,e2,e3,List.length_map,hfs,hm]
    exact ⟨_,c,_,by rw [mapS],hb.1,hb.2,next _ (by rw [hz]; rfl) hs⟩
 ·intro fs ex _ ⟨h6,h7⟩
  rw [List.drop_length,dp] at h6 h7
  rw [List.append_nil] at h6
  rw [fN,h6]
  exact fin8_eq hl2 (Nat.le_refl _) (by rw [List.drop_length]; exact h7)
theorem feed8_aux {k : Nat} {w p : List Int} {n : Int} {last : Bool} (hw : w.length + p.length ≤ 1000) (ho : Oct (w ++ p)) : Out ((af tab (k + 3)).mth "Utf8Stream" "feed" (fl8 w n) [.bytes p,.bool last]) (fun x =>∃ n',x = (.list ((run last (w ++ p)).1.map .int),fl8 (if last = true then [] else (run last (w ++ p)).2) n')):=⟨_,feed8_eq hw ho,_,rfl⟩
noncomputable def Sca (x : Int) : Prop:=(0 ≤ x ∧ x < 55296) ∨ (57344 ≤ x ∧ x ≤ 1114111)
theorem sca_iff {x : Int} : isSca x = true ↔ Sca x:=by
 unfold isSca dk Sca
 simp only [Bool.and_eq_true,decide_eq_true_eq,Bool.not_eq_true',Bool.and_eq_false_iff,decide_eq_false_iff_not]
 constructor
 ·rintro ⟨⟨a,b⟩,c | c⟩
  ·exact .inl ⟨a,Int.not_le.mp c⟩
  ·exact .inr ⟨Int.not_le.mp c,b⟩
 ·rintro (⟨a,b⟩ | ⟨a,b⟩)
  ·exact ⟨⟨a,Int.le_trans (Int.le_of_lt b) (by decide)⟩,.inl (Int.not_le.mpr b)⟩
  ·exact ⟨⟨Int.le_trans (by decide) a,b⟩,.inr (Int.not_le.mpr a)⟩
theorem Sca.b {x : Int} (h : Sca x) : isSca x = true:=sca_iff.mpr h
noncomputable def cw (l : List Int) : Prop:=∀ x ∈ l,Sca x
theorem cw.cons {a : Int} {l : List Int} (h : cw (a :: l)) : Sca a ∧ cw l:=⟨h a (.head _),fun x hx =>h x (.tail _ hx)⟩
theorem intsV_map : ∀ l : List Int,gm (l.map .int) = some l
 | [] =>rfl
 | a :: r =>by simp only [List.map_cons,gm,intsV_map r]; rfl
theorem dl {x : Int} (a : Int) (h : a * 64 ≤ x) : a ≤ x / 64:=Int.le_ediv_of_mul_le (by decide) h
theorem dh {x : Int} (a : Int) (h : x < a * 64) : x / 64 < a:=Int.ediv_lt_of_lt_mul (by decide) h
theorem dd2 {x : Int} : x / 4096 = x / 64 / 64:=(Int.ediv_ediv_of_nonneg (x:=x) (y:=64) (z:=64) (by decide)).symm
theorem dd3 {x : Int} : x / 262144 = x / 64 / 64 / 64:=(Int.ediv_ediv_of_nonneg (x:=x) (y:=4096) (z:=64) (by decide)).symm.trans (congrArg (· / 64) dd2)
theorem lo_ {b q a n : Int} (h : a ≤ q) (d : n ≤ b + a) : n ≤ b + q:=Int.le_trans d (Int.add_le_add_left h b)
theorem hi_ {b q a n : Int} (h : q < a) (d : b + a ≤ n) : b + q < n:=Int.lt_of_lt_of_le (Int.add_lt_add_left h b) d
theorem am {m q : Int} (k : Int) (h0 : 0 ≤ q) (h : q < m) : (m * k + q) % m = q:=by rw [Int.add_comm,Int.add_mul_emod_self_left,Int.emod_eq_of_lt h0 h]
theorem md0 {y : Int} : 0 ≤ y % 64:=Int.emod_nonneg _ (by decide)
theorem md1 {y : Int} : y % 64 < 64:=Int.emod_lt_of_pos _ (by decide)
theorem in6 {y : Int} : 128 ≤ 128 + y % 64 ∧ 128 + y % 64 ≤ 191:=⟨lo_ md0 (by decide),Int.le_of_lt_add_one (b:=191) (hi_ md1 (by decide))⟩
theorem oc1 {a : Int} {l : List Int} (h : 0 ≤ a ∧ a < 256) (h2 : Oct l) : Oct (a :: l):=fun x hx =>(List.mem_cons.mp hx).elim (fun e =>e ▸ h) (h2 x)
theorem omd {x : Int} : 0 ≤ x % 256 ∧ x % 256 < 256:=⟨Int.emod_nonneg _ (by decide),Int.emod_lt_of_pos _ (by decide)⟩
theorem odv {x : Int} (c : Int) (hc : 0 < c) (h : 0 ≤ x) (h2 : x < 256 * c) : 0 ≤ x / c ∧ x / c < 256:=⟨Int.ediv_nonneg h (Int.le_of_lt hc),Int.ediv_lt_of_lt_mul hc h2⟩
theorem oc0 : Oct []:=fun x hx =>nomatch hx
theorem oc6 {y : Int} {l : List Int} (h : Oct l) : Oct ((128 + y % 64) :: l):=oc1 ⟨lo_ md0 (by decide),hi_ md1 (by decide)⟩ h
theorem ocd {b q c : Int} (d : Int) {l : List Int} (h0 : 0 ≤ q) (h1 : q < d * c) (hc : 0 < c) (hb : 0 ≤ b) (h : b + d ≤ 256) (k : Oct l) : Oct ((b + q / c) :: l):=oc1 ⟨Int.add_nonneg hb (Int.ediv_nonneg h0 (Int.le_of_lt hc)),hi_ (Int.ediv_lt_of_lt_mul hc h1) h⟩ k
theorem Sca.rg {x : Int} (h : Sca x) : 0 ≤ x ∧ x < 1114112:=h.elim (fun h =>⟨h.1,Int.lt_trans h.2 (by decide)⟩) fun h =>⟨Int.le_trans (by decide) h.1,Int.lt_of_le_of_lt h.2 (by decide)⟩
theorem oct8_oct {x : Int} (h : Sca x) : Oct (bX x):=by
 unfold bX
 have r:=h.rg
 by_cases c1 : x < 128
 ·rw [if_pos c1]; exact oc1 ⟨r.1,Int.lt_trans c1 (by decide)⟩ oc0
 ·rw [if_neg c1]
  by_cases c2 : x < 2048
  ·rw [if_pos c2]; exact ocd 32 r.1 c2 (by decide) (by decide) (by decide) (oc6 oc0)
  ·rw [if_neg c2]
   by_cases c3 : x < 65536
   ·rw [if_pos c3]; exact ocd 16 r.1 c3 (by decide) (by decide) (by decide) (oc6 (oc6 oc0))
   ·rw [if_neg c3]; exact ocd 5 r.1 (Int.lt_trans r.2 (by decide)) (by decide) (by decide) (by decide) (oc6 (oc6 (oc6 oc0)))
theorem oct8_len {x : Int} : 1 ≤ (bX x).length ∧ (bX x).length ≤ 4:=by
 unfold bX
 split
 ·simp
 ·split
  ·simp
  ·split <;> simp
theorem enc8_oct : ∀ {l : List Int},cw l → Oct (l.flatMap bX)
 | [],_ =>fun x hx =>by cases hx
 | a :: r,h =>by rw [List.flatMap_cons]; exact (oct8_oct h.cons.1).append (enc8_oct h.cons.2)
theorem fx : ∀ {l : List Int},(l.flatMap bX).length ≤ 4 * l.length
 | [] =>by simp
 | a :: r =>by
  have h1:=fx (l:=r)
  have h2:=oct8_len (x:=a)
  simp only [List.flatMap_cons,List.length_append,List.length_cons]; lia
theorem t6 {y : Int} : (128 + y % 64) % 64 = y % 64:=am (m:=64) 2 md0 md1
theorem j6 {y : Int} : y / 64 * 64 + y % 64 = y:=Int.ediv_mul_add_emod y 64
theorem ld2 {q : Int} (h : 2 ≤ q ∧ q < 32) : ¬ 192 + q < 128 ∧ (194 ≤ 192 + q ∧ 192 + q ≤ 223) ∧ (192 + q) % 32 = q:=⟨Int.not_lt.mpr (lo_ h.1 (by decide)),⟨lo_ h.1 (by decide),Int.le_of_lt_add_one (b:=223) (hi_ h.2 (by decide))⟩,am (m:=32) 6 (Int.le_trans (by decide) h.1) h.2⟩
theorem ld3 {q : Int} (h : 0 ≤ q ∧ q < 16) : ¬ 224 + q < 128 ∧ ¬ (194 ≤ 224 + q ∧ 224 + q ≤ 223) ∧ (224 ≤ 224 + q ∧ 224 + q ≤ 239) ∧ (224 + q) % 16 = q:=⟨Int.not_lt.mpr (lo_ h.1 (by decide)),fun c =>Int.not_le.mpr (show (223 : Int) + 1 ≤ 224 + q from lo_ h.1 (by decide)) c.2,⟨lo_ h.1 (by decide),Int.le_of_lt_add_one (b:=239) (hi_ h.2 (by decide))⟩,am (m:=16) 14 h.1 h.2⟩
theorem ld4 {q : Int} (h : 0 ≤ q ∧ q < 5) : ¬ 240 + q < 128 ∧ ¬ (194 ≤ 240 + q ∧ 240 + q ≤ 223) ∧ ¬ (224 ≤ 240 + q ∧ 240 + q ≤ 239) ∧ (240 ≤ 240 + q ∧ 240 + q ≤ 244) ∧ (240 + q) % 8 = q:=⟨Int.not_lt.mpr (lo_ h.1 (by decide)),fun c =>Int.not_le.mpr (show (223 : Int) + 1 ≤ 240 + q from lo_ h.1 (by decide)) c.2,fun c =>Int.not_le.mpr (show (239 : Int) + 1 ≤ 240 + q from lo_ h.1 (by decide)) c.2,⟨lo_ h.1 (by decide),Int.le_of_lt_add_one (b:=244) (hi_ h.2 (by decide))⟩,am (m:=8) 30 h.1 (Int.lt_trans h.2 (by decide))⟩
theorem em {y : Int} (q : Int) (h : y / 64 = q) : y % 64 = y - 64 * q:=h ▸ Int.emod_def y 64
theorem lo_' {b q a n : Int} (h : q ≤ a) (d : b + a ≤ n) : b + q ≤ n:=Int.le_trans (Int.add_le_add_left h b) d
theorem sp3 {y : Int} (h1 : 32 ≤ y) (h2 : y < 864 ∨ 896 ≤ y) : (if 224 + y / 64 = 224 then 160 else 128) ≤ 128 + y % 64 ∧ 128 + y % 64 ≤ (if 224 + y / 64 = 237 then 159 else 191):=by
 constructor <;> split
 ·rename_i e; rw [em 0 (Int.add_left_cancel (a:=224) (c:=0) e)]; exact lo_ (a:=32) (Int.sub_le_sub_right h1 0) (by decide)
 ·exact in6.1
 ·rename_i e
  have e:=Int.add_left_cancel (a:=224) (c:=13) e
  rw [em 13 e]; exact Int.le_of_lt_add_one (b:=159) (hi_ (a:=32) (Int.sub_lt_sub_right (h2.resolve_right fun h =>absurd (e ▸ dl 14 h) (by decide)) 832) (by decide))
 ·exact in6.2
theorem sp4 {y : Int} (h1 : 16 ≤ y) (h2 : y ≤ 271) : (if 240 + y / 64 = 240 then 144 else 128) ≤ 128 + y % 64 ∧ 128 + y % 64 ≤ (if 240 + y / 64 = 244 then 143 else 191):=by
 constructor <;> split
 ·rename_i e; rw [em 0 (Int.add_left_cancel (a:=240) (c:=0) e)]; exact lo_ (a:=16) (Int.sub_le_sub_right h1 0) (by decide)
 ·exact in6.1
 ·rename_i e
  rw [em 4 (Int.add_left_cancel (a:=240) (c:=4) e)]; exact lo_' (a:=15) (Int.sub_le_sub_right h2 256) (by decide)
 ·exact in6.2
theorem piece_oct8 {x : Int} {r : List Int} (h : Sca x) : ai (bX x ++ r) = (((bX x).length : Int),some x,("" : Str)):=by
 unfold bX
 by_cases c1 : x < 128
 ·simp only [c1,if_true,List.cons_append,List.nil_append,ai]; rfl
 ·rw [if_neg c1]
  by_cases c2 : x < 2048
  ·rw [if_pos c2]
   refine bc fun hN =>?_
   obtain ⟨a1,a2,a3⟩:=ld2 (q:=x / 64) ⟨dl 2 (Int.not_lt.mp c1),dh 32 c2⟩
   refine hN ?_; clear hN
   simp only [List.cons_append,List.nil_append,ai,aC]
   rw [if_neg a1,if_pos a2,if_pos in6,a3,t6,j6]; rfl
  ·rw [if_neg c2]
   by_cases c3 : x < 65536
   ·refine bc fun hN =>?_
    obtain ⟨a1,a2,a3,a4⟩:=ld3 (q:=x / 64 / 64) ⟨Int.ediv_nonneg (Int.ediv_nonneg h.rg.1 (by decide)) (by decide),dh 16 (dh 1024 c3)⟩
    refine hN ?_; clear hN
    rw [if_pos c3,dd2]
    simp only [List.cons_append,List.nil_append,ai,aC]
    rw [if_neg a1,if_neg a2,if_pos a3,if_pos (sp3 (dl 32 (Int.not_lt.mp c2)) (h.imp (fun h =>dh 864 h.2) fun h =>dl 896 h.1)),if_pos in6,a4,t6,j6,t6,j6]; rfl
   ·refine bc fun hN =>?_
    obtain ⟨a1,a2,a3,a4,a5⟩:=ld4 (q:=x / 64 / 64 / 64) ⟨Int.ediv_nonneg (Int.ediv_nonneg (Int.ediv_nonneg h.rg.1 (by decide)) (by decide)) (by decide),dh 5 (dh 320 (dh 20480 (Int.lt_trans h.rg.2 (by decide))))⟩
    refine hN ?_; clear hN
    rw [if_neg c3,dd3,dd2]
    simp only [List.cons_append,List.nil_append,ai,aC]
    rw [if_neg a1,if_neg a2,if_neg a3,if_pos a4,if_pos (sp4 (dl 16 (dl 1024 (Int.not_lt.mp c3))) (Int.le_of_lt_add_one (b:=271) (dh 272 (dh 17408 h.rg.2)))),if_pos in6,if_pos in6,a5,t6,j6,t6,j6,t6,j6]; rfl
theorem byL {l : List Int} (h1 : l.length ≤ 1048576) (h2 : ∀ n ∈ l,0 ≤ n ∧ n < 256) : aj "bytes" [.list (l.map .int)] = some (.bytes l):=by
 rw [bl_bytes,intsV_map]
 exact if_pos ⟨h1,h2⟩
theorem encode_utf8_eq {k : Nat} {text : List Int} (hl : text.length ≤ 100) (hs : cw text) : (af tab (k + 3)).fn "encode_utf8" [.list (text.map .int)] [] = some (.bytes (text.flatMap bX)):=by
 have hl' : (text.map V.int).length ≤ 1048576:=by rw [List.length_map]; lia
 have hel : (text.flatMap bX).length ≤ 1048576:=by have:=fx (l:=text); lia
 refine sh_encode_utf8 (Eq.trans (congrArg (Option.bind · _) (isL hl')) (bH (bA (fun ns g =>∃ fs ex,g = (("text" : Str),AV.val (.list (text.map .int))) :: (("found" : Str),AV.own (fs.map .int)) :: ex ∧ cw ns ∧ fs ++ ns.flatMap bX = text.flatMap bX) ?_ ?_ text _ ⟨[],[],rfl,hs,rfl⟩)))
 ·rintro x r g ⟨fs,ex,hg,h2,h3⟩
  subst hg
  have h0 : 0 ≤ x ∧ x ≤ 1114111:=by have:=h2.cons.1; unfold Sca at this; lia
  have hle : (fs.map V.int).length + ((bX x).map V.int).length ≤ 1048576:=by
   have:=congrArg List.length h3
   rw [List.flatMap_cons] at this
   simp only [List.length_append,List.length_map] at this ⊢; lia
  refine ⟨(("text" : Str),AV.val (.list (text.map .int))) :: (("found" : Str),AV.own (fs.map .int)) :: ae ("code" : Str) (.val (.int x)) ex,by kernel_rfl,shb_encode_utf8 ?_⟩
  simp_arith! [eP,h2.cons.1.b,utf8_octets_eq h0.1 h0.2,hle]
  refine ⟨fs ++ bX x,_,by rw [List.map_append],h2.cons.2,?_⟩
  rw [← h3]; simp
 ·rintro g ⟨fs,ex,hg,h2,h3⟩
  subst hg
  simp only [List.flatMap_nil,List.append_nil] at h3
  subst h3
  rw [fN]
  refine sha_encode_utf8 ?_
  rw [byL hel (enc8_oct hs)]; rfl
theorem decode_utf8_eq {k : Nat} {text : List Int} (hl : text.length ≤ 100) (hs : cw text) : (af tab (k + 3)).fn "decode_utf8" [.bytes (text.flatMap bX)] [] = some (.list (text.map .int)):=by
 have hel : (text.flatMap bX).length ≤ 1000:=by have:=fx (l:=text); lia
 have ho:=enc8_oct hs
 generalize hks : text.flatMap bX = ks at *
 have hl' : ks.length ≤ 1048576:=by lia
 refine sh_decode_utf8 (bH (fv (L:=ks.length) (d:=0) (E:=fun a (fs : List Int) ex =>("octets",.val (.bytes ks)) :: ("found",.own (fs.map .int)) :: ("at",.val (.int a)) :: ex) (J:=fun a fs =>∃ rem,ks.drop a = rem.flatMap bX ∧ fs ++ rem = text ∧ cw rem) hel ?_ ?_ ?_ (Nat.zero_le _) ?_))
 ·intro a fs ex
  refine sht_decode_utf8 ?_
  simp_arith! [hl']
 ·rintro a fs ex hlt hfs ⟨rem,h6,h7,h8⟩
  have hp:=ef (k:=k) hl' hlt ho
  cases rem with
  | nil =>rw [List.flatMap_nil] at h6; exact absurd h6 (bw hlt)
  | cons x r =>
   have h9:=h8.cons
   simp only [h6,List.flatMap_cons,piece_oct8 h9.1] at hp
   refine shb_decode_utf8 ?_
   have e1 : (("code" : Str) == ("wrong" : Str)) = false:=by kernel_rfl
   have e2 : (("many" : Str) == ("wrong" : Str)) = false:=by kernel_rfl
   have e3 : (("many" : Str) == ("code" : Str)) = false:=by kernel_rfl
   simp_arith! [hp,gJ,eu,e1,e2,e3,List.length_map,hfs]
   have hdl:=congrArg List.length h6
   rw [List.flatMap_cons,List.length_append,List.length_drop] at hdl
   refine ⟨((bX x).length : Int),x,_,by rw [mapS]; rfl,Int.ofNat_le.mpr oct8_len.1,Int.ofNat_le.mpr (by rw [hdl]; exact Nat.le_add_right _ _),r,?_,by rw [List.append_assoc]; exact h7,h9.2⟩
   simp only [Int.toNat_natCast,← List.drop_drop,h6,List.flatMap_cons,List.drop_left]
 ·rintro fs ex _ ⟨rem,h6,h7,_⟩
  rw [List.drop_length] at h6
  rw [fN]
  cases rem with
  | nil =>rw [List.append_nil] at h7; rw [h7]; exact sha_decode_utf8 rfl
  | cons x r =>
   have:=congrArg List.length h6
   rw [List.flatMap_cons,List.length_append,List.length_nil] at this
   exact absurd (Nat.eq_zero_of_add_eq_zero_right this.symm) (Nat.ne_of_gt oct8_len.1)
 ·exact ⟨text,hks.symm,rfl,hs⟩
noncomputable def bD : Nat → Int → Int → List Int → Bool
 | _,_,_,[] =>true
 | 0,_,_,_ :: _ =>false
 | k + 1,lo,hi,o :: r =>decide (lo ≤ o) && decide (o ≤ hi) && bD k 128 191 r
noncomputable def dy : List Int → Bool
 | [] =>false
 | b :: r =>if b < 128 then r.isEmpty else if 194 ≤ b ∧ b ≤ 223 then bD 1 128 191 r
  else if 224 ≤ b ∧ b ≤ 239 then bD 2 (if b = 224 then 160 else 128) (if b = 237 then 159 else 191) r
  else if 240 ≤ b ∧ b ≤ 244 then bD 3 (if b = 240 then 144 else 128) (if b = 244 then 143 else 191) r
  else false
noncomputable def cq : Nat → Int → Int → List Int → Int × Int
 | 0,lo,hi,_ =>(lo,hi)
 | q + 1,lo,hi,[] =>cq q (64 * lo + 0) (64 * hi + 63) []
 | q + 1,lo,hi,o :: r =>cq q (64 * lo + (o - 128)) (64 * hi + (o - 128)) r
noncomputable def dF (r : List Int) : Bool:=r.all fun x =>decide (128 ≤ x) && decide (x < 192)
noncomputable def pairV (p : Int × Int) : V:=.tup [.int p.1,.int p.2]
noncomputable def eh (rs : List (Int × Int)) (p : Int × Int) : Bool:=rs.any fun q =>decide (p.1 ≤ q.2) && decide (q.1 ≤ p.2)
section
variable {k : Nat} {ks : List Int} {b m lo hi : Int} {q1 q2 : V}
theorem beg_end {ex : Gam} {rs : List (Int × Int)} (hd : dictV [2,3,4] [.list [.tup [.int 128,.int 2047]],.list [.tup [.int 2048,.int 55295],.tup [.int 57344,.int 65535]],.list [.tup [.int 65536,.int 1114111]]] (.int m) = some (.list (rs.map pairV))) (hr : (rs.map pairV).length ≤ 1048576) : exsK 34 (wt (af tab k)) R54.sc R54.mu (("part",.val (.bytes ks)) :: ("lead",.val (.int b)) :: ("many",.val (.int m)) :: ("size",.val q1) :: ("first",.val q2) :: ("low",.val (.int lo)) :: ("high",.val (.int hi)) :: ex) ((blk R54.body []).drop 6) ak = some (.bool (eh rs (lo,hi))):=by
 refine sha_is_begun2 ?_
 simp_arith! [hd,bN,hr]
 generalize ae "some" _ (thaw ex) = E
 refine bindEx (comp_if (p:=fun q =>decide (lo ≤ q.2) && decide (q.1 ≤ hi)) rs ?_) fun zs h =>by simp only [h,Bool.not_not]; rfl
 intro q hq
 unfold pairV
 by_cases h1 : lo ≤ q.2
 ·by_cases h2 : q.1 ≤ hi
  ·simp_arith! [h1,h2]; exact ⟨_,rfl,rfl⟩
  ·simp_arith! [h1,h2]; exact ⟨_,rfl,rfl⟩
 ·simp_arith! [h1]; exact ⟨_,rfl,rfl⟩
theorem beg_loop {rs : List (Int × Int)} (hl : ks.length ≤ 1048576) (hd : dictV [2,3,4] [.list [.tup [.int 128,.int 2047]],.list [.tup [.int 2048,.int 55295],.tup [.int 57344,.int 65535]],.list [.tup [.int 65536,.int 1114111]]] (.int m) = some (.list (rs.map pairV))) (hr : (rs.map pairV).length ≤ 1048576) : ∀ (q d : Nat) (lo hi : Int) (r : List Int) (ex : Gam),(∀ j : Nat,j < r.length → aH ks (d + j : Nat) = r[j]?) → (r = [] ∧ ks.length ≤ d ∨ ks.length = d + r.length) → (∀ x ∈ r,128 ≤ x ∧ x < 192) → Bd q lo → Bd q hi →
  Out (bt 33 (wt (af tab k)) R54.sc R54.mu (ar (sAt (blk R54.body []) 5)) (blk R54.body [5]) ((List.range' d q).map fun (j : Nat) =>V.int (j : Int)) (("part",.val (.bytes ks)) :: ("lead",.val (.int b)) :: ("many",.val (.int m)) :: ("size",.val q1) :: ("first",.val q2) :: ("low",.val (.int lo)) :: ("high",.val (.int hi)) :: ex))
   fun fl =>flC fl (fun g =>exsK 34 (wt (af tab k)) R54.sc R54.mu g ((blk R54.body []).drop 6) ak) (fun g =>ak (.brk g)) (fun w g =>ak (.ret w g)) = some (.bool (eh rs (cq q lo hi r))):=by
 intro q
 induction q with
 | zero =>intro d lo hi r ex hi1 hn ho hb hb2; exact for_nil (fN.trans (beg_end hd hr))
 | succ q ih =>
  intro d lo hi r ex hi1 hn ho hb hb2
  simp only [List.range'_succ,List.map_cons]
  refine fz (g1:=("part",.val (.bytes ks)) :: ("lead",.val (.int b)) :: ("many",.val (.int m)) :: ("size",.val q1) :: ("first",.val q2) :: ("low",.val (.int lo)) :: ("high",.val (.int hi)) :: ae "k" (AV.val (.int d)) ex) (by kernel_rfl) (shb_is_begun2 ?_)
  have s1 : small lo = true:=bC (eF hb).1 (Int.lt_trans (eF hb).2 (by decide))
  have s2 : small hi = true:=bC (eF hb2).1 (Int.lt_trans (eF hb2).2 (by decide))
  have s3 : small 64 = true:=rfl
  rcases r with _ | ⟨o,r⟩
  ·have L1 : ¬ (d : Int) < ks.length:=by simp at hn; lia
   simp_arith! [hl,L1,s1,s2,s3]
   exact ih (d + 1) _ _ [] _ (fun j h =>by cases h) (.inl ⟨rfl,by simp at hn; lia⟩) (fun x h =>by cases h) (bd_step' (by decide) hb) (bd_step' (by decide) hb2)
  ·have L1 : (d : Int) < ks.length:=by simp at hn; lia
   have h1 : aH ks (d : Int) = some o:=hi1 0 (by simp)
   have ho1:=ho o (.head _)
   have h2 : 0 ≤ o - 128 ∧ o - 128 < 64:=by lia
   simp_arith! [hl,L1,s1,s2,s3,h1]
   exact ih (d + 1) _ _ r _ (fun j hj =>by have:=hi1 (j + 1) (by simpa using hj); rw [← Nat.add_assoc,Nat.add_right_comm] at this; rw [this]; rfl) (.inr (by simp at hn; lia)) (fun x h =>ho x (.tail _ h)) (bd_step' h2 hb) (bd_step' h2 hb2)
theorem beg_mid {r : List Int} {rs : List (Int × Int)} {Q : Nat} {p q t : Int} (hl : r.length < 1000000) (hm : m = (Q : Int) + 1) (hP : ag .Pow (.int 2) (.int (m + 1)) = some (.int p)) (hD : ag .FloorDiv (.int 256) (.int p) = some (.int q)) (hM : ag .Mod (.int b) (.int q) = some (.int t)) (hR : bM "range" [.int 1,.int m] = some ((List.range' 1 Q).map fun (j : Nat) =>V.int (j : Int)))
  (hd : dictV [2,3,4] [.list [.tup [.int 128,.int 2047]],.list [.tup [.int 2048,.int 55295],.tup [.int 57344,.int 65535]],.list [.tup [.int 65536,.int 1114111]]] (.int m) = some (.list (rs.map pairV))) (hr : (rs.map pairV).length ≤ 1048576) (hq : Bd Q t) :
  exsK 37 (wt (af tab k)) R54.sc R54.mu [(("part" : Str),AV.val (.bytes (b :: r))),(("lead" : Str),AV.val (.int b)),(("many" : Str),AV.val (.int m)),(("size" : Str),AV.val q1),(("first" : Str),AV.val q2)] ((blk R54.body []).drop 3) ak = some (.bool (decide (r.length ≤ Q) && (dF r && eh rs (cq Q t t r)))):=by
 refine gq ?_
 have hl1 : (b :: r).length ≤ 1048576:=Nat.le_trans (Nat.le_of_lt (Nat.succ_lt_succ hl)) (show 1000001 ≤ 1048576 by decide)
 have hl3 : r.length ≤ 1048576:=Nat.le_trans (Nat.le_of_lt hl) (by decide)
 have hl2 : (r.map V.int).length ≤ 1048576:=by rw [List.length_map]; exact hl3
 have m0 : (m == 0) = false:=bneF (by lia)
 have c1 : cut (b :: r) (some 1) Option.none = r:=di (a:=1)
 have p1 : ay (some (.int 1)) = some (some 1):=rfl
 by_cases hc : r.length ≤ Q
 ·have L1 : ¬ m < ((b :: r).length : Int):=by rw [List.length_cons]; lia
  have e : ae ("high" : Str) (AV.val (.int t)) (ae ("low" : Str) (AV.val (.int t)) [(("size" : Str),AV.val q1),(("first" : Str),AV.val q2)]) = [(("size" : Str),AV.val q1),(("first" : Str),AV.val q2),(("low" : Str),AV.val (.int t)),(("high" : Str),AV.val (.int t))]:=by kernel_rfl
  simp_arith! [hl1,hl2,hl3,m0,L1,p1,c1,hP,hD,hM,hR,e]
  simp only [decide_eq_true hc,Bool.true_and]
  refine bindEx (comp_if (p:=fun x =>!(decide (128 ≤ x) && decide (x < 192))) r ?_) fun zs h =>?_
  ·intro x hx
   by_cases h1 : 128 ≤ x
   ·by_cases h2 : x < 192
    ·simp_arith! [h1,h2]; exact ⟨_,rfl,rfl⟩
    ·simp_arith! [h1,h2]; exact ⟨_,rfl,rfl⟩
   ·simp_arith! [h1]; exact ⟨_,rfl,rfl⟩
  ·have hmid : dF r = zs.isEmpty:=by
    simp only [h,dF,List.any_eq_not_all_not]
    simp only [Bool.not_not]
   rw [hmid]
   cases hz : zs.isEmpty with
   | false =>rfl
   | true =>
    have hall : ∀ x ∈ r,128 ≤ x ∧ x < 192:=by
     rw [hz,dF,List.all_eq_true] at hmid
     intro x hx
     have:=hmid x hx
     rw [Bool.and_eq_true,decide_eq_true_eq,decide_eq_true_eq] at this
     exact this
    simp_arith [cT]
    refine bH (beg_loop hl1 hd hr Q 1 t t r [] (fun j hj =>?_) (.inr (by rw [List.length_cons]; lia)) hall hq hq)
    rw [itNat (1 + j) rfl,Nat.add_comm,List.getElem?_cons_succ]
 ·have L1 : m < ((b :: r).length : Int):=by rw [List.length_cons]; lia
  simp_arith [hl1,m0,L1]
  rw [decide_eq_false hc]; rfl
theorem pw3 : ag .Pow (.int 2) (.int (2 + 1)) = some (.int 8):=by kernel_rfl
theorem pw4 : ag .Pow (.int 2) (.int (3 + 1)) = some (.int 16):=by kernel_rfl
theorem pw5 : ag .Pow (.int 2) (.int (4 + 1)) = some (.int 32):=by kernel_rfl
theorem dv3 : ag .FloorDiv (.int 256) (.int 8) = some (.int 32):=by kernel_rfl
theorem dv4 : ag .FloorDiv (.int 256) (.int 16) = some (.int 16):=by kernel_rfl
theorem dv5 : ag .FloorDiv (.int 256) (.int 32) = some (.int 8):=by kernel_rfl
theorem beg_step {s f p q : Int} {P : Fl → Prop} (hP : ag .Pow (.int 2) (.int (s + 1)) = some (.int p)) (hD : ag .FloorDiv (.int 256) (.int p) = some (.int q)) (h : P (.next ((("part" : Str),AV.val (.bytes ks)) :: (("lead" : Str),AV.val (.int b)) :: (("many" : Str),AV.val (.int (if f ≤ b ∧ b < f + q then s else m))) :: [(("size" : Str),AV.val (.int s)),(("first" : Str),AV.val (.int f))]))) :
  Out (exs 36 (wt (af tab k)) R54.sc R54.mu (blk R54.body [2]) ((("part" : Str),AV.val (.bytes ks)) :: (("lead" : Str),AV.val (.int b)) :: (("many" : Str),AV.val (.int m)) :: [(("size" : Str),AV.val (.int s)),(("first" : Str),AV.val (.int f))])) P:=by
 refine shb_is_begun1 ?_
 have e1 : List.lookup ("first" : Str) [(("size" : Str),AV.val (.int s)),(("first" : Str),AV.val (.int f))] = some (.val (.int f)):=by kernel_rfl
 have e2 : List.lookup ("size" : Str) [(("size" : Str),AV.val (.int s)),(("first" : Str),AV.val (.int f))] = some (.val (.int s)):=by kernel_rfl
 by_cases h1 : f ≤ b
 ·by_cases h2 : b < f + q
  ·simp_arith! [e1,e2,hP,hD,h1,h2]; rw [if_pos ⟨h1,h2⟩] at h; exact h
  ·simp_arith! [e1,e2,hP,hD,h1,h2]; rw [if_neg (fun h =>h2 h.2)] at h; exact h
 ·simp_arith! [e1,e2,hP,hD,h1]; rw [if_neg (fun h =>h1 h.1)] at h; exact h
noncomputable def sizeM (b : Int) : Int:=if 240 ≤ b ∧ b < 240 + 8 then 4 else if 224 ≤ b ∧ b < 224 + 16 then 3 else if 192 ≤ b ∧ b < 192 + 32 then 2 else 0
theorem beg_head {r : List Int} {v : V} (hl : (b :: r).length ≤ 1048576) (hb : ¬ b < 128) (h : exsK 37 (wt (af tab k)) R54.sc R54.mu (("part",.val (.bytes (b :: r))) :: ("lead",.val (.int b)) :: ("many",.val (.int (sizeM b))) :: [("size",.val (.int 4)),("first",.val (.int 240))]) ((blk R54.body []).drop 3) ak = some v) : (af tab (k + 1)).fn "_law_is_begun" [.bytes (b :: r)] [] = some v:=by
 refine fo ?_
 have h0 : aH (b :: r) 0 = some b:=itNat 0 rfl
 have hi : ao (.tup [.tup [.int 2,.int 192],.tup [.int 3,.int 224],.tup [.int 4,.int 240]]) = some [.tup [.int 2,.int 192],.tup [.int 3,.int 224],.tup [.int 4,.int 240]]:=by kernel_rfl
 simp_arith [hl,h0,hb,hi]
 refine bH ?_
 refine fz (g1:=("part",.val (.bytes (b :: r))) :: ("lead",.val (.int b)) :: ("many",.val (.int 0)) :: [("size",.val (.int 2)),("first",.val (.int 192))]) (by kernel_rfl) (beg_step pw3 dv3 ?_)
 refine fz (g1:=("part",.val (.bytes (b :: r))) :: ("lead",.val (.int b)) :: ("many",.val (.int (if 192 ≤ b ∧ b < 192 + 32 then 2 else 0))) :: [("size",.val (.int 3)),("first",.val (.int 224))]) (by kernel_rfl) (beg_step pw4 dv4 ?_)
 refine fz (g1:=("part",.val (.bytes (b :: r))) :: ("lead",.val (.int b)) :: ("many",.val (.int (if 224 ≤ b ∧ b < 224 + 16 then 3 else (if 192 ≤ b ∧ b < 192 + 32 then 2 else 0)))) :: [("size",.val (.int 4)),("first",.val (.int 240))]) (by kernel_rfl) (beg_step pw5 dv5 ?_)
 exact for_nil (Eq.trans fN h)
theorem midB_of {j : Nat} {lo hi : Int} {r : List Int} (h1 : 128 ≤ lo) (h2 : hi ≤ 191) : bD j lo hi r = true → dF r = true ∧ r.length ≤ j:=by
 induction r generalizing j lo hi with
 | nil =>intro _; exact ⟨rfl,Nat.zero_le _⟩
 | cons o r ih =>
  cases j with
  | zero =>intro h; cases h
  | succ j =>
   intro h
   simp only [bD,Bool.and_eq_true,Bool.and_eq_true,decide_eq_true_eq,decide_eq_true_eq] at h
   have:=ih (j:=j) (lo:=128) (hi:=191) (by decide) (by decide) h.2
   refine ⟨?_,Nat.succ_le_succ this.2⟩
   simp only [dF,List.all_cons,Bool.and_eq_true,Bool.and_eq_true,decide_eq_true_eq,decide_eq_true_eq]
   exact ⟨⟨Int.le_trans h1 h.1.1,Int.lt_add_one_of_le (Int.le_trans h.1.2 h2)⟩,this.1⟩
theorem begT_of {j : Nat} : ∀ {r : List Int},dF r = true → r.length ≤ j → bD j 128 191 r = true:=by
 induction j with
 | zero =>intro r _ h; cases r with
  | nil =>rfl
  | cons _ _ =>simp at h
 | succ j ih =>
  intro r h1 h2
  cases r with
  | nil =>rfl
  | cons o r =>
   simp only [dF,List.all_cons,Bool.and_eq_true,Bool.and_eq_true,decide_eq_true_eq,decide_eq_true_eq] at h1
   simp only [bD,ih h1.2 (by simpa using h2),Bool.and_true,Bool.and_eq_true,decide_eq_true_eq,decide_eq_true_eq]
   exact ⟨h1.1.1,Int.le_of_lt_add_one (b:=191) h1.1.2⟩
theorem beg_core {j : Nat} {lo hi : Int} {r : List Int} {A : Bool} (h1 : 128 ≤ lo) (h2 : hi ≤ 191) (h0 : r = [] → A = true) (hA : ∀ o s,r = o :: s → (128 ≤ o ∧ o < 192) → dF s = true → s.length ≤ j → A = (decide (lo ≤ o) && decide (o ≤ hi))) :
  (decide (r.length ≤ j + 1) && (dF r && A)) = bD (j + 1) lo hi r:=by
 cases r with
 | nil =>rw [h0 rfl]; rfl
 | cons o s =>
  cases hb : bD (j + 1) lo hi (o :: s) with
  | true =>
   have:=midB_of h1 h2 hb
   simp only [this.1,decide_eq_true this.2,Bool.true_and,Bool.true_and]
   rw [bD,Bool.and_eq_true] at hb
   have hm:=this.1
   rw [dF,List.all_cons,Bool.and_eq_true,Bool.and_eq_true,decide_eq_true_eq,decide_eq_true_eq] at hm
   rw [hA o s rfl hm.1 hm.2 (by simpa using this.2)]
   exact hb.1
  | false =>
   cases hl : decide ((o :: s).length ≤ j + 1) with
   | false =>rfl
   | true =>
    cases hm : dF (o :: s) with
    | false =>rfl
    | true =>
     have hl:=of_decide_eq_true hl
     rw [dF,List.all_cons,Bool.and_eq_true,Bool.and_eq_true,decide_eq_true_eq,decide_eq_true_eq] at hm
     rw [bD,begT_of hm.2 (by simpa using hl),Bool.and_true] at hb
     rw [hA o s rfl hm.1 hm.2 (by simpa using hl),hb]; rfl
theorem span_bd {q : Nat} : ∀ {lo hi : Int} {r : List Int},lo ≤ hi → (∀ x ∈ r,128 ≤ x ∧ x < 192) → lo * 64 ^ q ≤ (cq q lo hi r).1 ∧ (cq q lo hi r).1 ≤ (cq q lo hi r).2 ∧ (cq q lo hi r).2 < (hi + 1) * 64 ^ q:=by
 induction q with
 | zero =>intro lo hi r h _; rw [cq]; simp; lia
 | succ q ih =>
  intro lo hi r h ho
  cases r with
  | nil =>
   rw [cq]
   have:=ih (lo:=64 * lo + 0) (hi:=64 * hi + 63) (r:=[]) (by lia) ho
   refine ⟨?_,this.2.1,?_⟩
   ·simp only [Int.pow_succ,Int.mul_comm _ 64,← Int.mul_assoc]; refine Int.le_trans (Int.le_of_eq ?_) this.1; simp only [Int.mul_comm lo,Int.add_zero]
   ·simp only [Int.pow_succ,Int.mul_comm _ 64,← Int.mul_assoc]; refine Int.lt_of_lt_of_le this.2.2 (Int.le_of_eq ?_); congr 1; lia
  | cons o r =>
   rw [cq]
   have h1:=ho o (.head _)
   have:=ih (lo:=64 * lo + (o - 128)) (hi:=64 * hi + (o - 128)) (r:=r) (by lia) fun x hx =>ho x (.tail _ hx)
   have hp : (0 : Int) ≤ 64 ^ q:=Int.le_of_lt (Int.pow_pos (by lia))
   refine ⟨?_,this.2.1,?_⟩
   ·simp only [Int.pow_succ,Int.mul_comm _ 64,← Int.mul_assoc]; exact Int.le_trans (Int.mul_le_mul_of_nonneg_right (by lia) hp) this.1
   ·simp only [Int.pow_succ,Int.mul_comm _ 64,← Int.mul_assoc]; exact Int.lt_of_lt_of_le this.2.2 (Int.mul_le_mul_of_nonneg_right (by lia) hp)
theorem mid_all {r : List Int} (h : dF r = true) : ∀ x ∈ r,128 ≤ x ∧ x < 192:=by
 intro x hx
 simp only [dF,List.all_eq_true] at h
 have:=h x hx
 simp only [Bool.and_eq_true,decide_eq_true_eq,decide_eq_true_eq] at this
 exact this
theorem beg_none {j : Nat} {r : List Int} {A : Bool} (h : dF r = true → A = false) : (decide (r.length ≤ j) && (dF r && A)) = false:=by
 cases hm : dF r with
 | false =>rw [Bool.false_and,Bool.and_false]
 | true =>rw [h hm,Bool.and_false,Bool.and_false]
theorem inAny1 {x y : Int} {p : Int × Int} : eh [(x,y)] p = true ↔ p.1 ≤ y ∧ x ≤ p.2:=by
 simp only [eh,List.any_cons,List.any_nil,Bool.or_false,Bool.and_eq_true,decide_eq_true_eq]
theorem inAny2 {x y z w : Int} {p : Int × Int} : eh [(x,y),(z,w)] p = true ↔ (p.1 ≤ y ∧ x ≤ p.2) ∨ p.1 ≤ w ∧ z ≤ p.2:=by
 simp only [eh,List.any_cons,List.any_nil,Bool.or_false,Bool.or_eq_true,Bool.and_eq_true,decide_eq_true_eq]
theorem p1 : (64 : Int) ^ 1 = 64:=rfl
theorem p2 : (64 : Int) ^ 2 = 4096:=rfl
theorem p3 : (64 : Int) ^ 3 = 262144:=rfl
theorem bl1 {P : Int × Int} {z M b : Int} (a : Int) (hM : 0 ≤ M) (h : z * M ≤ P.1 ∧ P.1 ≤ P.2 ∧ P.2 < (z + 1) * M) (e : b + 1 = (a + 1) * M) : P.1 ≤ b ↔ z ≤ a :=
 ⟨fun q =>Int.le_of_lt_add_one (Int.lt_of_mul_lt_mul_right (Int.lt_of_le_of_lt h.1 (e ▸ Int.lt_add_one_of_le q)) hM),fun q =>Int.le_of_lt_add_one (e ▸ Int.lt_of_le_of_lt h.2.1 (Int.lt_of_lt_of_le h.2.2 (Int.mul_le_mul_of_nonneg_right (Int.add_le_add_right q 1) hM)))⟩
theorem bl2 {P : Int × Int} {z M c : Int} (a : Int) (hM : 0 ≤ M) (h : z * M ≤ P.1 ∧ P.1 ≤ P.2 ∧ P.2 < (z + 1) * M) (e : c = a * M) : c ≤ P.2 ↔ a ≤ z :=
 ⟨fun q =>Int.le_of_lt_add_one (Int.lt_of_mul_lt_mul_right (Int.lt_of_le_of_lt (e ▸ q) h.2.2) hM),fun q =>e ▸ Int.le_trans (Int.mul_le_mul_of_nonneg_right q hM) (Int.le_trans h.1 h.2.1)⟩
theorem core2 {t : Int} {r : List Int} (ht : 2 ≤ t ∧ t < 32) : (decide (r.length ≤ 1) && (dF r && eh [(128,2047)] (cq 1 t t r))) = bD 1 128 191 r:=by
 have key : (∀ x ∈ r,128 ≤ x ∧ x < 192) → eh [(128,2047)] (cq 1 t t r) = true:=fun hm =>by
  have:=span_bd (q:=1) (Int.le_refl t) hm
  rw [p1] at this
  exact inAny1.mpr ⟨(bl1 (b:=2047) 31 (by decide) this rfl).mpr (Int.le_of_lt_add_one ht.2),(bl2 (c:=128) 2 (by decide) this rfl).mpr ht.1⟩
 refine beg_core (by decide) (by decide) (fun h =>key fun x hx =>absurd (h ▸ hx) List.not_mem_nil) ?_
 intro o s h ho hs hl; subst h
 rw [key (List.forall_mem_cons.mpr ⟨ho,mid_all hs⟩),decide_eq_true ho.1,decide_eq_true (Int.le_of_lt_add_one (b:=191) ho.2)]; rfl
theorem core2n {t : Int} {r : List Int} (ht : 0 ≤ t ∧ t < 2) : (decide (r.length ≤ 1) && (dF r && eh [(128,2047)] (cq 1 t t r))) = false:=by
 refine beg_none fun hm =>?_
 have:=span_bd (q:=1) (Int.le_refl t) (mid_all hm)
 rw [p1] at this
 exact Bool.eq_false_iff.mpr fun c =>Int.not_le.mpr ht.2 ((bl2 (c:=128) 2 (by decide) this rfl).mp (inAny1.mp c).2)
theorem core3 {t : Int} {r : List Int} (ht : 0 ≤ t ∧ t < 16) : (decide (r.length ≤ 2) && (dF r && eh [(2048,55295),(57344,65535)] (cq 2 t t r))) = bD 2 (if t = 0 then 160 else 128) (if t = 13 then 159 else 191) r:=by
 refine beg_core (by split <;> decide) (by split <;> decide) ?_ ?_
 ·intro h; subst h; rw [inAny2]; simp only [cq]
  by_cases h9 : t ≤ 13
  ·exact .inl ⟨by lia,by lia⟩
  ·exact .inr ⟨by lia,by lia⟩
 ·intro o s h ho hs hl; subst h
  have:=span_bd (q:=1) (Int.le_refl (64 * t + (o - 128))) (mid_all hs)
  rw [p1] at this
  rw [Bool.eq_iff_iff,inAny2,Bool.and_eq_true,decide_eq_true_eq,decide_eq_true_eq,cq,bl1 (b:=55295) 863 (by decide) this rfl,bl2 (c:=2048) 32 (by decide) this rfl,bl1 (b:=65535) 1023 (by decide) this rfl,bl2 (c:=57344) 896 (by decide) this rfl]
  clear this hs hl
  have h191:=Int.le_of_lt_add_one (b:=191) ho.2
  by_cases h0 : t = 0
  ·rw [if_pos h0,if_neg (by rw [h0]; decide)]; subst h0
   exact ⟨fun h =>⟨by lia,h191⟩,fun h =>.inl ⟨by lia,by lia⟩⟩
  ·rw [if_neg h0]
   by_cases h13 : t = 13
   ·rw [if_pos h13]; subst h13
    exact ⟨fun h =>⟨ho.1,h.elim (fun h =>by lia) fun h =>by lia⟩,fun h =>.inl ⟨by lia,by lia⟩⟩
   ·rw [if_neg h13]
    refine ⟨fun h =>⟨ho.1,h191⟩,fun h =>?_⟩
    by_cases h9 : t ≤ 13
    ·exact .inl ⟨by lia,by lia⟩
    ·exact .inr ⟨by lia,by lia⟩
theorem core4 {t : Int} {r : List Int} (ht : 0 ≤ t ∧ t < 5) : (decide (r.length ≤ 3) && (dF r && eh [(65536,1114111)] (cq 3 t t r))) = bD 3 (if t = 0 then 144 else 128) (if t = 4 then 143 else 191) r:=by
 refine beg_core (by split <;> decide) (by split <;> decide) ?_ ?_
 ·intro h; subst h; rw [inAny1]; simp only [cq]; lia
 ·intro o s h ho hs hl; subst h
  have:=span_bd (q:=2) (Int.le_refl (64 * t + (o - 128))) (mid_all hs)
  rw [p2] at this
  rw [Bool.eq_iff_iff,inAny1,Bool.and_eq_true,decide_eq_true_eq,decide_eq_true_eq,cq,bl1 (b:=1114111) 271 (by decide) this rfl,bl2 (c:=65536) 16 (by decide) this rfl]
  clear this hs hl
  have h191:=Int.le_of_lt_add_one (b:=191) ho.2
  by_cases h0 : t = 0
  ·rw [if_pos h0,if_neg (by rw [h0]; decide)]; subst h0
   exact ⟨fun h =>⟨by lia,h191⟩,fun h =>⟨by lia,by lia⟩⟩
  ·rw [if_neg h0]
   by_cases h13 : t = 4
   ·rw [if_pos h13]; subst h13
    exact ⟨fun h =>⟨ho.1,by lia⟩,fun h =>⟨by lia,by lia⟩⟩
   ·rw [if_neg h13]
    exact ⟨fun h =>⟨ho.1,h191⟩,fun h =>⟨by lia,by lia⟩⟩
theorem core4n {t : Int} {r : List Int} (ht : 5 ≤ t ∧ t < 8) : (decide (r.length ≤ 3) && (dF r && eh [(65536,1114111)] (cq 3 t t r))) = false:=by
 refine beg_none fun hm =>?_
 have:=span_bd (q:=3) (Int.le_refl t) (mid_all hm)
 rw [p3] at this
 exact Bool.eq_false_iff.mpr fun c =>absurd (Int.le_trans (Int.mul_le_mul_of_nonneg_right ht.1 (by decide)) (Int.le_trans this.1 (inAny1.mp c).1)) (by decide)
theorem modc {b m : Int} (k : Int) (h0 : m * k ≤ b) (h1 : b < m * k + m) : b % m = b - m * k:=by
 have:=am (m:=m) (q:=b - m * k) k (Int.sub_nonneg.mpr h0) (Int.sub_left_lt_of_lt_add h1)
 rwa [(Int.add_comm _ _).trans (Int.sub_add_cancel b (m * k))] at this
theorem bF {b n m : Int} {X : Prop} (h : b < n) (d : n ≤ m) : ¬ (m ≤ b ∧ X):=fun c =>Int.not_lt.mpr (Int.le_trans d c.1) h
theorem fH {l : List Int} (h : 1 ≤ l.length ∧ l.length ≤ 4) (ho : Oct l) : (af tab (k + 1)).fn "_law_is_begun" [.bytes l] [] = some (.bool (dy l)):=by
 cases l with
 | nil =>simp at h
 | cons b r =>
  have hb:=ho.cons.1
  rw [List.length_cons] at h
  have hl : (b :: r).length ≤ 1048576:=Nat.le_trans h.2 (by decide)
  have hr : r.length < 1000000:=Nat.lt_of_lt_of_le h.2 (by decide)
  rw [dy]
  by_cases h1 : b < 128
  ·rw [if_pos h1]
   refine fo ?_
   have h0 : aH (b :: r) 0 = some b:=itNat 0 rfl
   simp_arith [hl,h0,h1]
   cases r with
   | nil =>rfl
   | cons c r =>rw [bneF (by simp; lia)]; rfl
  rw [if_neg h1]
  refine beg_head hl h1 ?_
  by_cases h2 : 192 ≤ b ∧ b < 224
  ·have e : sizeM b = 2:=by unfold sizeM; rw [if_neg (bF h2.2 (by decide)),if_neg (bF h2.2 (by decide))]; exact if_pos h2
   rw [e,beg_mid (m:=2) (Q:=1) (rs:=[(128,2047)]) (t:=b % 32) hr rfl pw3 dv3 (mdI (by lia)) rg2 (by kernel_rfl) (by decide) ⟨Int.emod_nonneg _ (by decide),Int.lt_trans (Int.emod_lt_of_pos _ (by decide)) (by decide)⟩]
   have hm : b % 32 = b - 192:=modc (m:=32) 6 h2.1 h2.2
   rw [hm]
   by_cases h3 : 194 ≤ b
   ·rw [if_pos ⟨h3,Int.le_of_lt_add_one (b:=223) h2.2⟩,core2 ⟨Int.le_sub_left_of_add_le h3,Int.sub_left_lt_of_lt_add h2.2⟩]
   ·rw [if_neg (fun h =>h3 h.1),if_neg (fun h =>Int.not_le.mpr h2.2 h.1),if_neg (fun h =>Int.not_le.mpr (Int.lt_trans h2.2 (by decide)) h.1),core2n ⟨Int.sub_nonneg.mpr h2.1,Int.sub_left_lt_of_lt_add (Int.not_le.mp h3)⟩]
  rw [if_neg (fun c =>h2 ⟨Int.le_trans (by decide) c.1,Int.lt_add_one_of_le c.2⟩)]
  by_cases h3 : 224 ≤ b ∧ b ≤ 239
  ·have e : sizeM b = 3:=by unfold sizeM; rw [if_neg (bF (Int.lt_add_one_of_le h3.2) (by decide)),if_pos ⟨h3.1,Int.lt_add_one_of_le h3.2⟩]
   rw [e,beg_mid (m:=3) (Q:=2) (rs:=[(2048,55295),(57344,65535)]) (t:=b % 16) hr rfl pw4 dv4 (mdI (by lia)) rg3 (by kernel_rfl) (by decide) ⟨Int.emod_nonneg _ (by decide),Int.lt_trans (Int.emod_lt_of_pos _ (by decide)) (by decide)⟩,if_pos h3,show b % 16 = b - 224 from modc (m:=16) 14 h3.1 (Int.lt_add_one_of_le h3.2),core3 ⟨Int.sub_nonneg.mpr h3.1,Int.sub_left_lt_of_lt_add (Int.lt_add_one_of_le h3.2)⟩]
   have e1 : (b = 224) = (b - 224 = 0):=propext Int.sub_eq_zero.symm
   have e2 : (b = 237) = (b - 224 = 13):=propext ⟨fun h =>by rw [h]; rfl,fun h =>Int.sub_eq_iff_eq_add.mp h⟩
   simp only [e1,e2]
  rw [if_neg h3]
  by_cases h4 : 240 ≤ b ∧ b < 248
  ·have e : sizeM b = 4:=if_pos h4
   rw [e,beg_mid (m:=4) (Q:=3) (rs:=[(65536,1114111)]) (t:=b % 8) hr rfl pw5 dv5 (mdI (by lia)) rg4 (by kernel_rfl) (by decide) ⟨Int.emod_nonneg _ (by decide),Int.emod_lt_of_pos _ (by decide)⟩]
   rw [show b % 8 = b - 240 from modc (m:=8) 30 h4.1 h4.2]
   by_cases h5 : b ≤ 244
   ·rw [if_pos ⟨h4.1,h5⟩,core4 ⟨Int.sub_nonneg.mpr h4.1,Int.sub_left_lt_of_lt_add (Int.lt_add_one_of_le h5)⟩]
    have e1 : (b = 240) = (b - 240 = 0):=propext Int.sub_eq_zero.symm
    have e2 : (b = 244) = (b - 240 = 4):=propext ⟨fun h =>by rw [h]; rfl,fun h =>Int.sub_eq_iff_eq_add.mp h⟩
    simp only [e1,e2]
   ·rw [if_neg (fun h =>h5 h.2),core4n ⟨Int.le_sub_left_of_add_le (Int.add_one_le_of_lt (Int.not_le.mp h5)),Int.sub_left_lt_of_lt_add h4.2⟩]
  rw [if_neg (fun c =>h4 ⟨c.1,Int.lt_of_le_of_lt c.2 (by decide)⟩)]
  have e : sizeM b = 0:=(if_neg h4).trans ((if_neg (fun c =>h3 ⟨c.1,Int.le_of_lt_add_one (b:=239) c.2⟩)).trans (if_neg h2))
  rw [e]
  exact gq rfl
end
noncomputable def bU (l : List Int) : Option Int:=if (ai l).1 = l.length then (ai l).2.1 else none
noncomputable def cont : Int → List Int → Int
 | c,[] =>c
 | c,o :: r =>cont (c * 64 + o % 64) r
theorem tl_le : ∀ (k : Nat) (d lo hi code : Int) (r : List Int),(aC k d lo hi code r).1 ≤ d + k
 | 0,d,_,_,_,r =>by simp [aC]
 | k + 1,d,_,_,_,[] =>by simp [aC]; lia
 | k + 1,d,lo,hi,code,o :: r =>by
  rw [aC]
  split
  ·have:=tl_le k (d + 1) 128 191 (code * 64 + o % 64) r; lia
  ·simp only; lia
theorem begT_nil {k : Nat} {lo hi : Int} : bD k lo hi [] = true:=by cases k <;> rfl
theorem tl_some : ∀ (k : Nat) (d lo hi code : Int) (r : List Int),bD k lo hi r = true ∧ r.length = k → aC k d lo hi code r = (d + k,some (cont code r),("" : Str))
 | 0,d,_,_,_,[],_ =>by simp [aC,cont]
 | 0,d,_,_,_,_ :: _,h =>by simp at h
 | k + 1,d,_,_,_,[],h =>by simp at h
 | k + 1,d,lo,hi,code,o :: r,⟨h,h2⟩ =>by
  simp only [bD,Bool.and_eq_true,decide_eq_true_eq] at h
  simp only [List.length_cons] at h2
  rw [aC,if_pos h.1,tl_some k (d + 1) 128 191 _ r ⟨h.2,by lia⟩,cont]
  refine Prod.ext ?_ rfl
  simp only; lia
theorem tl_none : ∀ (k : Nat) (d lo hi code : Int) (r : List Int),r.length ≤ k → ¬ (bD k lo hi r = true ∧ r.length = k) → (aC k d lo hi code r).2.1 = none
 | 0,d,_,_,_,[],_,h =>by simp [bD] at h
 | 0,d,_,_,_,_ :: _,h,_ =>by simp at h
 | k + 1,d,_,_,_,[],_,_ =>by simp [aC]
 | k + 1,d,lo,hi,code,o :: r,h1,h2 =>by
  rw [aC]
  simp only [bD,Bool.and_eq_true,decide_eq_true_eq,List.length_cons] at h1 h2
  split
  ·rename_i c
   exact tl_none k _ _ _ _ r (by lia) (fun h =>h2 ⟨⟨c,h.1⟩,by lia⟩)
  ·rfl
theorem code_tail {k : Nat} {b lo hi c0 : Int} {r : List Int} (hp : ai (b :: r) = aC k 1 lo hi c0 r) : bU (b :: r) = if bD k lo hi r = true ∧ r.length = k then some (cont c0 r) else none:=by
 unfold bU
 rw [hp]
 split
 ·rename_i h
  have:=tl_le k 1 lo hi c0 r
  simp only [h,List.length_cons] at this
  split
  ·rename_i h2; rw [tl_some k 1 lo hi c0 r h2]
  ·rename_i h2; exact tl_none k 1 lo hi c0 r (by lia) h2
 ·rename_i h
  rw [if_neg]
  intro h2
  rw [tl_some k 1 lo hi c0 r h2,List.length_cons] at h
  simp only at h; lia
section
variable {b : Int} {r : List Int}
theorem pm_C (h : 194 ≤ b ∧ b ≤ 223) : ai (b :: r) = aC 1 1 128 191 (b % 32) r:=by rw [ai,if_neg (by lia),if_pos h]
theorem pm_D (h : 224 ≤ b ∧ b ≤ 239) : ai (b :: r) = aC 2 1 (if b = 224 then 160 else 128) (if b = 237 then 159 else 191) (b % 16) r:=by rw [ai,if_neg (by lia),if_neg (by lia),if_pos h]
theorem pm_E (h : 240 ≤ b ∧ b ≤ 244) : ai (b :: r) = aC 3 1 (if b = 240 then 144 else 128) (if b = 244 then 143 else 191) (b % 8) r:=by rw [ai,if_neg (by lia),if_neg (by lia),if_neg (by lia),if_pos h]
theorem gK (h : (128 ≤ b ∧ b < 194) ∨ 245 ≤ b) : ai (b :: r) = (1,none,if b < 192 then sAlone else sNever):=by rw [ai,if_neg (by lia),if_neg (by lia),if_neg (by lia),if_neg (by lia)]
theorem bg_C (h : 194 ≤ b ∧ b ≤ 223) : dy (b :: r) = bD 1 128 191 r:=by rw [dy,if_neg (by lia),if_pos h]
theorem bg_D (h : 224 ≤ b ∧ b ≤ 239) : dy (b :: r) = bD 2 (if b = 224 then 160 else 128) (if b = 237 then 159 else 191) r:=by rw [dy,if_neg (by lia),if_neg (by lia),if_pos h]
theorem bg_E (h : 240 ≤ b ∧ b ≤ 244) : dy (b :: r) = bD 3 (if b = 240 then 144 else 128) (if b = 244 then 143 else 191) r:=by rw [dy,if_neg (by lia),if_neg (by lia),if_neg (by lia),if_pos h]
theorem bg_bad (h : (128 ≤ b ∧ b < 194) ∨ 245 ≤ b) : dy (b :: r) = false:=by rw [dy,if_neg (by lia),if_neg (by lia),if_neg (by lia),if_neg (by lia)]
theorem cd_bad (h : (128 ≤ b ∧ b < 194) ∨ 245 ≤ b) : bU (b :: r) = none:=by unfold bU; rw [gK h]; simp only [ite_self]
end
theorem begT_mid : ∀ (k : Nat) (lo hi : Int) (r : List Int),128 ≤ lo → hi ≤ 191 → bD k lo hi r = true → ∀ x ∈ r,128 ≤ x ∧ x < 192
 | _,_,_,[],_,_,_ =>fun x h =>by cases h
 | 0,_,_,_ :: _,_,_,h =>by simp [bD] at h
 | k + 1,lo,hi,o :: r,h1,h2,h =>by
  simp only [bD,Bool.and_eq_true,decide_eq_true_eq] at h
  intro x hx
  rcases List.mem_cons.mp hx with rfl | hx
  ·lia
  ·exact begT_mid k 128 191 r (by lia) (by lia) h.2 x hx
theorem cd_fin0 {k : Nat} {b lo hi c0 : Int} {r : List Int} (hp : ai (b :: r) = aC k 1 lo hi c0 r) (hr : r.length ≠ k) : V.none = eu (bU (b :: r)):=by
 rw [code_tail hp,if_neg (fun h =>hr h.2)]; rfl
section
variable {k : Nat} {b m : Int} {r : List Int}
theorem pc3 : ag .Pow (.int 2) (.int 3) = some (.int 8):=by kernel_rfl
theorem pc4 : ag .Pow (.int 2) (.int 4) = some (.int 16):=by kernel_rfl
theorem pc5 : ag .Pow (.int 2) (.int 5) = some (.int 32):=by kernel_rfl
theorem fV {t : Int} (hmid : ∀ x ∈ r,128 ≤ x ∧ x < 192) (hB : Bd r.length t) : ((bt 35 (wt (af tab k)) R55.sc R55.mu (ar (sAt (blk R55.body []) 3)) (blk R55.body [3]) (r.map .int) [(("part" : Str),AV.val (.bytes (b :: r))),(("many" : Str),AV.val (.int m)),(("number" : Str),AV.val (.int t))]).bind fun fl =>flC fl (fun g =>exsK 36 (wt (af tab k)) R55.sc R55.mu g ((blk R55.body []).drop 4) ak) (fun g =>ak (.brk g)) (fun w g =>ak (.ret w g))) = some (.int (cont t r)):=by
 refine bH (bA (fun ns g =>∃ c ex,g = (("part" : Str),AV.val (.bytes (b :: r))) :: (("many" : Str),AV.val (.int m)) :: (("number" : Str),AV.val (.int c)) :: ex ∧ (∀ x ∈ ns,128 ≤ x ∧ x < 192) ∧ Bd ns.length c ∧ cont c ns = cont t r) ?_ ?_ r _ ⟨t,[],rfl,hmid,hB,rfl⟩)
 ·rintro x s g ⟨c,ex,hg,h1,h2,h3⟩
  subst hg
  refine ⟨("part",.val (.bytes (b :: r))) :: ("many",.val (.int m)) :: ("number",.val (.int c)) :: ae "octet" (AV.val (.int x)) ex,by kernel_rfl,shb_law_code ?_⟩
  have hx:=h1 x (.head _)
  have s1 : small c = true:=bC (eF h2).1 (Int.lt_trans (eF h2).2 (by decide))
  have s2 : small 64 = true:=rfl
  simp_arith! [s1,s2]
  have e : 64 * c + x - 128 = c * 64 + x % 64:=by lia
  rw [e]
  exact ⟨_,_,rfl,fun y hy =>h1 y (.tail _ hy),bd_step mod64 h2,h3⟩
 ·rintro g ⟨c,ex,hg,h1,h2,h3⟩
  subst hg
  simp only [fN,← h3]
  exact sha_law_code rfl
theorem code_fin {K : Nat} {lo hi t : Int} (hp : ai (b :: r) = aC K 1 lo hi t r) (hg : dy (b :: r) = bD K lo hi r) (h1 : 128 ≤ lo) (h2 : hi ≤ 191) (hr : r.length = K) (hB : Bd K t) {o : Option V} (ho : (∀ x ∈ r,128 ≤ x ∧ x < 192) → o = some (.int (cont t r))) : cond (!dy (b :: r)) (some V.none) o = some (eu (bU (b :: r))):=by
 simp only [code_tail hp,hg]
 cases h : bD K lo hi r with
 | false =>rw [if_neg (fun h =>by cases h.1)]; rfl
 | true =>rw [if_pos ⟨rfl,hr⟩]; exact ho (begT_mid K lo hi r h1 h2 h)
theorem code_bad (h : (128 ≤ b ∧ b < 194) ∨ 245 ≤ b) {o : Option V} : cond (!dy (b :: r)) (some V.none) o = some (eu (bU (b :: r))):=by rw [cd_bad h,bg_bad h]; rfl
theorem law_code_eq {l : List Int} (h : 1 ≤ l.length ∧ l.length ≤ 4) (ho : Oct l) : (af tab (k + 2)).fn "_law_code" [.bytes l] [] = some (eu (bU l)):=by
 have hbg:=fH (k:=k) h ho
 cases l with
 | nil =>simp at h
 | cons b r =>
  have hb:=ho.cons.1
  rw [List.length_cons] at h
  have hl : (b :: r).length ≤ 1048576:=by rw [List.length_cons]; lia
  have hl2 : (r.map V.int).length ≤ 1048576:=by rw [List.length_map]; lia
  have hl3 : r.length ≤ 1048576:=by lia
  have h0 : aH (b :: r) 0 = some b:=itNat 0 rfl
  have c1 : cut (b :: r) (some 1) Option.none = r:=di (a:=1)
  have p1 : ay (some (.int 1)) = some (some 1):=rfl
  have neq : ∀ q : Nat,r.length ≠ q → (!(((b :: r).length : Int) == (q : Int) + 1)) = true:=fun q hq =>by rw [bneF (by rw [List.length_cons]; lia)]; rfl
  have eqq : ∀ q : Nat,r.length = q → (!(((b :: r).length : Int) == (q : Int) + 1)) = false:=fun q hq =>by simp only [List.length_cons,hq]; simp
  have ne_ : ∀ x y : Int,ap .NotEq (.int x) (.int y) = some (!(x == y)):=fun _ _ =>rfl
  have i0 : al (.bytes (b :: r)) (.int 0) = some (.int b):=(itB hl).trans (by rw [h0]; rfl)
  refine sh_law_code (bE i0 (bE lt_ ?_))
  by_cases h1 : b < 128
  ·refine cE (decide_eq_true h1) ?_
   cases r with
   | nil =>
    have hx : dy [b] = true:=by rw [dy,if_pos h1]; rfl
    have e : (!(([b].length : Int) == 1)) = false:=eqq 0 rfl
    have i0' : ao (.bytes []) = some (([] : List Int).map .int):=rfl
    simp_arith [hl,h0,ne_,e,hbg,hx,c1,p1,i0']
    have e2 : bU [b] = some b:=by rw [bU,ai,if_pos h1]; rfl
    rw [e2]
    exact fV (b:=b) (r:=[]) (t:=b) (fun x h =>by cases h) trivial
   | cons c s =>
    have e : (!(((b :: c :: s).length : Int) == 1)) = true:=neq 0 (by simp)
    simp_arith [hl,h0,ne_,e]
    rw [bU,ai,if_pos h1,if_neg (by simp only [List.length_cons]; lia)]; rfl
  refine cE' (decide_eq_false h1) (bE i0 (bE lt_ ?_))
  by_cases h2 : b < 224
  ·refine cE (decide_eq_true h2) ?_
   have bad : r.length ≠ 1 → V.none = eu (bU (b :: r)):=fun hr =>by
    by_cases h3 : 194 ≤ b
    ·exact cd_fin0 (pm_C ⟨h3,by lia⟩) hr
    ·rw [cd_bad (by lia)]; rfl
   by_cases hr : r.length = 1
   ·have e : (!(((b :: r).length : Int) == 2)) = false:=eqq 1 hr
    simp_arith [hl,h0,ne_,e,hbg]
    by_cases h3 : 194 ≤ b
    ·have h4 : 194 ≤ b ∧ b ≤ 223:=⟨h3,by lia⟩
     have B : Bd 1 (b % 32):=⟨Int.emod_nonneg _ (by decide),Int.lt_trans (Int.emod_lt_of_pos _ (by decide)) (by decide)⟩
     exact code_fin (pm_C h4) (bg_C h4) (by decide) (by decide) hr B fun hm =>by simp_arith [hl,h0,hl2,hl3,c1,p1,pc3,dv3,mdI (a:=b) (b:=32) (by decide)]; exact fV hm (by rw [hr]; exact B)
    ·exact code_bad (by lia)
   ·have e : (!(((b :: r).length : Int) == 2)) = true:=neq 1 hr
    simp_arith [hl,h0,ne_,e]
    rw [← bad hr]
  refine cE' (decide_eq_false h2) (bE i0 (bE lt_ ?_))
  by_cases h3 : b < 240
  ·refine cE (decide_eq_true h3) ?_
   have h4 : 224 ≤ b ∧ b ≤ 239:=by lia
   by_cases hr : r.length = 2
   ·have e : (!(((b :: r).length : Int) == 3)) = false:=eqq 2 hr
    simp_arith [hl,h0,ne_,e,hbg]
    have B : Bd 2 (b % 16):=⟨Int.emod_nonneg _ (by decide),Int.lt_trans (Int.emod_lt_of_pos _ (by decide)) (by decide)⟩
    exact code_fin (pm_D h4) (bg_D h4) (by split <;> decide) (by split <;> decide) hr B fun hm =>by simp_arith [hl,h0,hl2,hl3,c1,p1,pc4,dv4,mdI (a:=b) (b:=16) (by decide)]; exact fV hm (by rw [hr]; exact B)
   ·have e : (!(((b :: r).length : Int) == 3)) = true:=neq 2 hr
    simp_arith [hl,h0,ne_,e]
    rw [← cd_fin0 (pm_D h4) hr]
  ·refine cE' (decide_eq_false h3) ?_
   by_cases hr : r.length = 3
   ·have e : (!(((b :: r).length : Int) == 4)) = false:=eqq 3 hr
    simp_arith [hl,h0,ne_,e,hbg]
    by_cases h4 : b ≤ 244
    ·have h5 : 240 ≤ b ∧ b ≤ 244:=by lia
     have B : Bd 3 (b % 8):=⟨Int.emod_nonneg _ (by decide),Int.emod_lt_of_pos _ (by decide)⟩
     exact code_fin (pm_E h5) (bg_E h5) (by split <;> decide) (by split <;> decide) hr B fun hm =>by simp_arith [hl,h0,hl2,hl3,c1,p1,pc5,dv5,mdI (a:=b) (b:=8) (by decide)]; exact fV hm (by rw [hr]; exact B)
    ·exact code_bad (by lia)
   ·have e : (!(((b :: r).length : Int) == 4)) = true:=neq 3 hr
    simp_arith [hl,h0,ne_,e]
    by_cases h4 : b ≤ 244
    ·rw [← cd_fin0 (pm_E (by lia)) hr]
    ·rw [cd_bad (by lia)]; rfl
end
theorem bool_eq {a b : Bool} (h : a = true ↔ b = true) : a = b:=Bool.eq_iff_iff.mpr h
theorem tl_take : ∀ (k : Nat) (d lo hi code : Int) (r : List Int) (j : Nat),j ≤ r.length → bD k lo hi (r.take j) = decide (d + j ≤ (aC k d lo hi code r).1)
 | k,d,lo,hi,code,r,0,_ =>by
  simp only [List.take_zero,begT_nil]
  have:=(eC k d lo hi code r).1
  simp; lia
 | _,_,_,_,_,[],j + 1,h =>by simp at h
 | 0,d,lo,hi,code,o :: r,j + 1,_ =>by
  rw [List.take_succ_cons,bD,aC]
  apply Eq.symm; apply decide_eq_false; simp only; lia
 | k + 1,d,lo,hi,code,o :: r,j + 1,h =>by
  rw [List.take_succ_cons,bD,aC]
  simp only [List.length_cons] at h
  by_cases c : lo ≤ o ∧ o ≤ hi
  ·simp only [if_pos c,tl_take k (d + 1) 128 191 (code * 64 + o % 64) r j (by lia)]
   simp only [c.1,c.2,decide_true,Bool.true_and]
   apply bool_eq
   simp only [decide_eq_true_eq]; lia
  ·rw [if_neg c]
   have : (decide (lo ≤ o) && decide (o ≤ hi)) = false:=by simp only [Bool.and_eq_false_iff,decide_eq_false_iff_not,decide_eq_false_iff_not]; lia
   rw [this]; simp; lia
theorem beg_iff {l : List Int} {m : Nat} (h : 2 ≤ m ∧ m ≤ l.length) : dy (l.take m) = decide ((m : Int) ≤ (ai l).1):=by
 obtain ⟨j,rfl⟩ : ∃ j,m = j + 1:=⟨m - 1,by lia⟩
 rcases l with _ | ⟨b,r⟩
 ·simp at h
 ·rw [List.take_succ_cons]
  simp only [List.length_cons] at h
  by_cases h1 : b < 128
  ·rw [dy,if_pos h1,ai,if_pos h1]
   rcases r with _ | ⟨c,r⟩
   ·simp only [List.length_nil] at h; lia
   ·obtain ⟨i,rfl⟩ : ∃ i,j = i + 1:=⟨j - 1,by lia⟩
    rw [List.take_succ_cons]; simp; lia
  ·by_cases h2 : b < 194
   ·rw [bg_bad (by lia),gK (by lia)]; simp; lia
   ·by_cases h3 : b ≤ 223
    ·rw [bg_C (by lia),pm_C (by lia),tl_take 1 1 _ _ (b % 32) r j (by lia)]
     apply bool_eq; simp only [decide_eq_true_eq]; lia
    ·by_cases h4 : b ≤ 239
     ·rw [bg_D (by lia),pm_D (by lia),tl_take 2 1 _ _ (b % 16) r j (by lia)]
      apply bool_eq; simp only [decide_eq_true_eq]; lia
     ·by_cases h5 : b ≤ 244
      ·rw [bg_E (by lia),pm_E (by lia),tl_take 3 1 _ _ (b % 8) r j (by lia)]
       apply bool_eq; simp only [decide_eq_true_eq]; lia
      ·rw [bg_bad (by lia),gK (by lia)]; simp; lia
theorem tl_prefix : ∀ (k : Nat) (d lo hi code : Int) (r : List Int) (j : Nat),(aC k d lo hi code r).1 = d + j → (aC k d lo hi code (r.take j)).1 = d + j ∧ (aC k d lo hi code (r.take j)).2.1 = (aC k d lo hi code r).2.1
 | 0,d,lo,hi,code,r,j,h =>by
  simp only [aC] at h ⊢
  exact ⟨h,trivial⟩
 | k + 1,d,lo,hi,code,[],j,h =>by
  simp only [aC] at h
  simp only [List.take_nil,aC]
  exact ⟨h,trivial⟩
 | k + 1,d,lo,hi,code,o :: r,j,h =>by
  rw [aC] at h ⊢
  by_cases c : lo ≤ o ∧ o ≤ hi
  ·rw [if_pos c] at h ⊢
   have:=(eC k (d + 1) 128 191 (code * 64 + o % 64) r).1
   obtain ⟨i,rfl⟩ : ∃ i,j = i + 1:=⟨j - 1,by lia⟩
   simp only [List.take_succ_cons,aC,if_pos c]
   have:=tl_prefix k (d + 1) 128 191 (code * 64 + o % 64) r i (by lia)
   exact ⟨by rw [this.1]; lia,this.2⟩
  ·rw [if_neg c] at h ⊢
   have : j = 0:=by simp only at h; lia
   subst this
   simp [aC]
theorem piece_le4 {l : List Int} : (ai l).1 ≤ 4:=by
 rcases l with _ | ⟨b,r⟩
 ·simp [ai]
 ·rw [ai]
  split
  ·simp
  ·split
   ·have:=tl_le 1 1 128 191 (b % 32) r; lia
   ·split
    ·have:=tl_le 2 1 (if b = 224 then 160 else 128) (if b = 237 then 159 else 191) (b % 16) r; lia
    ·split
     ·have:=tl_le 3 1 (if b = 240 then 144 else 128) (if b = 244 then 143 else 191) (b % 8) r; lia
     ·simp
theorem fW {l : List Int} (h : l ≠ []) : bU (l.take (ai l).1.toNat) = (ai l).2.1:=by
 have hb:=bm h
 obtain ⟨j,hj⟩ : ∃ j : Nat,(ai l).1 = 1 + (j : Int):=⟨(ai l).1.toNat - 1,by lia⟩
 have hm : (ai l).1.toNat = j + 1:=by lia
 rw [hm]
 rcases l with _ | ⟨b,r⟩
 ·exact absurd rfl h
 ·rw [List.take_succ_cons]
  unfold bU
  have key : ∀ (k : Nat) (lo hi c0 : Int),(∀ s,ai (b :: s) = aC k 1 lo hi c0 s) → (if (ai (b :: r.take j)).1 = ((b :: r.take j).length : Nat) then (ai (b :: r.take j)).2.1 else none) = (ai (b :: r)).2.1:=by
   intro k lo hi c0 hp
   rw [hp] at hj hb
   rw [hp,hp]
   have:=tl_prefix k 1 lo hi c0 r j hj
   rw [if_pos,this.2]
   have hjr : j ≤ r.length:=by have:=hb.2; rw [hj,List.length_cons] at this; lia
   rw [this.1,List.length_cons,List.length_take,Nat.min_eq_left hjr]; exact Int.add_comm 1 j
  by_cases h1 : b < 128
  ·have hj0 : j = 0:=by rw [ai,if_pos h1] at hj; simp only at hj; lia
   subst hj0
   rw [List.take_zero,ai,if_pos h1,ai,if_pos h1]; rfl
  ·by_cases h2 : b < 194 ∨ 245 ≤ b
   ·have hj0 : j = 0:=by rw [gK (by lia)] at hj; simp only at hj; lia
    subst hj0
    rw [List.take_zero,gK (by lia),gK (by lia)]; rfl
   ·by_cases h3 : b ≤ 223
    ·exact key _ _ _ _ (fun s =>pm_C (by lia))
    ·by_cases h4 : b ≤ 239
     ·exact key _ _ _ _ (fun s =>pm_D (by lia))
     ·exact key _ _ _ _ (fun s =>pm_E (by lia))
theorem begT_len : ∀ (k : Nat) (lo hi : Int) (r : List Int),bD k lo hi r = true → r.length ≤ k
 | _,_,_,[],_ =>by simp
 | 0,_,_,_ :: _,h =>by simp [bD] at h
 | k + 1,lo,hi,o :: r,h =>by
  simp only [bD,Bool.and_eq_true] at h
  have:=begT_len k _ _ r h.2
  simp only [List.length_cons]; lia
theorem ne1 : ¬ (("" : Str) = bu):=by decide
theorem ne2 : ¬ (sBroken = bu):=by decide
theorem ne3 : ¬ (sAlone = bu):=by decide
theorem ne4 : ¬ (sNever = bu):=by decide
theorem tl_short : ∀ (k : Nat) (d lo hi code : Int) (r : List Int),(aC k d lo hi code r).2.2 = bu ↔ (bD k lo hi r = true ∧ r.length < k)
 | 0,d,lo,hi,code,r =>by simp only [aC]; simp [ne1]
 | k + 1,d,lo,hi,code,[] =>by simp [aC,bD]
 | k + 1,d,lo,hi,code,o :: r =>by
  rw [aC]
  simp only [bD,Bool.and_eq_true,decide_eq_true_eq,List.length_cons]
  by_cases c : lo ≤ o ∧ o ≤ hi
  ·rw [if_pos c,tl_short k]
   constructor
   ·intro h; exact ⟨⟨c,h.1⟩,by lia⟩
   ·intro h; exact ⟨h.1.2,by lia⟩
  ·rw [if_neg c]
   constructor
   ·intro h; exact absurd h ne2
   ·intro h; exact absurd h.1.1 c
theorem short_iff {l : List Int} (h : l ≠ []) : (ai l).2.2 = bu ↔ (bU l = none ∧ dy l = true):=by
 rcases l with _ | ⟨b,r⟩
 ·exact absurd rfl h
 ·have key : ∀ (k : Nat) (lo hi c0 : Int),ai (b :: r) = aC k 1 lo hi c0 r → dy (b :: r) = bD k lo hi r → ((ai (b :: r)).2.2 = bu ↔ (bU (b :: r) = none ∧ dy (b :: r) = true)):=by
   intro k lo hi c0 hp hg
   simp only [code_tail hp,hp,hg,tl_short]
   constructor
   ·rintro ⟨h1,h2⟩; exact ⟨if_neg (by lia),h1⟩
   ·rintro ⟨h1,h2⟩
    have:=begT_len _ _ _ _ h2
    refine ⟨h2,?_⟩
    by_cases e : r.length = k
    ·rw [if_pos ⟨h2,e⟩] at h1; cases h1
    ·lia
  by_cases h1 : b < 128
  ·simp only [ai,if_pos h1,dy,if_pos h1]
   constructor
   ·intro h; exact absurd h ne1
   ·rintro ⟨h2,h3⟩
    have : r = []:=List.isEmpty_iff.mp h3
    subst this
    rw [bU,ai,if_pos h1] at h2
    simp at h2
  ·by_cases h2 : b < 194 ∨ 245 ≤ b
   ·rw [gK (by lia),bg_bad (by lia)]
    constructor
    ·intro h
     simp only at h
     split at h
     ·exact absurd h ne3
     ·exact absurd h ne4
    ·intro h; simp at h
   ·by_cases h3 : b ≤ 223
    ·exact key _ _ _ _ (pm_C (by lia)) (bg_C (by lia))
    ·by_cases h4 : b ≤ 239
     ·exact key _ _ _ _ (pm_D (by lia)) (bg_D (by lia))
     ·exact key _ _ _ _ (pm_E (by lia)) (bg_E (by lia))
theorem short_all {l : List Int} (h : l ≠ []) (hs : (ai l).2.2 = bu) : (ai l).1 = l.length:=by
 have hg:=((short_iff h).mp hs).2
 have hb:=bm h
 by_cases h2 : 2 ≤ l.length
 ·have:=beg_iff (l:=l) (m:=l.length) ⟨h2,Nat.le_refl _⟩
  rw [List.take_length,hg] at this
  have:=of_decide_eq_true this.symm
  lia
 ·lia
noncomputable def gj (l : List Int) : List (List Int):=if h : l = [] then [] else l.take (ai l).1.toNat :: gj (l.drop (ai l).1.toNat)
termination_by l.length
decreasing_by exact dec_ h (bm h).1
theorem dC : gj [] = []:=by rw [gj]; rfl
theorem cY {l : List Int} (h : l ≠ []) : gj l = l.take (ai l).1.toNat :: gj (l.drop (ai l).1.toNat):=by rw [gj,dif_neg h]
noncomputable def waits (p : List Int) : Bool:=(bU p).isNone && dy p
noncomputable def f9 (ps : List (List Int)) : List (List Int):=if ps.getLast?.any waits = true then ps.dropLast else ps
noncomputable def got (p : List Int) : Int:=(bU p).getD 65533
theorem run_true : ∀ (n : Nat) (l : List Int),l.length ≤ n → (run true l).1 = (gj l).map got
 | _,[],_ =>by rw [dp,dC]; rfl
 | 0,_ :: _,h =>by simp at h
 | n + 1,b :: r,h =>by
  have hne : b :: r ≠ []:=by simp
  have hb:=bm hne
  rw [cN hne (by simp),cY hne,List.map_cons,got,fW hne,run_true n _ (dnD hb.1 h)]
theorem waits_iff {l : List Int} (h : l ≠ []) : waits l = true ↔ (ai l).2.2 = bu:=by
 rw [short_iff h]; unfold waits; rw [Bool.and_eq_true,Option.isNone_iff_eq_none]
theorem run_false : ∀ (n : Nat) (l : List Int),l.length ≤ n → (run false l).1 = (f9 (gj l)).map got
 | _,[],_ =>by rw [dp,dC]; rfl
 | 0,_ :: _,h =>by simp at h
 | n + 1,b :: r,h =>by
  have hne : b :: r ≠ []:=by simp
  have hb:=bm hne
  generalize hl : b :: r = l at *
  by_cases hs : (ai l).2.2 = bu
  ·rw [dw hne ⟨hs,rfl⟩,cY hne,short_all hne hs]
   rw [Int.toNat_natCast,List.take_length,List.drop_length,dC]
   unfold f9
   rw [List.getLast?_singleton,Option.any_some,if_pos ((waits_iff hne).mpr hs)]; rfl
  ·rw [cN hne (fun h =>hs h.1),cY hne]
   have ih:=run_false n (l.drop (ai l).1.toNat) (dnD hb.1 h)
   rw [ih]
   by_cases hd : l.drop (ai l).1.toNat = []
   ·rw [hd,dC]
    have hlen : l.length ≤ (ai l).1.toNat:=by have:=congrArg List.length hd; simp at this; lia
    rw [List.take_of_length_le hlen]
    unfold f9
    rw [List.getLast?_singleton,Option.any_some,if_neg (fun h =>hs ((waits_iff hne).mp h))]
    have:=fW hne
    rw [List.take_of_length_le hlen] at this
    simp [got,this]
   ·generalize hq : gj (l.drop (ai l).1.toNat) = q
    have hq0 : q ≠ []:=by rw [← hq,cY hd]; simp
    unfold f9
    rw [List.getLast?_cons,List.getLast?_eq_some_getLast hq0]
    simp only [Option.getD_some,Option.any_some]
    by_cases hw : waits (q.getLast hq0) = true
    ·rw [if_pos hw,if_pos hw,List.dropLast_cons_of_ne_nil hq0,List.map_cons,got,fW hne]
    ·rw [if_neg hw,if_neg hw,List.map_cons,got,fW hne]
noncomputable def wr : Nat → Int → List Int → Int × List Int
 | 0,x,fs =>(x,fs)
 | n + 1,x,fs =>wr n (x / 64) ((128 + x % 64) :: fs)
theorem wr_loop {k : Nat} {x s : Int} {xs : List Int} (hl : xs.length ≤ 3) {v : V} (hv : ∀ ex,exsK 36 (wt (af tab k)) R57.sc R57.mu ((("code" : Str),AV.val (.int (wr xs.length x []).1)) :: (("size" : Str),AV.val (.int s)) :: (("found" : Str),AV.val (.list ((wr xs.length x []).2.map .int))) :: ex) ((blk R57.body []).drop 4) ak = some v) : ((bt 35 (wt (af tab k)) R57.sc R57.mu (ar (sAt (blk R57.body []) 3)) (blk R57.body [3]) (xs.map .int) [(("code" : Str),AV.val (.int x)),(("size" : Str),AV.val (.int s)),(("found" : Str),AV.val (.list []))]).bind fun fl =>flC fl (fun g =>exsK 36 (wt (af tab k)) R57.sc R57.mu g ((blk R57.body []).drop 4) ak) (fun g =>ak (.brk g)) (fun w g =>ak (.ret w g))) = some v:=by
 refine bH (bA (fun ns g =>∃ y fs ex,g = (("code" : Str),AV.val (.int y)) :: (("size" : Str),AV.val (.int s)) :: (("found" : Str),AV.val (.list (fs.map .int))) :: ex ∧ ns.length + fs.length ≤ 3 ∧ wr ns.length y fs = wr xs.length x []) ?_ ?_ xs _ ⟨x,[],[],rfl,hl,rfl⟩)
 ·rintro z r g ⟨y,fs,ex,hg,h1,h2⟩
  subst hg
  have hfs : [V.int (128 + y % 64)].length + (fs.map V.int).length ≤ 1048576:=by simp only [List.length_cons,List.length_nil,List.length_map] at h1 ⊢; lia
  refine ⟨("code",.val (.int y)) :: ("size",.val (.int s)) :: ("found",.val (.list (fs.map .int))) :: ae "k" (AV.val (.int z)) ex,by kernel_rfl,shb_law_written ?_⟩
  simp_arith only [hfs]
  exact ⟨y / 64,(128 + y % 64) :: fs,_,rfl,by rw [List.length_cons] at h1 ⊢; lia,h2⟩
 ·rintro g ⟨y,fs,ex,hg,h1,h2⟩
  subst hg
  rw [fN]
  have h2 : (y,fs) = wr xs.length x []:=h2
  have:=hv ex
  rw [← h2] at this
  exact this
theorem wr_end {k : Nat} {s w y : Int} {fs : List Int} {ex : Gam} (hd : dictV [2,3,4] [.int 192,.int 224,.int 240] (.int s) = some (.int w)) (hl : fs.length ≤ 3) (ho : Oct ((w + y) :: fs)) : exsK 36 (wt (af tab k)) R57.sc R57.mu (("code",.val (.int y)) :: ("size",.val (.int s)) :: ("found",.val (.list (fs.map .int))) :: ex) ((blk R57.body []).drop 4) ak = some (.bytes ((w + y) :: fs)):=by
 refine sha_law_written ?_
 have hfs : [V.int (w + y)].length + (fs.map V.int).length ≤ 1048576:=by rw [List.length_map]; simp only [List.length_cons,List.length_nil]; lia
 simp_arith! [hd,hfs]
 exact congrArg (Option.bind · some) (byL (l:=(w + y) :: fs) (by rw [List.length_cons]; lia) ho)
theorem Oct.of {a : Int} {l : List Int} (h : 0 ≤ a ∧ a < 256) (h2 : Oct l) : Oct (a :: l):=fun x hx =>by
 cases hx with
 | head =>exact h
 | tail _ hx =>exact h2 x hx
theorem Oct.nil : Oct []:=fun x hx =>by cases hx
theorem wg2 : bM "range" [.int (2 - 1)] = some (([0] : List Int).map .int):=by kernel_rfl
theorem wg3 : bM "range" [.int (3 - 1)] = some (([0,1] : List Int).map .int):=by kernel_rfl
theorem wg4 : bM "range" [.int (4 - 1)] = some (([0,1,2] : List Int).map .int):=by kernel_rfl
theorem law_written_eq {k : Nat} {x : Int} (h0 : 0 ≤ x) (h1 : x ≤ 1114111) : (af tab (k + 1)).fn "_law_written" [.int x] [] = some (.bytes (bX x)):=by
 have d1 : x / 64 / 64 = x / 4096:=dd2.symm
 have d2 : x / 4096 / 64 = x / 262144:=Int.ediv_ediv_of_nonneg (x:=x) (y:=4096) (z:=64) (by decide)
 refine sh_law_written ?_
 unfold bX
 by_cases c1 : x < 128
 ·rw [if_pos c1]
  simp_arith [c1]
  exact congrArg (Option.bind · some) (byL (l:=[x]) (Nat.le_add_left 1 1048575) (oc1 ⟨h0,Int.lt_trans c1 (by decide)⟩ oc0))
 rw [if_neg c1]
 have n1 : decide (x < 128) = false:=decide_eq_false c1
 by_cases c2 : x < 2048
 ·rw [if_pos c2]
  have n2 : decide (x < 2048) = true:=decide_eq_true c2
  simp only [n1,n2,cT,cF,wg2,bS]
  exact wr_loop (by decide) fun ex =>wr_end (k:=k) (s:=2) (w:=192) (y:=x / 64) (fs:=[128 + x % 64]) (by kernel_rfl) (Nat.le_add_left 1 2) (ocd 32 h0 c2 (by decide) (by decide) (by decide) (oc6 oc0))
 rw [if_neg c2]
 have n2 : decide (x < 2048) = false:=decide_eq_false c2
 by_cases c3 : x < 65536
 ·rw [if_pos c3]
  have n3 : decide (x < 65536) = true:=decide_eq_true c3
  simp only [n1,n2,n3,cT,cF,wg3,bS]
  rw [← d1]
  exact wr_loop (by decide) fun ex =>wr_end (k:=k) (s:=3) (w:=224) (y:=x / 64 / 64) (fs:=[128 + x / 64 % 64,128 + x % 64]) (by kernel_rfl) (Nat.le_add_left 2 1) (ocd 16 (Int.ediv_nonneg h0 (by decide)) (dh 1024 c3) (by decide) (by decide) (by decide) (oc6 (oc6 oc0)))
 ·rw [if_neg c3]
  have n3 : decide (x < 65536) = false:=decide_eq_false c3
  simp only [n1,n2,n3,cT,cF,wg4,bS]
  rw [← d2,← d1]
  exact wr_loop (by decide) fun ex =>wr_end (k:=k) (s:=4) (w:=240) (y:=x / 64 / 64 / 64) (fs:=[128 + x / 64 / 64 % 64,128 + x / 64 % 64,128 + x % 64]) (by kernel_rfl) (Nat.le_refl 3) (ocd 5 (Int.ediv_nonneg (Int.ediv_nonneg h0 (by decide)) (by decide)) (dh 320 (dh 20480 (Int.lt_of_le_of_lt h1 (by decide)))) (by decide) (by decide) (by decide) (oc6 (oc6 (oc6 oc0))))
theorem beg_at {k a : Nat} {ks : List Int} (ho : Oct ks) (j : Nat) (h2 : 2 ≤ j ∧ j ≤ 4) (h : a + j ≤ ks.length) : (af tab (k + 1)).fn "_law_is_begun" [.bytes (cut ks (some (a : Int)) (some ((a : Int) + (j : Int))))] [] = some (.bool (decide ((j : Int) ≤ (ai (ks.drop a)).1))):=by
 have e : (a : Int) + (j : Int) = ((a + j : Nat) : Int):=(Int.natCast_add a j).symm
 have le : j ≤ ks.length - a:=Nat.le_sub_of_add_le (by rw [Nat.add_comm]; exact h)
 rw [e,eg,Nat.add_sub_cancel_left,fH ?_ ((ho.drop a).take j),beg_iff ?_]
 ·rw [List.length_drop]; exact ⟨h2.1,le⟩
 ·rw [List.length_take,List.length_drop,Nat.min_eq_left le]; exact ⟨Nat.le_trans (by decide) h2.1,h2.2⟩
section
variable {k a : Nat} {ks : List Int} {fs : List V}
theorem cut_step {j S : Nat} {ex : Gam} {P : Fl → Prop} (hl : ks.length ≤ 1000) (ho : Oct ks) (ha : a < ks.length) (hj : 2 ≤ j ∧ j ≤ 4) (hx : List.lookup ("more" : Str) ex = some (.val (.int j))) (hs : List.lookup ("size" : Str) ex = some (.val (.int S)))
  (h : ∀ ex',List.lookup ("size" : Str) ex' = some (.val (.int (if (j : Int) ≤ (ai (ks.drop a)).1 then j else S : Nat))) → P (.next (("octets",.val (.bytes ks)) :: ("found",.own (fs)) :: ("at",.val (.int a)) :: ex'))) : Out (exs 34 (wt (af tab (k + 1))) R56.sc R56.mu (blk R56.body [1,1]) (("octets",.val (.bytes ks)) :: ("found",.own (fs)) :: ("at",.val (.int a)) :: ex)) P:=by
 refine shb_law_cut_in ?_
 have hl' : ks.length ≤ 1048576:=by lia
 have hb:=(bm (bw ha)).2
 rw [List.length_drop] at hb
 by_cases h1 : (a : Int) + (j : Int) ≤ ks.length
 ·have B:=beg_at (k:=k) ho j hj (a:=a) (by lia)
  have p1:=ptN (a:=a) (by lia)
  have p2:=ptN (a:=a + j) (by lia)
  rw [Int.natCast_add] at p2
  by_cases h2 : (j : Int) ≤ (ai (ks.drop a)).1
  ·rw [if_pos h2] at h
   simp_arith! [hx,h1,hl',p1,p2,B,h2]
   exact h _ lkS
  ·rw [if_neg h2] at h
   simp_arith! [hx,h1,hl',p1,p2,B,h2]
   exact h _ hs
 ·rw [if_neg (by lia)] at h
  simp_arith only [hx,h1,hl']
  exact h _ hs
noncomputable def cutS (m : Int) : List Nat → Nat → Nat
 | [],S =>S
 | j :: r,S =>cutS m r (if (j : Int) ≤ m then j else S)
theorem law_cut_eq (hl : ks.length ≤ 1000) (ho : Oct ks) : (af tab (k + 2)).fn "_law_cut" [.bytes ks] [] = some (.list ((gj ks).map .bytes)):=by
 have hl' : ks.length ≤ 1048576:=by lia
 refine sh_law_cut (bH (fv (L:=ks.length) (d:=0) (E:=fun a (fs : List (List Int)) ex =>("octets",.val (.bytes ks)) :: ("found",.own (fs.map .bytes)) :: ("at",.val (.int a)) :: ex) (J:=fun a fs =>fs ++ gj (ks.drop a) = gj ks) hl ?_ ?_ ?_ (Nat.zero_le _) rfl))
 ·intro a fs ex
  refine sht_law_cut ?_
  simp_arith! [hl']
 ·intro a fs ex hlt hfs h6
  rw [← List.length_map (f:=V.bytes)] at hfs
  have hb:=bm (bw hlt)
  have h4':=piece_le4 (l:=ks.drop a)
  have ct:=cY (bw hlt)
  rw [List.drop_drop] at ct
  rw [List.length_drop] at hb
  have hi : ao (.tup [.int 2,.int 3,.int 4]) = some (([2,3,4] : List Nat).map fun (j : Nat) =>V.int (j : Int)):=by kernel_rfl
  refine shb_law_cut ?_
  simp_arith only [hi]
  obtain ⟨m,hm⟩ : ∃ m : Nat,(ai (ks.drop a)).1 = m:=⟨(ai (ks.drop a)).1.toNat,by lia⟩
  refine loopP (bA (fun ns g =>∃ ex S,g = (("octets" : Str),AV.val (.bytes ks)) :: (("found" : Str),AV.own (fs.map .bytes)) :: (("at" : Str),AV.val (.int a)) :: ex ∧ List.lookup ("size" : Str) ex = some (.val (.int (S : Nat))) ∧ (∀ j ∈ ns,2 ≤ j ∧ j ≤ 4) ∧ cutS m ns S = m) ?_ ?_ _ _ ⟨_,1,rfl,lkS,by decide,?_⟩)
  ·rintro j r g ⟨ex,S,hg,hs,hj,hS⟩
   subst hg
   have e : (("size" : Str) == ("more" : Str)) = false:=by kernel_rfl
   refine ⟨("octets",.val (.bytes ks)) :: ("found",.own (fs.map .bytes)) :: ("at",.val (.int a)) :: ae "more" (AV.val (.int (j : Int))) ex,by kernel_rfl,cut_step hl ho hlt (hj j (.head _)) lkS ((lkN e).trans hs) fun ex' hx =>⟨ex',_,rfl,hx,fun i hi =>hj i (.tail _ hi),?_⟩⟩
   rw [hm]; exact hS
  ·rintro g ⟨ex,S,hg,hs,hj,hS⟩
   subst hg
   have hS : S = m:=hS
   subst hS
   rw [fN]
   have p1:=ptN (a:=a) (by lia)
   have p2:=ptN (a:=a + S) (by lia)
   rw [Int.natCast_add] at p2
   have hcut : cut ks (some (a : Int)) (some ((a : Int) + (S : Int))) = (ks.drop a).take S:=by rw [← Int.natCast_add,eg,Nat.add_sub_cancel_left]
   refine outE (sha_law_cut_in ?_) (?_ : fu _ _ (.next (("octets",.val (.bytes ks)) :: ("found",.own (fs.map .bytes ++ [.bytes ((ks.drop a).take S)])) :: ("at",.val (.int ((a : Int) + S))) :: ex)))
   ·simp_arith only [p1,p2,hs,hl',hcut,hfs]
   ·rw [ct,hm,Int.toNat_natCast] at h6
    exact ⟨(S : Int),(ks.drop a).take S,ex,by rw [List.map_append]; rfl,by rw [← hm]; exact hb.1,by rw [← hm]; exact hb.2,by rw [List.append_assoc]; exact h6⟩
  ·have : m = 1 ∨ m = 2 ∨ m = 3 ∨ m = 4:=by lia
   rcases this with rfl | rfl | rfl | rfl <;> decide
 ·intro fs ex _ h6
  rw [List.drop_length,dC,List.append_nil] at h6
  rw [fN,h6]
  exact sha_law_cut rfl
end
noncomputable abbrev sOdd : Str:="odd end"
noncomputable abbrev sLow : Str:="low"
noncomputable abbrev sHigh : Str:="high"
noncomputable def bk (o : String) (a b : Int) : Int:=if o = "be" then a * 256 + b else b * 256 + a
noncomputable def joinM (u v : Int) : Int:=65536 + (u - 55296) * 1024 + (v - 56320)
noncomputable def bz (o : String) : List Int → Pc
 | a :: b :: r =>if bg (bk o a b) = true then (2,none,sLow) else if aM (bk o a b) = true then (match r with
   | c :: d :: _ =>if bg (bk o c d) = true then (4,some (joinM (bk o a b) (bk o c d)),"") else (2,none,sHigh)
   | _ =>(2,none,sHigh)) else (2,some (bk o a b),"")
 | l =>(l.length,none,sOdd)
noncomputable def bP (o : String) : List Int → Bool
 | a :: b :: r =>decide (r.length < 2) && aM (bk o a b)
 | _ =>true
section
variable {o : String} {a b c d : Int} {r : List Int}
theorem st1 : bz o [a] = (1,none,sOdd):=rfl
theorem st2 : bz o [a,b] = if bg (bk o a b) = true then (2,none,sLow) else if aM (bk o a b) = true then (2,none,sHigh) else (2,some (bk o a b),""):=rfl
theorem st3 : bz o [a,b,c] = if bg (bk o a b) = true then (2,none,sLow) else if aM (bk o a b) = true then (2,none,sHigh) else (2,some (bk o a b),""):=rfl
theorem st4 : bz o (a :: b :: c :: d :: r) = if bg (bk o a b) = true then (2,none,sLow) else if aM (bk o a b) = true then (if bg (bk o c d) = true then (4,some (joinM (bk o a b) (bk o c d)),"") else (2,none,sHigh)) else (2,some (bk o a b),""):=rfl
end
theorem eB {o : String} {l : List Int} (h : l ≠ []) : 1 ≤ (bz o l).1 ∧ (bz o l).1 ≤ l.length:=by
 rcases l with _ | ⟨a,_ | ⟨b,_ | ⟨c,_ | ⟨d,r⟩⟩⟩⟩
 ·exact absurd rfl h
 ·rw [st1]; simp
 ·rw [st2]; split <;> (try split) <;> simp
 ·rw [st3]; split <;> (try split) <;> simp
 ·rw [st4]; simp only [List.length_cons]; split <;> (try split) <;> (try split) <;> (simp only; lia)
noncomputable def aD (o : String) (last : Bool) (l : List Int) : List (Option Int) × List Int :=
 if h : l = [] then ([],[]) else
  if last = false ∧ bP o l = true then ([],l)
  else ((bz o l).2.1 :: (aD o last (l.drop (bz o l).1.toNat)).1,(aD o last (l.drop (bz o l).1.toNat)).2)
termination_by l.length
decreasing_by all_goals exact dec_ h (eB (o:=o) h).1
section
variable {o : String} {last : Bool} {l : List Int}
theorem bn : aD o last [] = ([],[]):=by rw [aD]; rfl
theorem bY (h : l ≠ []) (h2 : last = false ∧ bP o l = true) : aD o last l = ([],l):=by rw [aD,dif_neg h,if_pos h2]
theorem bi (h : l ≠ []) (h2 : ¬ (last = false ∧ bP o l = true)) : aD o last l = ((bz o l).2.1 :: (aD o last (l.drop (bz o l).1.toNat)).1,(aD o last (l.drop (bz o l).1.toNat)).2):=by
 rw [aD,dif_neg h,if_neg h2]
end
theorem dv (o : String) (last : Bool) : ∀ (n : Nat) (l : List Int),l.length ≤ n → (aD o last l).1.length + (aD o last l).2.length ≤ l.length
 | _,[],_ =>by rw [bn]; simp
 | 0,_ :: _,h =>by simp at h
 | n + 1,b :: r,h =>by
  have hne : b :: r ≠ []:=by simp
  by_cases h2 : last = false ∧ bP o (b :: r) = true
  ·rw [bY hne h2]; simp
  ·rw [bi hne h2]
   have hb:=eB (o:=o) hne
   have:=dv o last n ((b :: r).drop (bz o (b :: r)).1.toNat) (dnD hb.1 h)
   rw [List.length_drop] at this
   exact rl_ hb.1 hb.2 this
section
variable {k : Nat} {ks r : List Int} {o : String}
theorem utf16_start_eq : (af tab (k + 1)).fn "utf16_start" [.bytes ks,.str o] [] = some (.tup [.str o,.int 0]):=by
 refine dI ?_
 simp_arith only [cT]
theorem stL {x y : Int} (h : bg (bk o x y) = true) : bz o (x :: y :: r) = (2,none,sLow):=by
 show (if bg (bk o x y) = true then _ else _) = _
 rw [if_pos h]
theorem stP {x y : Int} (h : ¬ bg (bk o x y) = true) (h2 : ¬ aM (bk o x y) = true) : bz o (x :: y :: r) = ((2,some (bk o x y),"") : Pc):=by
 show (if bg (bk o x y) = true then _ else if aM (bk o x y) = true then _ else _) = _
 rw [if_neg h,if_neg h2]
theorem pt2 : ay (some (.int 2)) = some (some 2):=rfl
theorem pt4 : ay (some (.int 4)) = some (some 4):=rfl
theorem utf16_start_be (hl : r.length ≤ 1000) : (af tab (k + 1)).fn "utf16_start" [.bytes (254 :: 255 :: r),.none] [] = some (.tup [.str "be",.int 2]):=by
 have hl' : (254 :: 255 :: r).length ≤ 1048576:=by simp only [List.length_cons]; lia
 have c2 : cut (254 :: 255 :: r) Option.none (some 2) = [254,255]:=bL (b:=2)
 have b1 : (([254,255] : List Int) == [255,254]) = false:=rfl
 have b2 : (([254,255] : List Int) == [254,255]) = true:=rfl
 refine dI ?_
 simp_arith only [hl',pt2,c2,b1,b2]
theorem utf16_start_le (hl : r.length ≤ 1000) : (af tab (k + 1)).fn "utf16_start" [.bytes (255 :: 254 :: r),.none] [] = some (.tup [.str "le",.int 2]):=by
 have hl' : (255 :: 254 :: r).length ≤ 1048576:=by simp only [List.length_cons]; lia
 have c2 : cut (255 :: 254 :: r) Option.none (some 2) = [255,254]:=bL (b:=2)
 have b1 : (([255,254] : List Int) == [255,254]) = true:=rfl
 refine dI ?_
 simp_arith only [hl',pt2,c2,b1]
theorem gw {a : Nat} (hl : ks.length ≤ 1000) (ha : a < ks.length) (ho : Oct ks) :
  (af tab (k + 2)).fn "utf16_step" [.bytes ks,.int a,.str o] [] = some (.tup [eu (bz o (ks.drop a)).2.1,.int ((a : Int) + (bz o (ks.drop a)).1),.str (bz o (ks.drop a)).2.2]):=by
 have hl' : ks.length ≤ 1048576:=by lia
 have hd:=ho.drop a
 refine sh_utf16_step ?_
 rcases hr : ks.drop a with _ | ⟨x,_ | ⟨y,r⟩⟩
 ·exact absurd hr (bw ha)
 ·have hn:=eq hr (Nat.le_of_lt ha)
  have e1 : (ks.length : Int) = (a : Int) + 1:=by simpa using hn
  have L2 : (ks.length : Int) < (a : Int) + 2:=by lia
  simp_arith [hl',L2]
  rw [e1]; rfl
 ·have hn:=eq hr (Nat.le_of_lt ha)
  rw [hr] at hd
  simp only [List.length_cons] at hn
  have L2 : ¬ (ks.length : Int) < (a : Int) + 2:=by lia
  have i0 : aH ks a = some x:=by have:=bG hr 0 (by simp); simpa using this
  have i1 : aH ks ((a : Int) + 1) = some y:=by have:=bG hr 1 (by simp); simpa using this
  have hu : (af tab (k + 1)).fn "utf16_unit" [.bytes ks,.int a,.str o] [] = some (.int (bk o x y)):=ed hl' i0 i1 hd.cons.1 hd.cons.2.cons.1
  simp_arith [hl',L2,hu,is_low_eq]
  by_cases c1 : bg (bk o x y) = true
  ·refine cE c1 ?_
   rw [stL c1]; rfl
  ·refine cE' (Bool.eq_false_iff.mpr c1) ?_
   simp_arith [is_high_eq]
   by_cases c2 : aM (bk o x y) = true
   ·refine cE' (by rw [c2]; rfl) ?_
    have hj:=c2
    unfold aM at hj
    rw [Bool.and_eq_true,decide_eq_true_eq,decide_eq_true_eq] at hj
    rcases r with _ | ⟨z,_ | ⟨w,r⟩⟩
    ·have L4 : ¬ (a : Int) + 4 ≤ (ks.length : Int):=by simp only [List.length_nil] at hn; lia
     simp_arith [hl',L4]
     rw [st2,if_neg c1,if_pos c2]; rfl
    ·have L4 : ¬ (a : Int) + 4 ≤ (ks.length : Int):=by simp only [List.length_cons,List.length_nil] at hn; lia
     simp_arith [hl',L4]
     rw [st3,if_neg c1,if_pos c2]; rfl
    ·have L4 : (a : Int) + 4 ≤ (ks.length : Int):=by simp only [List.length_cons] at hn; lia
     have i2 : aH ks ((a : Int) + 2) = some z:=by have:=bG hr 2 (by simp); simpa using this
     have i3 : aH ks ((a : Int) + 2 + 1) = some w:=by have:=bG hr 3 (by simp); rw [show (a : Int) + 2 + 1 = (a : Int) + (3 : Nat) by lia]; simpa using this
     have hv : (af tab (k + 1)).fn "utf16_unit" [.bytes ks,.int ((a : Int) + 2),.str o] [] = some (.int (bk o z w)):=ed hl' i2 i3 hd.cons.2.cons.2.cons.1 hd.cons.2.cons.2.cons.2.cons.1
     simp_arith [hl',L4,hv,is_low_eq]
     rw [st4,if_neg c1,if_pos c2]
     by_cases c3 : bg (bk o z w) = true
     ·refine cE c3 ?_
      simp_arith [utf16_joined_eq (k:=k) (y:=bk o z w) hj.1 hj.2]
      rw [if_pos c3]; rfl
     ·refine cE' (Bool.eq_false_iff.mpr c3) ?_
      rw [if_neg c3]; rfl
   ·refine cE (by rw [Bool.eq_false_iff.mpr c2]; rfl) ?_
    rw [stP c1 c2]; rfl
theorem is_lacking_eq {a : Nat} (hl : ks.length ≤ 1000) (ha : a < ks.length) (ho : Oct ks) :
  (af tab (k + 2)).pm "Utf16Stream" "is_lacking" [.bytes ks,.int a,.str o] = some (.bool (bP o (ks.drop a))):=by
 have hl' : ks.length ≤ 1048576:=by lia
 have hd:=ho.drop a
 refine sh_Utf16Stream_is_lacking ?_
 rcases hr : ks.drop a with _ | ⟨x,_ | ⟨y,r⟩⟩
 ·exact absurd hr (bw ha)
 ·have hn:=eq hr (Nat.le_of_lt ha)
  have L2 : (ks.length : Int) - (a : Int) < 2:=by simp only [List.length_cons,List.length_nil] at hn; lia
  simp_arith! [hl',L2]; rfl
 ·have hn:=eq hr (Nat.le_of_lt ha)
  rw [hr] at hd
  simp only [List.length_cons] at hn
  have L2 : ¬ (ks.length : Int) - (a : Int) < 2:=by lia
  have i0 : aH ks a = some x:=by have:=bG hr 0 (by simp); simpa using this
  have i1 : aH ks ((a : Int) + 1) = some y:=by have:=bG hr 1 (by simp); simpa using this
  have hu : (af tab (k + 1)).fn "utf16_unit" [.bytes ks,.int a,.str o] [] = some (.int (bk o x y)):=ed hl' i0 i1 hd.cons.1 hd.cons.2.cons.1
  rw [bP]
  by_cases c : r.length < 2
  ·have L4 : (ks.length : Int) - (a : Int) < 4:=by lia
   simp_arith! [hl',L2,L4,hu,is_high_eq,c,Bool.true_and]
  ·have L4 : ¬ (ks.length : Int) - (a : Int) < 4:=by lia
   simp_arith! [hl',L2,L4,c,Bool.false_and]
end
noncomputable def aZ (c : Option Int) : Int:=c.getD 65533
theorem decode_utf16_replaced_eq {k : Nat} {ks : List Int} {o : String} (hl : ks.length ≤ 1000) (ho : Oct ks) : (af tab (k + 3)).fn "decode_utf16_replaced" [.bytes ks,.str o] [] = some (.list (((aD o true ks).1.map aZ).map .int)):=by
 have hl' : ks.length ≤ 1048576:=by lia
 refine sh_decode_utf16_replaced ?_
 simp_arith [utf16_start_eq]
 refine bH (fv (L:=ks.length) (d:=0) (E:=fun a (fs : List Int) ex =>("octets",.val (.bytes ks)) :: ("order",.val (.str o)) :: ("at",.val (.int a)) :: ("found",.own (fs.map .int)) :: ex) (J:=fun a fs =>fs ++ (aD o true (ks.drop a)).1.map aZ = (aD o true ks).1.map aZ) hl ?_ ?_ ?_ (Nat.zero_le _) rfl)
 ·intro a fs ex
  refine sht_decode_utf16_replaced ?_
  simp_arith only [hl']
 ·intro a fs ex hlt hfs h6
  have hp:=gw (k:=k) (o:=o) hl hlt ho
  have hb:=eB (o:=o) (bw hlt)
  rw [← List.length_map (f:=V.int)] at hfs
  rw [List.length_drop] at hb
  rw [bi (bw hlt) (fun h =>by cases h.1),List.drop_drop,List.map_cons] at h6
  have hm:=nx4 (a:=a) hb.1
  have e1 : (("code" : Str) == ("what" : Str)) = false:=by kernel_rfl
  refine shb_decode_utf16_replaced ?_
  cases hz : (bz o (ks.drop a)).2.1 with
  | none =>
   rw [hz] at h6
   simp_arith! [hp,hz,eu,e1,hfs,hm]
   exact ⟨_,65533,_,by rw [mapS],hb.1,hb.2,by rw [List.append_assoc]; exact h6⟩
  | some c =>
   rw [hz] at h6
   simp_arith only [hp,hz,eu,e1,hfs,hm]
   exact ⟨_,c,_,by rw [mapS],hb.1,hb.2,by rw [List.append_assoc]; exact h6⟩
 ·intro fs ex _ h6
  rw [List.drop_length,bn,List.map_nil,List.append_nil] at h6
  rw [fN,h6]
  exact sha_decode_utf16_replaced rfl
noncomputable def fl16 (ord : V) (st : Bool) (w : List Int) (n : Int) : List (Str × V):=[("order",ord),("is_strict",.bool st),("left",.bytes w),("used",.int n)]
noncomputable def out16 (o : String) (st last : Bool) (ks : List Int) (d : Nat) (n : Int) : V × List (Str × V):=(.list (((aD o last (ks.drop d)).1.map aZ).map .int),fl16 (.str o) st (aD o last (ks.drop d)).2 (n + (ks.length - (aD o last (ks.drop d)).2.length : Nat)))
section
variable {k : Nat} {w p ks : List Int} {n : Int} {last st : Bool} {o : String} {ov : V}
theorem init16_eq : (af tab (k + 1)).cls "Utf16Stream" [] = some (fl16 .none true [] 0):=sh_Utf16Stream_init0 rfl
theorem init16_be : (af tab (k + 1)).cls "Utf16Stream" [.str "be",.bool false] = some (fl16 (.str "be") false [] 0):=sh_Utf16Stream_init rfl
theorem fin16 {a : Nat} {x : V} {fs : List V} {ex : Gam} (hl : ks.length ≤ 1000) (ha : a ≤ ks.length) : exsK 37 (wt (af tab k)) aQ.sc aQ.mu (("self",.inst "Utf16Stream" [("order",ov),("is_strict",.bool st),("left",.bytes w),("used",.int n)]) :: ("octets",.val (.bytes p)) :: ("is_last",.val (.bool last)) :: ("ahead",.val (.bytes ks)) :: ("found",.own (fs)) :: ("at",.val (.int a)) :: ("order",.val (x)) :: ex) ((blk aQ.body []).drop 3) bQ = some (.list fs,fl16 x st (ks.drop a) (n + a)):=by
 refine sha_feed16 ?_
 have hl' : ks.length ≤ 1048576:=by lia
 simp_arith [ptN (a:=a) (by lia),hl',di]
 rfl
theorem feed16_wait (hw : w.length + p.length < 2) : Out ((af tab (k + 1)).mth "Utf16Stream" "feed" (fl16 .none true w n) [.bytes p,.bool false]) (fun x =>∃ n',x = (.list [],fl16 .none true (w ++ p) n')):=by
 have hl' : w.length + p.length ≤ 1048576:=by lia
 have hl2 : (w ++ p).length ≤ 1048576:=by rw [List.length_append]; exact hl'
 have hl3 : ¬ (2 : Int) ≤ ((w ++ p).length : Nat):=by rw [List.length_append]; lia
 have hl4 : (w ++ p).length ≤ 1000:=by rw [List.length_append]; lia
 refine outE (ci (v:=(.list [],fl16 .none true ((w ++ p).drop 0) (n + (0 : Nat)))) ?_) ⟨_,rfl⟩
 simp_arith! [hl',hl2,hl3]
 refine bH ?_
 rw [whileX_succ,sht_feed16 (v:=false) rfl]
 exact ⟨_,rfl,Eq.trans fN (fin16 (a:=0) hl4 (Nat.zero_le _))⟩
theorem feed16_loop {d : Nat} (hl : ks.length ≤ 1000) (hd : d ≤ ks.length) (ho : Oct ks) (hst : st = true → ∀ c ∈ (aD o last (ks.drop d)).1,c ≠ none) : ((bK 36 (wt (af tab (k + 2))) aQ.sc aQ.mu (ar (sAt (blk aQ.body []) 2)) (blk aQ.body [2]) 65536 (("self",.inst "Utf16Stream" [("order",ov),("is_strict",.bool st),("left",.bytes w),("used",.int n)]) :: ("octets",.val (.bytes p)) :: ("is_last",.val (.bool last)) :: ("ahead",.val (.bytes ks)) :: ("found",.own ([])) :: ("at",.val (.int d)) :: ("order",.val (.str o)) :: [])).bind fun fl =>flC fl (fun g =>exsK 37 (wt (af tab (k + 2))) aQ.sc aQ.mu g ((blk aQ.body []).drop 3) bQ) (fun g =>bQ (.brk g)) (fun w g =>bQ (.ret w g))) = some (out16 o st last ks d n):=by
 have hl' : ks.length ≤ 1048576:=by lia
 have fin : ∀ (a : Nat) (ex : Gam),a ≤ ks.length → ks.drop a = (aD o last (ks.drop d)).2 → exsK 37 (wt (af tab (k + 2))) aQ.sc aQ.mu (("self",.inst "Utf16Stream" [("order",ov),("is_strict",.bool st),("left",.bytes w),("used",.int n)]) :: ("octets",.val (.bytes p)) :: ("is_last",.val (.bool last)) :: ("ahead",.val (.bytes ks)) :: ("found",.own (((aD o last (ks.drop d)).1.map aZ).map V.int)) :: ("at",.val (.int a)) :: ("order",.val (.str o)) :: ex) ((blk aQ.body []).drop 3) bQ = some (out16 o st last ks d n):=by
  intro a ex ha hx
  have e:=congrArg List.length hx
  rw [List.length_drop] at e
  have ha' : ks.length - (aD o last (ks.drop d)).2.length = a:=by rw [← e]; exact Nat.sub_sub_self ha
  rw [out16,ha',← hx]
  exact fin16 hl ha
 refine bH (fv (L:=ks.length) (d:=d) (E:=fun a (fs : List (Option Int)) ex =>("self",.inst "Utf16Stream" [("order",ov),("is_strict",.bool st),("left",.bytes w),("used",.int n)]) :: ("octets",.val (.bytes p)) :: ("is_last",.val (.bool last)) :: ("ahead",.val (.bytes ks)) :: ("found",.own ((fs.map aZ).map .int)) :: ("at",.val (.int a)) :: ("order",.val (.str o)) :: ex) (J:=fun a fs =>fs ++ (aD o last (ks.drop a)).1 = (aD o last (ks.drop d)).1 ∧ (aD o last (ks.drop a)).2 = (aD o last (ks.drop d)).2) hl ?_ ?_ ?_ hd ⟨rfl,rfl⟩)
 ·intro a fs ex
  refine sht_feed16 ?_
  simp_arith [hl']
  cases decide ((a : Int) < ks.length) <;> rfl
 ·intro a fs ex hlt hfs ⟨h6,h7⟩
  have hp:=gw (k:=k) (o:=o) hl hlt ho
  have hk:=is_lacking_eq (k:=k) (o:=o) hl hlt ho
  have hb:=eB (o:=o) (bw hlt)
  rw [← List.length_map (f:=aZ),← List.length_map (f:=V.int)] at hfs
  rw [List.length_drop] at hb
  have hm:=nx4 (a:=a) hb.1
  have e1 : (("code" : Str) == ("what" : Str)) = false:=by kernel_rfl
  have e2 : (("code" : Str) == ("behind" : Str)) = false:=by kernel_rfl
  have e3 : (("behind" : Str) == ("what" : Str)) = false:=by kernel_rfl
  have e4 : (("behind" : Str) == ("code" : Str)) = false:=by kernel_rfl
  refine shb_feed16 ?_
  by_cases hs : last = false ∧ bP o (ks.drop a) = true
  ·rw [bY (bw hlt) hs] at h6 h7
   rw [List.append_nil] at h6
   simp only at h6 h7
   have hs1:=hs.1
   subst hs1
   simp_arith! [hk,hs.2]
   rw [h6]
   exact fin a ex (Nat.le_of_lt hlt) h7
  ·simp only [bi (bw hlt) hs,List.drop_drop] at h6 h7
   have hN : (bz o (ks.drop a)).2.1 = none → st = false:=fun hz =>by
    cases st with
    | false =>rfl
    | true =>exact absurd hz (hst rfl _ (by rw [← h6]; exact List.mem_append_right _ (.head _)))
   have hm2 : ∀ {z : Int},aZ (bz o (ks.drop a)).2.1 = z → (fs.map aZ).map V.int ++ [V.int z] = ((fs ++ [(bz o (ks.drop a)).2.1]).map aZ).map V.int:=fun h =>by rw [List.map_append,List.map_append,← h]; rfl
   have h6' : (fs ++ [(bz o (ks.drop a)).2.1]) ++ (aD o last (ks.drop (a + (bz o (ks.drop a)).1.toNat))).1 = (aD o last (ks.drop d)).1:=by rw [List.append_assoc]; exact h6
   refine cR (fun hl =>bE hk (bE trB (cE' (Bool.eq_false_iff.mpr fun h =>hs ⟨(Bool.not_eq_true' _).mp hl,h⟩) rfl))) ?_
   cases hz : (bz o (ks.drop a)).2.1 with
   | none =>
    have:=hN hz
    subst this
    simp_arith! [hp,hz,eu,e1,e2,e3,e4,hfs,hm]
    exact ⟨_,_,_,by rw [hm2 (by rw [hz]; rfl)],hb.1,hb.2,h6',h7⟩
   | some c =>
    simp_arith! [hp,hz,eu,e1,e2,e3,e4,hfs,hm]
    exact ⟨_,_,_,by rw [hm2 (by rw [hz]; rfl)],hb.1,hb.2,h6',h7⟩
 ·intro fs ex _ ⟨h6,h7⟩
  rw [List.drop_length,bn] at h6 h7
  rw [List.append_nil] at h6
  rw [fN,h6]
  exact fin _ ex (Nat.le_refl _) (by rw [List.drop_length]; exact h7)
theorem feed16_on (hw : w.length + p.length ≤ 1000) (ho : Oct (w ++ p)) (hst : st = true → ∀ c ∈ (aD o last ((w ++ p))).1,c ≠ none) :
  Out ((af tab (k + 3)).mth "Utf16Stream" "feed" (fl16 (.str o) st w n) [.bytes p,.bool last]) (fun x =>∃ n',x = (.list (((aD o last ((w ++ p))).1.map aZ).map .int),fl16 (.str o) st (aD o last ((w ++ p))).2 n')):=by
 have hl' : w.length + p.length ≤ 1048576:=by lia
 refine ⟨out16 o st last (w ++ p) 0 n,ci ?_,_,rfl⟩
 simp_arith! [hl']
 exact feed16_loop (d:=0) (by rw [List.length_append]; exact hw) (Nat.zero_le _) ho hst
theorem feed16_first (hw : w.length + p.length ≤ 1000) (ho : Oct (w ++ p)) (h2 : 2 ≤ (w ++ p).length) (hs : ∀ k,(af tab (k + 1)).fn "utf16_start" [.bytes (w ++ p),.none] [] = some (.tup [.str o,.int 2])) (hst : st = true → ∀ c ∈ (aD o last ((w ++ p).drop 2)).1,c ≠ none) :
  Out ((af tab (k + 3)).mth "Utf16Stream" "feed" (fl16 .none st w n) [.bytes p,.bool last]) (fun x =>∃ n',x = (.list (((aD o last ((w ++ p).drop 2)).1.map aZ).map .int),fl16 (.str o) st (aD o last ((w ++ p).drop 2)).2 n')):=by
 have hl' : w.length + p.length ≤ 1048576:=by lia
 have hl2 : (w ++ p).length ≤ 1048576:=by rw [List.length_append]; exact hl'
 have hl3 : (2 : Int) ≤ ((w ++ p).length : Nat):=by lia
 refine ⟨out16 o st last (w ++ p) 2 n,ci ?_,_,rfl⟩
 simp_arith [hl',hl2,hl3,hs]
 exact feed16_loop (d:=2) (by rw [List.length_append]; exact hw) h2 ho hst
end
theorem tl_app : ∀ (k : Nat) (d lo hi c : Int) (r b : List Int),(aC k d lo hi c r).2.2 ≠ bu → aC k d lo hi c (r ++ b) = aC k d lo hi c r
 | 0,d,lo,hi,c,r,b,_ =>by simp only [aC,aC]
 | k + 1,d,lo,hi,c,[],b,h =>by simp [aC] at h
 | k + 1,d,lo,hi,c,o :: r,b,h =>by
  rw [aC] at h
  simp only [List.cons_append,aC,aC]
  split
  ·rename_i c1
   rw [if_pos c1] at h
   exact tl_app k _ _ _ _ r b h
  ·rfl
theorem piece_app {l b : List Int} (h : l ≠ []) (hs : (ai l).2.2 ≠ bu) : ai (l ++ b) = ai l:=by
 rcases l with _ | ⟨x,r⟩
 ·exact absurd rfl h
 ·simp only [List.cons_append,ai,ai]
  rw [ai] at hs
  split
  ·rfl
  ·rename_i c1
   rw [if_neg c1] at hs
   split
   ·rename_i c2
    rw [if_pos c2] at hs
    exact tl_app _ _ _ _ _ _ _ hs
   ·rename_i c2
    rw [if_neg c2] at hs
    split
    ·rename_i c3
     rw [if_pos c3] at hs
     exact tl_app _ _ _ _ _ _ _ hs
    ·rename_i c3
     rw [if_neg c3] at hs
     split
     ·rename_i c4
      rw [if_pos c4] at hs
      exact tl_app _ _ _ _ _ _ _ hs
     ·rfl
theorem run_app (last : Bool) (b : List Int) : ∀ (n : Nat) (a : List Int),a.length ≤ n → run last (a ++ b) = ((run false a).1 ++ (run last ((run false a).2 ++ b)).1,(run last ((run false a).2 ++ b)).2)
 | _,[],_ =>by rw [dp]; simp
 | 0,_ :: _,h =>by simp at h
 | n + 1,x :: r,h =>by
  have hne : x :: r ≠ []:=by simp
  generalize x :: r = a at *
  by_cases hk : (ai a).2.2 = bu
  ·rw [dw (last:=false) hne ⟨hk,rfl⟩]; simp
  ·have ha:=piece_app (b:=b) hne hk
   have hb:=bm hne
   have hne2 : a ++ b ≠ []:=by simp [hne]
   rw [cN hne2 (fun q =>hk (by rw [← ha]; exact q.1)),cN (last:=false) hne (fun q =>hk q.1),ha,List.drop_append_of_le_length (by lia)]
   rw [run_app last b n (a.drop (ai a).1.toNat) (dnD hb.1 h)]
   simp
theorem tl_zero {d lo hi c : Int} {r : List Int} : aC 0 d lo hi c r = (d,some c,("" : Str)):=by rw [aC]
theorem tl_one {d lo hi c X : Int} {r : List Int} (h : (aC 1 d lo hi c r).2.1 = some X) : ∃ o,lo ≤ o ∧ o ≤ hi ∧ X = c * 64 + o % 64:=by
 rcases r with _ | ⟨o,r⟩
 ·simp [aC] at h
 ·rw [aC] at h
  split at h
  ·rename_i c1; rw [tl_zero] at h; simp only [Option.some.injEq] at h; exact ⟨o,c1.1,c1.2,h.symm⟩
  ·simp at h
theorem tl_more {k : Nat} {d lo hi c X : Int} {r : List Int} (h : (aC (k + 1) d lo hi c r).2.1 = some X) : ∃ o s,lo ≤ o ∧ o ≤ hi ∧ (aC k (d + 1) 128 191 (c * 64 + o % 64) s).2.1 = some X:=by
 rcases r with _ | ⟨o,r⟩
 ·simp [aC] at h
 ·rw [aC] at h
  split at h
  ·rename_i c1; exact ⟨o,r,c1.1,c1.2,h⟩
  ·simp at h
theorem m6 (o : Int) : 0 ≤ o % 64 ∧ o % 64 ≤ 63:=⟨Int.emod_nonneg _ (by decide),Int.le_of_lt_add_one (Int.emod_lt_of_pos _ (by decide))⟩
theorem sca3 {q r s : Int} (h1 : 0 ≤ q) (h2 : q ≤ 15) (h3 : 0 ≤ r ∧ r ≤ 63) (h4 : 0 ≤ s ∧ s ≤ 63) (h : q = 13 → r ≤ 31) : Sca ((q * 64 + r) * 64 + s):=by
 rcases h3 with ⟨a,b⟩
 rcases h4 with ⟨c,d⟩
 by_cases x : q ≤ 13
 ·refine .inl ⟨by lia,?_⟩
  by_cases y : q = 13
  ·have:=h y; subst y; lia
  ·have : q ≤ 12:=by lia
   clear y h h1
   lia
 ·exact .inr ⟨by lia,by lia⟩
theorem sca4 {q r s t : Int} (h1 : 0 ≤ q) (h2 : q ≤ 4) (h3 : 0 ≤ r ∧ r ≤ 63) (h4 : 0 ≤ s ∧ s ≤ 63) (h5 : 0 ≤ t ∧ t ≤ 63) (h : q = 0 → 16 ≤ r) (h' : q = 4 → r ≤ 15) : Sca (((q * 64 + r) * 64 + s) * 64 + t):=by
 rcases h3 with ⟨a,b⟩
 rcases h4 with ⟨c,d⟩
 rcases h5 with ⟨e,f⟩
 have : 16 ≤ q * 64 + r:=by
  by_cases x : q = 0
  ·have:=h x; lia
  ·lia
 have : q * 64 + r ≤ 271:=by
  by_cases x : q = 4
  ·have:=h' x; lia
  ·lia
 generalize q * 64 + r = z at *
 exact .inr ⟨by lia,by lia⟩
theorem piece_sca {l : List Int} (ho : Oct l) {X : Int} (h : (ai l).2.1 = some X) : Sca X:=by
 rcases l with _ | ⟨b,r⟩
 ·simp [ai] at h
 ·have hb:=ho.cons.1
  rw [ai] at h
  split at h
  ·rename_i c1; obtain rfl:=oj h; exact .inl ⟨hb.1,Int.lt_trans c1 (by decide)⟩
  ·split at h
   ·refine bc fun hN =>?_
    obtain ⟨o,h1,h2,h3⟩:=tl_one h
    refine hN ?_
    subst h3
    have:=m6 o
    exact .inl ⟨by lia,by lia⟩
   ·split at h
    ·rename_i c3
     refine bc fun hN =>?_
     obtain ⟨o,s,h1,h2,h3⟩:=tl_more h
     obtain ⟨o2,h4,h5,h6⟩:=tl_one h3
     refine hN ?_
     subst h6
     refine sca3 (Int.emod_nonneg _ (by decide)) (Int.le_of_lt_add_one (Int.emod_lt_of_pos _ (by decide))) (m6 o) (m6 o2) fun e =>?_
     have : b = 237:=by lia
     rw [if_pos this] at h2
     have : 128 ≤ o:=by rw [if_neg (by lia)] at h1; exact h1
     lia
    ·split at h
     ·rename_i c4
      refine bc fun hN =>?_
      obtain ⟨o,s,h1,h2,h3⟩:=tl_more h
      obtain ⟨o2,s2,h4,h5,h6⟩:=tl_more h3
      obtain ⟨o3,h7,h8,h9⟩:=tl_one h6
      refine hN ?_
      subst h9
      refine sca4 (Int.emod_nonneg _ (by decide)) (by lia) (m6 o) (m6 o2) (m6 o3) (fun e =>?_) fun e =>?_
      ·have : b = 240:=by lia
       rw [if_pos this] at h1
       have : o ≤ 191:=by rw [if_neg (by lia)] at h2; exact h2
       lia
      ·have : b = 244:=by lia
       rw [if_pos this] at h2
       have : 128 ≤ o:=by rw [if_neg (by lia)] at h1; exact h1
       lia
     ·simp at h
theorem run_sca (last : Bool) : ∀ (n : Nat) (l : List Int),l.length ≤ n → Oct l → cw (run last l).1
 | _,[],_,_ =>by rw [dp]; intro x hx; cases hx
 | 0,_ :: _,h,_ =>by simp at h
 | n + 1,x :: r,h,ho =>by
  have hne : x :: r ≠ []:=by simp
  generalize x :: r = l at *
  by_cases hk : (ai l).2.2 = bu ∧ last = false
  ·rw [dw hne hk]; intro x hx; cases hx
  ·have hb:=bm hne
   rw [cN hne hk]
   intro y hy
   rcases List.mem_cons.mp hy with rfl | hy
   ·cases hc : (ai l).2.1 with
    | none =>unfold Sca; simp
    | some X =>exact piece_sca ho hc
   ·exact run_sca last n _ (dnD hb.1 h) (ho.drop _) y hy
theorem cut_all : ∀ (n : Nat) (l : List Int),l.length ≤ n → Oct l → ∀ p ∈ gj l,(1 ≤ p.length ∧ p.length ≤ 4) ∧ Oct p
 | _,[],_,_ =>by rw [dC]; intro x hx; cases hx
 | 0,_ :: _,h,_ =>by simp at h
 | n + 1,x :: r,h,ho =>by
  have hne : x :: r ≠ []:=by simp
  generalize x :: r = l at *
  have hb:=bm hne
  have h4:=piece_le4 (l:=l)
  rw [cY hne]
  intro y hy
  rcases List.mem_cons.mp hy with rfl | hy
  ·rw [List.length_take,Nat.min_eq_left (Int.toNat_le.mpr hb.2)]
   exact ⟨⟨(Int.le_toNat (Int.le_trans (by decide) hb.1)).mpr hb.1,Int.toNat_le.mpr h4⟩,ho.take _⟩
  ·exact cut_all n _ (dnD hb.1 h) (ho.drop _) y hy
theorem cut_len : ∀ (n : Nat) (l : List Int),l.length ≤ n → (gj l).length ≤ l.length
 | _,[],_ =>by rw [dC]; simp
 | 0,_ :: _,h =>by simp at h
 | n + 1,x :: r,h =>by
  have hne : x :: r ≠ []:=by simp
  generalize x :: r = l at *
  have hb:=bm hne
  have ih:=cut_len n (l.drop (ai l).1.toNat) (dnD hb.1 h)
  simp only [cY hne,List.length_cons]
  rw [List.length_drop] at ih
  exact rl_ (A:=(gj (l.drop (ai l).1.toNat)).length) (B:=0) hb.1 hb.2 ih
theorem it_last {α : Type} {l : List α} {a : α} : aH (l ++ [a]) (-1) = some a:=by
 unfold aH
 rw [if_neg (by lia),if_pos (by rw [List.length_append]; simp; lia)]
 have : (-1 + ((l ++ [a]).length : Int)).toNat = l.length:=by rw [List.length_append]; simp; lia
 rw [this]; simp
theorem cut_last {α : Type} {l : List α} {a : α} : cut (l ++ [a]) Option.none (some (-1)) = l:=by
 unfold cut clip
 simp only [Option.elim,List.drop_zero,Nat.sub_zero]
 rw [if_pos (by lia)]
 have : (-1 + ((l ++ [a]).length : Int)).toNat = l.length:=by rw [List.length_append]; simp; lia
 simp only [this,List.take_left]
theorem lastOff_snoc {qs : List (List Int)} {p : List Int} : f9 (qs ++ [p]) = if waits p = true then qs else qs ++ [p]:=by
 unfold f9; rw [List.getLast?_append]; simp
theorem dB {k : Nat} {ps : List (List Int)} (hn : ps.length ≤ 1000) (hall : ∀ p ∈ ps,(1 ≤ p.length ∧ p.length ≤ 4) ∧ Oct p) : ((ao (.list (ps.map .bytes))).bind fun xs =>if xs.length ≤ 1048576 then (aR (fun x =>(orO ((af tab (k + 2)).fn "_law_code" [x] []) (aj "_law_code" [x])).bind fun v =>some (some v)) xs).bind fun v =>(ao (.list v)).bind fun xs =>if xs.length ≤ 1048576 then (aR (fun x =>cond (!aw x) (some (some x)) (some (some (V.int 65533)))) xs).bind fun v =>some (V.list v) else Option.none else Option.none) = some (.list ((ps.map got).map .int)):=by
 have h1 : (ps.map V.bytes).length ≤ 1048576:=by rw [List.length_map]; lia
 have h2 : (ps.map fun p =>eu (bU p)).length ≤ 1048576:=by rw [List.length_map]; lia
 rw [isL h1,bS,if_pos h1,cj (q:=fun p =>eu (bU p)) ps fun p hp =>by rw [law_code_eq (hall p hp).1 (hall p hp).2]; rfl,bS,isL h2,bS,if_pos h2,cj (q:=fun p =>V.int (got p)) ps fun p hp =>by unfold got; cases bU p <;> rfl]
 rw [List.map_map]; rfl
theorem law_codes_eq {k : Nat} {ks : List Int} {last : Bool} (hl : ks.length ≤ 1000) (ho : Oct ks) : (af tab (k + 3)).fn "_law_codes" [.bytes ks,.bool last] [] = some (.list ((run last ks).1.map .int)):=by
 have hcut:=law_cut_eq (k:=k) hl ho
 have hall:=cut_all _ ks (Nat.le_refl _) ho
 have hlen:=cut_len _ ks (Nat.le_refl _)
 refine sh_law_codes ?_
 cases last with
 | true =>
  rw [run_true _ _ (Nat.le_refl _)]
  simp_arith [hcut]
  exact dB (by lia) hall
 | false =>
  rw [run_false _ _ (Nat.le_refl _)]
  generalize gj ks = ps at *
  rcases List.eq_nil_or_concat ps with rfl | ⟨qs,p,e⟩
  ·simp_arith [hcut,neE,List.map_nil,List.isEmpty_nil]
   exact dB (k:=k) (ps:=[]) (by lia) hall
  ·rw [List.concat_eq_append] at e
   subst e
   have hp:=hall p (by simp)
   have hq : ∀ x ∈ qs,(1 ≤ x.length ∧ x.length ≤ 4) ∧ Oct x:=fun x hx =>hall x (List.mem_append_left _ hx)
   rw [lenS] at hlen
   have hm : ((qs ++ [p]).map V.bytes) = qs.map V.bytes ++ [V.bytes p]:=by rw [List.map_append]; rfl
   have hn : ((qs ++ [p]).map V.bytes).length ≤ 1048576:=by simp only [List.length_map,lenS]; lia
   have hN : (!((qs ++ [p]).map V.bytes).isEmpty) = true:=by rw [hm]; cases qs <;> rfl
   have i1 : aH ((qs ++ [p]).map V.bytes) (-1) = some (.bytes p):=by rw [hm]; exact it_last
   have c1 : cut ((qs ++ [p]).map V.bytes) Option.none (some (-1)) = qs.map V.bytes:=by rw [hm]; exact cut_last
   have p1 : ay (some (.int (-1))) = some (some (-1)):=rfl
   rw [lastOff_snoc]
   unfold waits
   simp_arith [hcut,neE,hN,itL hn,i1,law_code_eq hp.1 hp.2]
   cases hc : bU p with
   | some c =>
    simp_arith only [eu,inI]
    exact dB (k:=k) (ps:=qs ++ [p]) (by rw [lenS]; lia) hall
   | none =>
    simp_arith [eu,inN,itL hn,i1,fH hp.1 hp.2]
    cases hb : dy p with
    | true =>
     refine cE rfl ?_
     simp_arith [p1,slL hn,c1]
     exact dB (k:=k) (ps:=qs) (by lia) hq
    | false =>
     refine cE' rfl ?_
     simp_arith [cT]
     exact dB (k:=k) (ps:=qs ++ [p]) (by rw [lenS]; lia) hall
theorem step_app {o : String} {l b : List Int} (h : l ≠ []) (hl : ¬ bP o l = true) : bz o (l ++ b) = bz o l ∧ ¬ bP o (l ++ b) = true:=by
 rcases l with _ | ⟨x,_ | ⟨y,_ | ⟨z,_ | ⟨w,r⟩⟩⟩⟩
 ·exact absurd rfl h
 ·simp [bP] at hl
 ·have hh : aM (bk o x y) = false:=by simpa [bP] using hl
  constructor
  ·rw [st2]
   simp only [List.cons_append,List.nil_append]
   rcases b with _ | ⟨c,_ | ⟨d,b⟩⟩
   ·rw [st2]
   ·rw [st3]
   ·rw [st4,hh]; simp
  ·simp [bP,hh]
 ·have hh : aM (bk o x y) = false:=by simpa [bP] using hl
  constructor
  ·rw [st3]
   simp only [List.cons_append,List.nil_append]
   rcases b with _ | ⟨d,b⟩
   ·rw [st3]
   ·rw [st4,hh]; simp
  ·simp [bP,hh]
 ·constructor
  ·simp only [List.cons_append]
   rw [st4,st4]
  ·simp [bP]; intro q; lia
theorem ge (o : String) (last : Bool) (b : List Int) : ∀ (n : Nat) (a : List Int),a.length ≤ n → aD o last (a ++ b) = ((aD o false a).1 ++ (aD o last ((aD o false a).2 ++ b)).1,(aD o last ((aD o false a).2 ++ b)).2)
 | _,[],_ =>by rw [bn]; simp
 | 0,_ :: _,h =>by simp at h
 | n + 1,x :: r,h =>by
  have hne : x :: r ≠ []:=by simp
  generalize x :: r = a at *
  by_cases hk : bP o a = true
  ·rw [bY (last:=false) hne ⟨rfl,hk⟩]; simp
  ·have ha:=step_app (b:=b) hne hk
   have hb:=eB (o:=o) hne
   have hne2 : a ++ b ≠ []:=by simp [hne]
   rw [bi hne2 (fun q =>ha.2 q.2),bi (last:=false) hne (fun q =>hk q.2),ha.1,List.drop_append_of_le_length (by lia)]
   rw [ge o last b n (a.drop (bz o a).1.toNat) (dnD hb.1 h)]
   simp
noncomputable def aB : List Int → List Int
 | a :: b :: r =>(a * 256 + b) :: aB r
 | _ =>[]
noncomputable def hv : List Int → List Int
 | [] =>[]
 | [u] =>[if dk u = true then 65533 else u]
 | u :: v :: r =>if aM u = true ∧ bg v = true then joinM u v :: hv r else (if dk u = true then 65533 else u) :: hv (v :: r)
theorem dq {u : Int} (h : bg u = true) : dk u = true ∧ aM u = false:=by
 simp only [bg,Bool.and_eq_true,decide_eq_true_eq] at h
 exact ⟨by unfold dk; rw [decide_eq_true h.2,Bool.and_true]; exact decide_eq_true (Int.le_trans (by decide) h.1),by unfold aM; rw [decide_eq_false (p:=u ≤ 56319) (Int.not_le.mpr h.1),Bool.and_false]⟩
theorem sur_high {u : Int} (h : aM u = true) : dk u = true ∧ bg u = false:=by
 simp only [aM,Bool.and_eq_true,decide_eq_true_eq] at h
 exact ⟨by unfold dk; rw [decide_eq_true h.1,Bool.true_and]; exact decide_eq_true (Int.le_trans h.2 (by decide)),by unfold bg; rw [decide_eq_false (p:=56320 ≤ u) (Int.not_le.mpr (Int.lt_add_one_of_le h.2)),Bool.false_and]⟩
theorem sur_no {u : Int} (h : ¬ bg u = true) (h2 : ¬ aM u = true) : dk u = false:=by
 unfold bg dk aM at *; simp only [Bool.and_eq_true,decide_eq_true_eq,Bool.and_eq_false_iff,decide_eq_false_iff_not] at *; lia
theorem cu {a b : Int} : bk "be" a b = a * 256 + b:=by unfold bk; rw [if_pos rfl]
theorem dO : ∀ (n : Nat) (l : List Int),l.length ≤ n → (aD "be" true l).1.map aZ = hv (aB l) ++ List.replicate (l.length % 2) 65533
 | _,[],_ =>by rw [bn]; simp [aB,hv]
 | 0,_ :: _,h =>by simp at h
 | n + 1,[a],h =>by
  rw [bi (by simp) (by simp),st1]
  simp [bn,aB,hv,aZ]
 | n + 1,[a,b],h =>by
  rw [bi (by simp) (by simp),st2,cu]
  by_cases c1 : bg (a * 256 + b) = true
  ·simp [c1,bn,aB,hv,aZ,dq c1]
  ·by_cases c2 : aM (a * 256 + b) = true
   ·simp [c1,c2,bn,aB,hv,aZ,sur_high c2]
   ·simp [c1,c2,bn,aB,hv,aZ,sur_no c1 c2]
 | n + 1,[a,b,c],h =>by
  have ih:=dO n [c] (by simp only [List.length_cons,List.length_nil] at h ⊢; lia)
  simp only [List.length_cons,List.length_nil,aB,hv,List.nil_append] at ih
  rw [bi (by simp) (by simp),st3,cu]
  by_cases c1 : bg (a * 256 + b) = true
  ·simp [c1,aB,hv,aZ,dq c1]; simpa [aZ] using ih
  ·by_cases c2 : aM (a * 256 + b) = true
   ·simp [c1,c2,aB,hv,aZ,sur_high c2]; simpa [aZ] using ih
   ·simp [c1,c2,aB,hv,aZ,sur_no c1 c2]; simpa [aZ] using ih
 | n + 1,a :: b :: c :: d :: r,h =>by
  have ih1:=dO n (c :: d :: r) (by simp only [List.length_cons] at h ⊢; lia)
  have ih2:=dO n r (by simp only [List.length_cons] at h ⊢; lia)
  have hm : (a :: b :: c :: d :: r).length % 2 = (c :: d :: r).length % 2:=Nat.add_mod_right _ 2
  have hm2 : (c :: d :: r).length % 2 = r.length % 2:=Nat.add_mod_right _ 2
  rw [hm,bi (by simp) (by simp),st4,cu,cu]
  simp only [aB] at ih1 ⊢
  by_cases c1 : bg (a * 256 + b) = true
  ·rw [if_pos c1,hv,if_neg (by rw [(dq c1).2]; simp),if_pos (dq c1).1]
   simp only [List.map_cons,Int.reduceToNat,List.drop_succ_cons,List.drop_zero,List.cons_append]
   rw [ih1]; rfl
  ·rw [if_neg c1]
   by_cases c2 : aM (a * 256 + b) = true
   ·rw [if_pos c2]
    by_cases c3 : bg (c * 256 + d) = true
    ·rw [if_pos c3,hv,if_pos ⟨c2,c3⟩]
     simp only [List.map_cons,Int.reduceToNat,List.drop_succ_cons,List.drop_zero,List.cons_append]
     simp only [ih2,hm2]; rfl
    ·rw [if_neg c3,hv,if_neg (fun q =>c3 q.2),if_pos (sur_high c2).1]
     simp only [List.map_cons,Int.reduceToNat,List.drop_succ_cons,List.drop_zero,List.cons_append]
     rw [ih1]; rfl
   ·rw [if_neg c2,hv,if_neg (fun q =>c2 q.1),if_neg (by rw [sur_no c1 c2]; simp)]
    simp only [List.map_cons,Int.reduceToNat,List.drop_succ_cons,List.drop_zero,List.cons_append]
    rw [ih1]; rfl
noncomputable def a9 (us : List Int) : List Int:=if us.getLast?.any aM = true then us.dropLast else us
theorem dh_cons {u v : Int} {r : List Int} : a9 (u :: v :: r) = u :: a9 (v :: r):=by
 unfold a9
 rw [List.getLast?_cons_cons]
 split
 ·rw [List.dropLast_cons_cons]
 ·rfl
theorem hv_dh {u v : Int} {r : List Int} (h : ¬ (aM u = true ∧ bg v = true)) : hv (a9 (u :: v :: r)) = (if dk u = true then 65533 else u) :: hv (a9 (v :: r)):=by
 rw [dh_cons]
 rcases r with _ | ⟨w,r⟩
 ·unfold a9
  rw [List.getLast?_singleton,Option.any_some]
  split
  ·rfl
  ·conv =>lhs; rw [hv,if_neg h]
 ·rw [dh_cons,hv,if_neg h]
theorem hv_dh2 {u v : Int} {r : List Int} (h : aM u = true ∧ bg v = true) : hv (a9 (u :: v :: r)) = joinM u v :: hv (a9 r):=by
 rcases r with _ | ⟨w,r⟩
 ·have : a9 [u,v] = [u,v]:=by
   unfold a9
   rw [List.getLast?_cons_cons,List.getLast?_singleton,Option.any_some,if_neg (by rw [(dq h.2).2]; simp)]
  rw [this,hv,if_pos h]; rfl
 ·rw [dh_cons,dh_cons,hv,if_pos h]
theorem eJ : ∀ (n : Nat) (l : List Int),l.length ≤ n → (aD "be" false l).1.map aZ = hv (a9 (aB l))
 | _,[],_ =>by rw [bn]; rfl
 | 0,_ :: _,h =>by simp at h
 | n + 1,[a],h =>by
  rw [bY (by simp) (by simp [bP])]; rfl
 | n + 1,[a,b],h =>by
  by_cases c2 : aM (a * 256 + b) = true
  ·rw [bY (by simp) (by simp [bP,cu,c2])]
   simp [aB,a9,c2,hv]
  ·rw [bi (by simp) (by simp [bP,cu,c2]),st2,cu]
   by_cases c1 : bg (a * 256 + b) = true
   ·simp [c1,c2,bn,aB,hv,aZ,dq c1,a9]
   ·simp [c1,c2,bn,aB,hv,aZ,sur_no c1 c2,a9]
 | n + 1,[a,b,c],h =>by
  by_cases c2 : aM (a * 256 + b) = true
  ·rw [bY (by simp) (by simp [bP,cu,c2])]
   simp [aB,a9,c2,hv]
  ·have e : aD "be" false [c] = ([],[c]):=bY (by simp) (by simp [bP])
   rw [bi (by simp) (by simp [bP,cu,c2]),st3,cu]
   by_cases c1 : bg (a * 256 + b) = true
   ·simp [c1,c2,e,aB,hv,aZ,dq c1,a9]
   ·simp [c1,c2,e,aB,hv,aZ,sur_no c1 c2,a9]
 | n + 1,a :: b :: c :: d :: r,h =>by
  have ih1:=eJ n (c :: d :: r) (by simp only [List.length_cons] at h ⊢; lia)
  have ih2:=eJ n r (by simp only [List.length_cons] at h ⊢; lia)
  rw [bi (by simp) (by simp [bP]; intro q; lia),st4,cu,cu]
  simp only [aB] at ih1 ⊢
  by_cases c1 : bg (a * 256 + b) = true
  ·rw [if_pos c1,hv_dh (by rw [(dq c1).2]; simp),if_pos (dq c1).1]
   simp only [List.map_cons,Int.reduceToNat,List.drop_succ_cons,List.drop_zero]
   rw [ih1]; rfl
  ·rw [if_neg c1]
   by_cases c2 : aM (a * 256 + b) = true
   ·rw [if_pos c2]
    by_cases c3 : bg (c * 256 + d) = true
    ·rw [if_pos c3,hv_dh2 ⟨c2,c3⟩]
     simp only [List.map_cons,Int.reduceToNat,List.drop_succ_cons,List.drop_zero]
     rw [ih2]; rfl
    ·rw [if_neg c3,hv_dh (fun q =>c3 q.2),if_pos (sur_high c2).1]
     simp only [List.map_cons,Int.reduceToNat,List.drop_succ_cons,List.drop_zero]
     rw [ih1]; rfl
   ·rw [if_neg c2,hv_dh (fun q =>c2 q.1),if_neg (by rw [sur_no c1 c2]; simp)]
    simp only [List.map_cons,Int.reduceToNat,List.drop_succ_cons,List.drop_zero]
    rw [ih1]; rfl
noncomputable def two (o : String) (u : Int) : List Int:=if o = "be" then [u / 256,u % 256] else [u % 256,u / 256]
noncomputable def aF (x : Int) : List Int:=if x < 65536 then [x] else [55296 + (x - 65536) / 1024,56320 + (x - 65536) % 1024]
noncomputable def bb (o : String) (text : List Int) : List Int:=(text.flatMap aF).flatMap (two o)
theorem two_unit {o : String} {u : Int} : ∃ a b,two o u = [a,b] ∧ bk o a b = u:=by
 unfold two bk
 split
 ·exact ⟨_,_,rfl,by lia⟩
 ·exact ⟨_,_,rfl,by lia⟩
theorem enc16_cons {o : String} {x : Int} {r : List Int} : bb o (x :: r) = (aF x).flatMap (two o) ++ bb o r:=by
 unfold bb; simp
theorem enc16_step {o : String} {x : Int} {t : List Int} (h : Sca x) : bz o ((aF x).flatMap (two o) ++ t) = (2 * ((aF x).length : Int),some x,("" : Str)) ∧ ((aF x).flatMap (two o)).length = 2 * (aF x).length ∧ 1 ≤ (aF x).length ∧ (aF x).length ≤ 2:=by
 unfold aF
 by_cases c : x < 65536
 ·refine bc fun hN =>?_
  obtain ⟨a,b,e,hu⟩:=two_unit (o:=o) (u:=x)
  refine hN ?_; clear hN
  have c1 : bg x = false:=by
   unfold bg
   rcases h with h | h
   ·rw [decide_eq_false (p:=56320 ≤ x) (Int.not_le.mpr (Int.lt_trans h.2 (by decide))),Bool.false_and]
   ·rw [decide_eq_false (p:=x ≤ 57343) (Int.not_le.mpr h.1),Bool.and_false]
  have c2 : aM x = false:=by
   unfold aM
   rcases h with h | h
   ·rw [decide_eq_false (p:=55296 ≤ x) (Int.not_le.mpr h.2),Bool.false_and]
   ·rw [decide_eq_false (p:=x ≤ 56319) (Int.not_le.mpr (Int.lt_of_lt_of_le (by decide) h.1)),Bool.and_false]
  simp only [c,if_true,List.flatMap_cons,List.flatMap_nil,List.append_nil,e,List.cons_append,List.nil_append]
  refine ⟨?_,rfl,by simp,by simp⟩
  rcases t with _ | ⟨z,_ | ⟨w,t⟩⟩
  ·simp only [st2,hu,c1,c2]; simp
  ·simp only [st3,hu,c1,c2]; simp
  ·simp only [st4,hu,c1,c2]; simp
 ·refine bc fun hN =>?_
  obtain ⟨a,b,e,hu⟩:=two_unit (o:=o) (u:=55296 + (x - 65536) / 1024)
  obtain ⟨a2,b2,e2,hu2⟩:=two_unit (o:=o) (u:=56320 + (x - 65536) % 1024)
  refine hN ?_; clear hN
  have r:=h.rg
  have q0 : 0 ≤ (x - 65536) / 1024:=Int.ediv_nonneg (Int.sub_nonneg.mpr (Int.not_lt.mp c)) (by decide)
  have q1 : (x - 65536) / 1024 < 1024:=Int.ediv_lt_of_lt_mul (by decide) (by lia)
  have c1 : bg (55296 + (x - 65536) / 1024) = false:=by unfold bg; rw [decide_eq_false (p:=56320 ≤ 55296 + (x - 65536) / 1024) (Int.not_le.mpr (hi_ q1 (by decide))),Bool.false_and]
  have c2 : aM (55296 + (x - 65536) / 1024) = true:=by unfold aM; rw [decide_eq_true (p:=55296 ≤ 55296 + (x - 65536) / 1024) (lo_ q0 (by decide)),Bool.true_and]; exact decide_eq_true (Int.le_of_lt_add_one (b:=56319) (hi_ q1 (by decide)))
  have c3 : bg (56320 + (x - 65536) % 1024) = true:=by unfold bg; rw [decide_eq_true (p:=56320 ≤ 56320 + (x - 65536) % 1024) (lo_ (Int.emod_nonneg _ (by decide)) (by decide)),Bool.true_and]; exact decide_eq_true (Int.le_of_lt_add_one (b:=57343) (hi_ (Int.emod_lt_of_pos _ (by decide)) (by decide)))
  have c4 : joinM (55296 + (x - 65536) / 1024) (56320 + (x - 65536) % 1024) = x:=by unfold joinM; lia
  simp only [c,if_false,List.flatMap_cons,List.flatMap_nil,List.append_nil,e,e2,List.cons_append,List.nil_append]
  refine ⟨?_,rfl,by simp,by simp⟩
  simp only [st4,hu,hu2,c1,c2,c3,c4]; simp
theorem run16_enc {o : String} : ∀ {text : List Int},cw text → aD o true (bb o text) = (text.map some,[])
 | [],_ =>by rw [show bb o [] = [] from rfl,bn]; rfl
 | x :: r,h =>by
  have hs:=enc16_step (o:=o) (t:=bb o r) h.cons.1
  have ih:=run16_enc (o:=o) h.cons.2
  rw [enc16_cons]
  have hne : (aF x).flatMap (two o) ++ bb o r ≠ []:=by
   intro q; have:=congrArg List.length q; simp only [List.length_append,hs.2.1] at this; simp at this; lia
  have hd : ((aF x).flatMap (two o) ++ bb o r).drop (2 * ((aF x).length : Int)).toNat = bb o r:=by
   rw [show (2 * ((aF x).length : Int)).toNat = ((aF x).flatMap (two o)).length from by rw [hs.2.1]; lia]; exact List.drop_left
  rw [bi hne (by simp),hs.1]
  simp only [hd,ih,List.map_cons]
theorem gc : ∀ (l : List Int),(aB l).length = l.length / 2
 | [] =>rfl
 | [_] =>by simp [aB]
 | a :: b :: r =>by rw [aB,List.length_cons,gc r]; exact (Nat.add_div_right _ (by decide)).symm
theorem pairs_get : ∀ (l : List Int) (k : Nat) (u : Int),(aB l)[k]? = some u → ∃ a b,l[2 * k]? = some a ∧ l[2 * k + 1]? = some b ∧ u = a * 256 + b
 | [],k,u,h =>by simp [aB] at h
 | [_],k,u,h =>by simp [aB] at h
 | a :: b :: r,0,u,h =>by
  simp only [aB,List.getElem?_cons_zero,Option.some.injEq] at h
  exact ⟨a,b,rfl,rfl,h.symm⟩
 | a :: b :: r,k + 1,u,h =>by
  simp only [aB,List.getElem?_cons_succ] at h
  refine bc fun hN =>?_
  obtain ⟨x,y,h1,h2,h3⟩:=pairs_get r k u h
  refine hN ?_; clear hN
  refine ⟨x,y,?_,?_,h3⟩
  ·rw [show 2 * (k + 1) = 2 * k + 1 + 1 by lia]; simpa using h1
  ·rw [show 2 * (k + 1) + 1 = 2 * k + 1 + 1 + 1 by lia]; simpa using h2
theorem gy {α : Type} {l : List α} {k : Nat} {a : α} (h : l[k]? = some a) : aH l (k : Int) = some a:=by
 unfold aH
 have hk : k < l.length:=by
  rcases Nat.lt_or_ge k l.length with h1 | h1
  ·exact h1
  ·rw [List.getElem?_eq_none h1] at h; cases h
 rw [if_pos (by lia),if_pos (by lia)]
 simpa using h
theorem drop_get {α : Type} {l : List α} {a : Nat} {u : α} {r : List α} (h : l.drop a = u :: r) : l[a]? = some u:=by
 have:=congrArg (fun z =>z[0]?) h
 simpa using this
theorem pairs_range (l : List Int) : ∀ k,k < l.length / 2 → ∃ a b,l[2 * k]? = some a ∧ l[2 * k + 1]? = some b ∧ (aB l)[k]? = some (a * 256 + b):=by
 intro k hk
 have h1 : (aB l)[k]? = some ((aB l)[k]'(by rw [gc]; exact hk)):=List.getElem?_eq_getElem _
 refine bc fun hN =>?_
 obtain ⟨a,b,h2,h3,h4⟩:=pairs_get l k _ h1
 refine hN ?_; clear hN
 exact ⟨a,b,h2,h3,by simp only [h1,h4]⟩
theorem map_range_get {α β : Type} {f : Nat → β} {g : α → β} {l : List α} {n : Nat} (hn : l.length = n) (h : ∀ k (hk : k < l.length),f k = g (l[k])) : (List.range n).map f = l.map g:=by
 subst hn
 apply List.ext_getElem
 ·simp
 ·intro i h1 h2
  simp only [List.getElem_map,List.getElem_range]
  exact h i (by simpa using h2)
theorem rep0 {c : Int} : ag .Mult (.list [.int c]) (.int 0) = some (.list []):=rfl
theorem rep1 {c : Int} : ag .Mult (.list [.int c]) (.int 1) = some (.list [.int c]):=rfl
theorem it_rg3 {b : Int} (h1 : small b = true) (h2 : b ≤ 1048576) : bM "range" [.int 0,.int b,.int 2] = some (dR 0 b 2):=by
 rw [it_range3,if_pos]
 rw [h1]
 simp only [Bool.and_eq_true,decide_eq_true_eq]
 exact ⟨⟨⟨⟨rfl,h2⟩,trivial⟩,by decide⟩,by decide⟩
inductive HB (ks us fs : List Int) (a : Nat) (ex : Gam) (fl : Fl) : Prop
 | mk (j : Nat) (X : Int) (h1 : 1 ≤ j) (h2 : a + j ≤ us.length) (h3 : hv (us.drop a) = X :: hv (us.drop (a + j))) (e : fl = .next (("octets",.val (.bytes ks)) :: ("units",.val (.list (us.map .int))) :: ("found",.own ((fs ++ [X]).map .int)) :: ("k",.val (.int (a + j : Nat))) :: ex)) : HB ks us fs a ex fl
theorem halves_body {k a : Nat} {ks us fs : List Int} {ex : Gam} (hu : us.length ≤ 1000) (hfs : fs.length < 1048576) (ha : a < us.length) : Out (exs 36 (wt (af tab k)) R59.sc R59.mu (blk R59.body [2]) (("octets",.val (.bytes ks)) :: ("units",.val (.list (us.map .int))) :: ("found",.own (fs.map .int)) :: ("k",.val (.int a)) :: ex)) (HB ks us fs a ex):=by
 have hup' : (us.map V.int).length ≤ 1048576:=by rw [List.length_map]; exact Nat.le_trans hu (by decide)
 have hf : (fs.map V.int).length < 1048576:=by rw [List.length_map]; exact hfs
 rcases hr : us.drop a with _ | ⟨u,r⟩
 ·exact absurd hr (bw ha)
 have hn:=eq hr (Nat.le_of_lt ha)
 rw [List.length_cons] at hn
 have i0 : al (.list (us.map V.int)) (.int a) = some (.int u):=(itL hup').trans (gy (by simp only [List.getElem?_map,drop_get hr]; rfl))
 have hd1 : us.drop (a + 1) = r:=by simp only [← List.drop_drop,hr]; rfl
 have i1 : ∀ {v s},r = v :: s → al (.list (us.map V.int)) (.int ((a : Int) + 1)) = some (.int v):=fun {v s} e =>(itL hup').trans (gy (l:=us.map V.int) (k:=a + 1) (a:=.int v) (by simp only [List.getElem?_map,drop_get (hd1.trans e)]; rfl))
 by_cases hp : aM u = true ∧ ∃ v s,r = v :: s ∧ bg v = true
 ·refine bc fun hN =>?_
  obtain ⟨hh,v,s,rfl,hl⟩:=hp
  refine hN ?_; clear hN
  have hd2 : us.drop (a + 2) = s:=by simp only [← List.drop_drop,hr]; rfl
  have hj : hv (us.drop a) = joinM u v :: hv (us.drop (a + 2)):=by rw [hr,hd2,hv,if_pos ⟨hh,hl⟩]
  simp only [aM,bg,Bool.and_eq_true,decide_eq_true_eq] at hh hl
  have y1 : u < 56320:=Int.lt_of_le_of_lt hh.2 (by decide)
  have y2 : v < 57344:=Int.lt_of_le_of_lt hl.2 (by decide)
  have L1 : (a : Int) + 1 < ((us.map V.int).length : Int):=by rw [List.length_map]; simp only [List.length_cons] at hn; lia
  have hsu : small (u - 55296) = true:=bC (Int.sub_nonneg.mpr hh.1) (by lia)
  refine fK ?_
  simp_arith [i0,i1 rfl,lenL hup',hh.1,y1,L1,hl.1,y2,muI (a:=1024) rfl hsu,hf]
  exact eO ⟨2,_,by decide,by simp only [List.length_cons] at hn; lia,hj,by rw [mapS,show joinM u v = 65536 + 1024 * (u - 55296) + v - 56320 by unfold joinM; lia]; rfl⟩
 ·refine fK (bO i0 (bO le_ (cR (fun h1 =>bE lt_ (cQ fun h2 =>bE (lenL hup') (bE lt_ (cQ fun h3 =>?_)))) ?_)))
  ·rcases r with _ | ⟨v,s⟩
   ·have h3:=of_decide_eq_true h3
    rw [List.length_map] at h3
    rw [List.length_nil] at hn
    lia
   ·exact bE (i1 rfl) (bE le_ (cQ fun h4 =>bE lt_ (cE' (decide_eq_false fun h5 =>hp ⟨by unfold aM; rw [h1]; exact decide_eq_true (Int.le_of_lt_add_one (b:=56319) (of_decide_eq_true h2)),v,s,rfl,by unfold bg; rw [h4]; exact decide_eq_true (Int.le_of_lt_add_one (b:=57343) h5)⟩) rfl)))
  ·have one : hv (us.drop a) = (if dk u = true then 65533 else u) :: hv (us.drop (a + 1)):=by
    rw [hr,hd1]
    rcases r with _ | ⟨v,s⟩
    ·rfl
    ·conv =>lhs; rw [hv,if_neg (fun q =>hp ⟨q.1,v,s,rfl,q.2⟩)]
   have fin : ∀ X,(if dk u = true then 65533 else u) = X → HB ks us fs a ex (.next (("octets",.val (.bytes ks)) :: ("units",.val (.list (us.map .int))) :: ("found",.own (fs.map .int ++ [V.int X])) :: ("k",.val (.int ((a : Int) + 1))) :: ex)):=fun X h =>⟨1,X,Nat.le_refl _,ha,by rw [one,h],by rw [mapS]; rfl⟩
   refine bO i0 (bO le_ ?_)
   by_cases x1 : 55296 ≤ u
   ·refine cO (decide_eq_true x1) (bO lt_ ?_)
    by_cases x3 : u < 57344
    ·exact cO (decide_eq_true x3) (iO hf (eO (fin _ (if_pos (by unfold dk; rw [decide_eq_true x1]; exact decide_eq_true (Int.le_of_lt_add_one (b:=57343) x3))))))
    ·exact cO' (decide_eq_false x3) (bO i0 (iO hf (eO (fin _ (if_neg (by unfold dk; rw [decide_eq_false (p:=u ≤ 57343) (fun h =>x3 (Int.lt_of_le_of_lt h (by decide))),Bool.and_false]; exact Bool.false_ne_true))))))
   ·exact cO' (decide_eq_false x1) (bO i0 (iO hf (eO (fin _ (if_neg (by unfold dk; rw [decide_eq_false x1,Bool.false_and]; exact Bool.false_ne_true))))))
theorem rg_half : ∀ n : Nat,(if (0 : Int) < (n : Int) - 1 then ((n : Int) - 1 - 0 - 1) / 2 + 1 else 0).toNat = n / 2
 | 0 =>rfl
 | 1 =>rfl
 | n + 2 =>by
  have e : ((n + 2 : Nat) : Int) - 1 - 0 - 1 = (n : Int):=by lia
  rw [if_pos (by lia),e,Nat.add_div_right _ (by decide)]; rfl
theorem halves_comp {k : Nat} {ks : List Int} (hl : ks.length ≤ 1000) (ho : Oct ks) {v : V} (h : ((bK 36 (wt (af tab k)) R59.sc R59.mu (ar (sAt (blk R59.body []) 2)) (blk R59.body [2]) 65536 [("octets",.val (.bytes ks)),("units",.val (.list ((aB ks).map .int))),("found",.own []),("k",.val (.int 0))]).bind fun fl =>flC fl (fun g =>exsK 37 (wt (af tab k)) R59.sc R59.mu g ((blk R59.body []).drop 3) ak) (fun g =>ak (.brk g)) (fun w g =>ak (.ret w g))) = some v) : (af tab (k + 1)).fn "_law_halves" [.bytes ks] [] = some v:=by
 have hl' : ks.length ≤ 1048576:=by lia
 have hs1 : small ((ks.length : Int) - 1) = true:=small_of2 (by lia) (by lia)
 have hb1 : (ks.length : Int) - 1 ≤ 1048576:=by lia
 have hrg : dR 0 ((ks.length : Int) - 1) 2 = (List.range (ks.length / 2)).map (fun j : Nat =>V.int (2 * (j : Int))):=by
  unfold dR
  have e : (if (0 : Int) < (ks.length : Int) - 1 then ((ks.length : Int) - 1 - 0 - 1) / 2 + 1 else 0).toNat = ks.length / 2:=rg_half _
  rw [e]
  apply List.map_congr_left
  intro j _
  simp only [Int.zero_add]
  rw [Int.mul_comm]
 have hmp : (List.range (ks.length / 2)).map (fun j : Nat =>V.int ((aB ks).getD j 0)) = (aB ks).map V.int:=by
  refine map_range_get (gc ks) ?_
  intro j hj
  simp [hj]
 have hlen : ((List.range (ks.length / 2)).map (fun j : Nat =>V.int (2 * (j : Int)))).length ≤ 1048576:=by simp only [List.length_map,List.length_range]; lia
 refine sh_law_halves ?_
 simp only [lenB hl',bS,sbI,it_rg3 hs1 hb1,hrg,if_pos hlen]
 rw [cj (q:=fun j : Nat =>V.int ((aB ks).getD j 0)) _ ?_,hmp]
 ·exact h
 ·intro j hj
  refine bc fun hN =>?_
  obtain ⟨a,b,g1,g2,g3⟩:=pairs_range ks j (List.mem_range.mp hj)
  refine hN ?_; clear hN
  have i1 : aH ks (2 * (j : Int)) = some a:=by have:=gy g1; simpa using this
  have i2 : aH ks (2 * (j : Int) + 1) = some b:=by have:=gy g2; simpa using this
  have hsa : small a = true:=by have:=ho a (List.mem_of_getElem? g1); exact bC (by lia) (by lia)
  have hs2 : small 256 = true:=rfl
  simp_arith! [hl',i1,i2,hsa,hs2]
  rw [List.getD_eq_getElem?_getD,g3,Option.getD_some,Int.mul_comm]
theorem dZ {k : Nat} {ks : List Int} (hl : ks.length ≤ 1000) (ho : Oct ks) : (af tab (k + 1)).fn "_law_halves" [.bytes ks] [] = some (.list ((hv (aB ks) ++ List.replicate (ks.length % 2) 65533).map .int)):=by
 have hl' : ks.length ≤ 1048576:=by lia
 refine halves_comp hl ho ?_
 have hup : (aB ks).length ≤ 1000:=by rw [gc]; lia
 generalize aB ks = us at *
 have hup' : (us.map V.int).length ≤ 1048576:=by rw [List.length_map]; lia
 have hup2 : (us.map V.int).length ≤ 1000:=by rw [List.length_map]; exact hup
 refine bH (fv (L:=(us.map V.int).length) (d:=0) (E:=fun a (fs : List Int) ex =>("octets",.val (.bytes ks)) :: ("units",.val (.list (us.map .int))) :: ("found",.own (fs.map .int)) :: ("k",.val (.int a)) :: ex) (J:=fun a fs =>fs ++ hv (us.drop a) = hv us) hup2 ?_ ?_ ?_ (Nat.zero_le _) rfl)
 ·intro a fs ex
  refine sht_law_halves ?_
  simp_arith! [hup']
 ·intro a fs ex hlt hfs h6
  rw [List.length_map] at hlt
  refine bc fun hN =>?_
  obtain ⟨_,hx,j,X,h1,h2,h3,rfl⟩:=halves_body (k:=k) (ks:=ks) (ex:=ex) hup hfs hlt
  refine hN ?_; clear hN
  refine outE hx ⟨(j : Int),X,ex,rfl,Int.ofNat_le.mpr h1,Int.ofNat_le.mpr (by rw [List.length_map]; exact Nat.le_sub_of_add_le (by rw [Nat.add_comm]; exact h2)),?_⟩
  rw [List.append_assoc,← h6,h3]; rfl
 ·intro fs ex hfl h6
  rw [List.length_map] at h6 hfl
  rw [List.drop_length,hv,List.append_nil] at h6
  rw [fN,h6]
  have h3 : ((hv us).map V.int).length ≤ 1000:=by rw [List.length_map,← h6]; exact Nat.le_trans hfl hup
  refine sha_law_halves ?_
  rcases Nat.mod_two_eq_zero_or_one ks.length with hm | hm
  ·have hf : (ks.length : Int) % 2 = 0:=by lia
   have hx : ((hv us).map V.int).length + ([] : List V).length ≤ 1048576:=by rw [List.length_nil]; lia
   simp_arith! [hl',hf,rep0,hx,hm]
   simp only [List.replicate_zero,List.append_nil,List.append_nil]
  ·have hf : (ks.length : Int) % 2 = 1:=by lia
   have hx : ((hv us).map V.int).length + [V.int 65533].length ≤ 1048576:=by simp only [List.length_cons,List.length_nil]; lia
   simp_arith! [hl',hf,rep1,hx,hm]
   simp only [List.replicate_one,mapS]
theorem pairs_take : ∀ (l : List Int),aB (l.take (l.length / 2 * 2)) = aB l
 | [] =>rfl
 | [_] =>by simp [aB]
 | a :: b :: r =>by
  have : (a :: b :: r).length / 2 * 2 = r.length / 2 * 2 + 1 + 1:=by simp only [List.length_cons]; lia
  simp only [this,List.take_succ_cons,List.take_succ_cons,aB,pairs_take r,aB]
theorem pairs_app : ∀ (v t : List Int),v.length % 2 = 0 → aB (v ++ t) = aB v ++ aB t
 | [],t,_ =>by simp [aB]
 | [_],t,h =>by simp at h
 | a :: b :: r,t,h =>by
  simp only [List.cons_append,aB]
  rw [pairs_app r t (by simp only [List.length_cons] at h; lia)]
theorem even_snoc {w : List Int} (h : w.length % 2 = 0) (hne : w ≠ []) : ∃ v x y,w = v ++ [x,y] ∧ v.length % 2 = 0:=by
 rcases List.eq_nil_or_concat w with rfl | ⟨w1,y,e⟩
 ·exact absurd rfl hne
 ·rw [List.concat_eq_append] at e
  rcases List.eq_nil_or_concat w1 with rfl | ⟨v,x,e2⟩
  ·subst e; simp at h
  ·rw [List.concat_eq_append] at e2
   subst e2
   subst e
   refine ⟨v,x,y,by simp,?_⟩
   simp only [List.length_append,List.length_cons,List.length_nil] at h; lia
theorem it_m2 {α : Type} {v : List α} {x y : α} : aH (v ++ [x,y]) (-2) = some x:=by
 unfold aH
 rw [if_neg (by lia),if_pos (by rw [List.length_append]; simp; lia)]
 have : (-2 + ((v ++ [x,y]).length : Int)).toNat = v.length:=by rw [List.length_append]; simp; lia
 rw [this]; simp
theorem cut_m2 {α : Type} {v : List α} {x y : α} : cut (v ++ [x,y]) Option.none (some (-2)) = v:=by
 unfold cut clip
 simp only [Option.elim,List.drop_zero,Nat.sub_zero]
 rw [if_pos (by lia)]
 have : (-2 + ((v ++ [x,y]).length : Int)).toNat = v.length:=by rw [List.length_append]; simp; lia
 simp only [this,List.take_left]
theorem dh_snoc {us : List Int} {u : Int} : a9 (us ++ [u]) = if aM u = true then us else us ++ [u]:=by
 unfold a9; rw [List.getLast?_append]; simp
theorem law_units_eq {k : Nat} {ks : List Int} {last : Bool} (hl : ks.length ≤ 1000) (ho : Oct ks) : (af tab (k + 2)).fn "_law_units" [.bytes ks,.bool last] [] = some (.list (((aD "be" last ks).1.map aZ).map .int)):=by
 have hl' : ks.length ≤ 1048576:=by lia
 refine sh_law_units ?_
 cases last with
 | true =>
  have hh:=dZ (k:=k) hl ho
  rw [dO _ _ (Nat.le_refl _)]
  simp_arith only [hh]
 | false =>
  rw [eJ _ _ (Nat.le_refl _),← pairs_take]
  have hs1 : small ((ks.length : Int) / 2) = true:=bC (by lia) (by lia)
  have hs2 : small 2 = true:=rfl
  have hna : ((ks.length : Int) / 2 * 2).natAbs < 4611686018427387904:=by lia
  have hct : cut ks Option.none (some ((ks.length : Int) / 2 * 2)) = ks.take (ks.length / 2 * 2):=by
   rw [← bL]; congr 2
  have hwl : (ks.take (ks.length / 2 * 2)).length ≤ 1000:=by rw [List.length_take]; lia
  have hwe : (ks.take (ks.length / 2 * 2)).length % 2 = 0:=by rw [List.length_take]; lia
  have hwo:=ho.take (ks.length / 2 * 2)
  generalize ks.take (ks.length / 2 * 2) = w at *
  have hwl' : w.length ≤ 1048576:=by lia
  have hh:=dZ (k:=k) hwl hwo
  simp only [hwe,List.replicate_zero,List.append_nil] at hh
  simp_arith [hl',hs1,hs2,hna,hct]
  by_cases hw : w = []
  ·subst hw
   refine cE' rfl ?_
   simp_arith [hh]
   rfl
  ·refine bc fun hN =>?_
   obtain ⟨v,x,y,e,hv2⟩:=even_snoc hwe hw
   refine hN ?_; clear hN
   have hwb : (w == []) = false:=beq_eq_false_iff_ne.mpr hw
   have hx:=hwo x (by rw [e]; simp)
   have hy:=hwo y (by rw [e]; simp)
   have hvl : v.length ≤ 1000:=by rw [e] at hwl; simp only [List.length_append,List.length_cons,List.length_nil] at hwl; lia
   have i2 : aH w (-2) = some x:=by rw [e]; exact it_m2
   have cm : cut w Option.none (some (-2)) = v:=by rw [e]; exact cut_m2
   have hp2 : ay (some (.int (-2))) = some (some (-2)):=rfl
   have hvh:=dZ (k:=k) hvl (fun z hz =>hwo z (by rw [e]; simp [hz]))
   simp only [hv2,List.replicate_zero,List.append_nil] at hvh
   have hp : aB w = aB v ++ [x * 256 + y]:=by simp only [e,pairs_app _ _ hv2]; rfl
   rw [hp] at hh ⊢
   rw [dh_snoc]
   simp_arith [hwb,hwl',i2]
   by_cases c2 : 216 ≤ x
   ·by_cases c3 : x < 220
    ·rw [if_pos (by unfold aM; simp only [Bool.and_eq_true,decide_eq_true_eq,decide_eq_true_eq]; lia)]
     simp_arith only [c2,c3,hp2,cm,hvh,hwl']
    ·rw [if_neg (by unfold aM; simp only [Bool.and_eq_true,decide_eq_true_eq,decide_eq_true_eq]; lia)]
     simp_arith only [c2,c3,hh]
   ·rw [if_neg (by unfold aM; simp only [Bool.and_eq_true,decide_eq_true_eq,decide_eq_true_eq]; lia)]
    simp_arith only [c2,hh]
theorem units16_u {x : Int} (h : Sca x) : ∀ u ∈ aF x,0 ≤ u ∧ u < 65536:=by
 have r:=h.rg
 unfold aF
 intro u hu
 by_cases c : x < 65536
 ·rw [if_pos c] at hu
  obtain rfl:=List.mem_singleton.mp hu
  exact ⟨r.1,c⟩
 ·rw [if_neg c] at hu
  have c:=Int.sub_nonneg.mpr (Int.not_lt.mp c)
  rcases List.mem_cons.mp hu with rfl | hu
  ·exact ⟨lo_ (Int.ediv_nonneg c (by decide)) (by decide),hi_ (Int.ediv_lt_of_lt_mul (b:=1024) (by decide) (by lia)) (by decide)⟩
  ·obtain rfl:=List.mem_singleton.mp hu
   exact ⟨lo_ (Int.emod_nonneg _ (by decide)) (by decide),hi_ (Int.emod_lt_of_pos _ (by decide)) (by decide)⟩
theorem units_u {l : List Int} (h : cw l) : ∀ u ∈ l.flatMap aF,0 ≤ u ∧ u < 65536:=by
 intro u hu
 obtain ⟨x,hx,hu⟩:=List.mem_flatMap.mp hu
 exact units16_u (h x hx) u hu
theorem units16_len {x : Int} : (aF x).length ≤ 2:=by unfold aF; split <;> simp
theorem eD : ∀ {l : List Int},(l.flatMap aF).length ≤ 2 * l.length
 | [] =>by simp
 | a :: r =>by
  have h1:=eD (l:=r)
  have h2:=units16_len (x:=a)
  simp only [List.flatMap_cons,List.length_append,List.length_cons]; lia
theorem two_oct {o : String} {l : List Int} (h : ∀ u ∈ l,0 ≤ u ∧ u < 65536) : Oct (l.flatMap (two o)):=by
 intro y hy
 obtain ⟨x,hx,hu⟩:=List.mem_flatMap.mp hy
 have h:=h x hx
 have q:=odv 256 (by decide) h.1 h.2
 refine (?_ : Oct (two o x)) y hu
 unfold two
 split
 ·exact oc1 q (oc1 omd oc0)
 ·exact oc1 omd (oc1 q oc0)
theorem two_len {o : String} : ∀ {l : List Int},(l.flatMap (two o)).length = 2 * l.length
 | [] =>by simp
 | a :: r =>by
  have h1:=two_len (o:=o) (l:=r)
  have h2 : (two o a).length = 2:=by unfold two; split <;> rfl
  simp only [List.flatMap_cons,List.length_append,List.length_cons]; lia
theorem enc16_len {o : String} {l : List Int} : (bb o l).length ≤ 4 * l.length:=by
 have:=eD (l:=l); unfold bb; rw [two_len]; lia
theorem enc16_oct {o : String} {l : List Int} (h : cw l) : Oct (bb o l):=two_oct (units_u h)
theorem cX {k : Nat} {text : List Int} (hl : text.length ≤ 100) (hs : cw text) : (af tab (k + 3)).fn "check_scalars" [.list (text.map .int)] [] = some .none:=by
 have hl' : (text.map V.int).length ≤ 1048576:=by rw [List.length_map]; lia
 refine sh_check_scalars (Eq.trans (congrArg (Option.bind · _) (isL hl')) (bH (bA (fun ns g =>∃ ex,g = (("text" : Str),AV.val (.list (text.map .int))) :: ex ∧ cw ns) ?_ ?_ text _ ⟨[],rfl,hs⟩)))
 ·rintro x r g ⟨ex,hg,h⟩
  subst hg
  refine ⟨(("text" : Str),AV.val (.list (text.map .int))) :: ae ("code" : Str) (.val (.int x)) ex,by kernel_rfl,shb_check_scalars ?_⟩
  simp_arith! [eP,h.cons.1.b]
  exact ⟨_,rfl,h.cons.2⟩
 ·rintro g ⟨ex,hg,h⟩
  subst hg
  rw [fN]
  exact sha_check_scalars rfl
theorem fP {k : Nat} {text : List Int} (hl : text.length ≤ 100) (hs : cw text) : (af tab (k + 4)).fn "utf16_units" [.list (text.map .int)] [] = some (.list ((text.flatMap aF).map .int)):=by
 have hl' : (text.map V.int).length ≤ 1048576:=by rw [List.length_map]; lia
 have hel : (text.flatMap aF).length ≤ 200:=by have:=eD (l:=text); lia
 refine sh_utf16_units ?_
 simp only [cX hl hs,orS,bS,inN,isL hl',if_true]
 refine bH (bA (fun ns g =>∃ fs ex,g = (("text" : Str),AV.val (.list (text.map .int))) :: (("found" : Str),AV.own (fs.map .int)) :: ex ∧ cw ns ∧ fs ++ ns.flatMap aF = text.flatMap aF) ?_ ?_ text _ ⟨[],[],rfl,hs,rfl⟩)
 ·intro x r g ⟨fs,ex,hg,h2,h3⟩
  subst hg
  have h0 : 0 ≤ x ∧ x ≤ 1114111:=by have:=h2.cons.1; unfold Sca at this; lia
  have hle : fs.length + (aF x).length ≤ 200:=by
   have:=congrArg List.length h3
   rw [List.flatMap_cons] at this
   simp only [List.length_append] at this; lia
  have hf1 : (fs.map V.int).length < 1048576:=by rw [List.length_map]; lia
  refine ⟨(("text" : Str),AV.val (.list (text.map .int))) :: (("found" : Str),AV.own (fs.map .int)) :: ae ("code" : Str) (.val (.int x)) ex,by kernel_rfl,shb_utf16_units ?_⟩
  rw [List.flatMap_cons,← List.append_assoc] at h3
  by_cases c : x < 65536
  ·have e : aF x = [x]:=by unfold aF; rw [if_pos c]
   rw [e] at h3
   simp_arith! [c,hf1]
   exact ⟨_,_,by rw [mapS],h2.cons.2,h3⟩
  ·have hb : Builtin.bitAnd (x - 65536) 1023 = (x - 65536) % 1024:=band1023 (by lia)
   have e : aF x = [55296 + (x - 65536) / 1024,56320 + (x - 65536) % 1024]:=by unfold aF; rw [if_neg c]
   rw [e] at h3
   have hf2 : (fs.map V.int ++ [V.int (55296 + (x - 65536) / 1024)]).length < 1048576:=by rw [lenS,List.length_map]; lia
   simp_arith! [c,hf1,hf2,hb]
   exact ⟨_,_,by rw [List.map_append,List.append_assoc]; rfl,h2.cons.2,h3⟩
 ·intro g ⟨fs,ex,hg,h2,h3⟩
  subst hg
  rw [List.flatMap_nil,List.append_nil] at h3
  subst h3
  rw [fN]
  exact sha_utf16_units rfl
theorem enc16_loop {k : Nat} {o : String} {us : List Int} {xs : List V} {wm : Bool} (hl : us.length ≤ 500) (hu : ∀ u ∈ us,0 ≤ u ∧ u < 65536) : ((bt 37 (wt (af tab (k + 1))) R40.sc R40.mu (ar (sAt (blk R40.body []) 1)) (blk R40.body [1]) (us.map .int) ((("text" : Str),AV.val (.list xs)) :: (("order" : Str),AV.val (.str o)) :: (("with_mark" : Str),AV.val (.bool wm)) :: (("found" : Str),AV.own ([])) :: [])).bind fun fl =>flC fl (fun g =>exsK 38 (wt (af tab (k + 1))) R40.sc R40.mu g ((blk R40.body []).drop 2) ak) (fun g =>ak (.brk g)) (fun w g =>ak (.ret w g))) = some (.bytes (us.flatMap (two o))):=by
 have htl : (us.flatMap (two o)).length ≤ 1000:=by rw [two_len]; lia
 refine bH (bA (fun ns g =>∃ fs ex,g = (("text" : Str),AV.val (.list xs)) :: (("order" : Str),AV.val (.str o)) :: (("with_mark" : Str),AV.val (.bool wm)) :: (("found" : Str),AV.own (fs.map .int)) :: ex ∧ (∀ u ∈ ns,0 ≤ u ∧ u < 65536) ∧ fs ++ ns.flatMap (two o) = us.flatMap (two o)) ?_ ?_ us _ ⟨[],[],rfl,hu,rfl⟩)
 ·rintro x r g ⟨fs,ex,hg,h3,h4⟩
  subst hg
  rw [List.flatMap_cons,← List.append_assoc] at h4
  have hle : (fs.map V.int).length + ((two o x).map V.int).length ≤ 1048576:=by
   have:=congrArg List.length h4
   simp only [List.length_append,List.length_map] at this ⊢; lia
  have hu : (af tab (k + 1)).fn "utf16_octets" [.int x,.str o] [] = some (.list ((two o x).map .int)):=utf16_octets_eq (h3 x (.head _)).1
  refine ⟨("text",.val (.list xs)) :: ("order",.val (.str o)) :: ("with_mark",.val (.bool wm)) :: ("found",.own (fs.map .int)) :: ae "unit" (.val (.int x)) ex,by kernel_rfl,shb_encode_utf16 ?_⟩
  simp_arith! [hu,hle]
  exact ⟨_,_,by rw [List.map_append],fun u q =>h3 u (.tail _ q),h4⟩
 ·rintro g ⟨fs,ex,hg,h3,h4⟩
  subst hg
  simp only [List.flatMap_nil,List.append_nil] at h4
  subst h4
  rw [fN]
  refine sha_encode_utf16 ?_
  rw [byL (by lia) (two_oct hu)]; rfl
theorem encode_utf16_eq {k : Nat} {o : String} {text : List Int} (hl : text.length ≤ 100) (hs : cw text) : (af tab (k + 5)).fn "encode_utf16" [.list (text.map .int),.str o] [] = some (.bytes (bb o text)):=by
 have hul:=eD (l:=text)
 have h1 : ([] : List V).length + ((text.flatMap aF).map V.int).length ≤ 1048576:=by simp only [List.length_nil,List.length_map]; lia
 have h2 : ([] ++ (text.flatMap aF).map V.int).length ≤ 1048576:=by rw [List.length_append]; exact h1
 refine sh_encode_utf16_false ?_
 simp only [fP (k:=k) hl hs,orS,bS,adL h1,isL h2]
 exact enc16_loop (by lia) (units_u hs)
theorem encode_utf16_mark {k : Nat} {o : String} {text : List Int} (hl : text.length ≤ 100) (hs : cw text) : (af tab (k + 5)).fn "encode_utf16" [.list (text.map .int),.str o] [("with_mark",.bool true)] = some (.bytes (two o 65279 ++ bb o text)):=by
 have hul:=eD (l:=text)
 have h1 : [V.int 65279].length + ((text.flatMap aF).map V.int).length ≤ 1048576:=by simp only [List.length_cons,List.length_nil,List.length_map]; lia
 have h2 : ([V.int 65279] ++ (text.flatMap aF).map V.int).length ≤ 1048576:=by rw [List.length_append]; exact h1
 refine sh_encode_utf16_true ?_
 simp only [fP (k:=k) hl hs,orS,bS,adL h1,isL h2]
 refine enc16_loop (us:=65279 :: text.flatMap aF) (by rw [List.length_cons]; lia) fun u hu =>?_
 cases hu with
 | head =>decide
 | tail _ hu =>exact units_u hs u hu
noncomputable def bB (o : String) (x : Int) : List Int:=if o = "be" then [0,x / 65536,x / 256 % 256,x % 256] else [x % 256,x / 256 % 256,x / 65536,0]
theorem fA {o : String} {x : Int} : (bB o x).length = 4:=by unfold bB; split <;> rfl
theorem fY {o : String} : ∀ {l : List Int},(l.flatMap (bB o)).length = 4 * l.length
 | [] =>by simp
 | a :: r =>by
  have h1:=fY (o:=o) (l:=r)
  simp only [List.flatMap_cons,List.length_append,List.length_cons,fA]; lia
theorem four_oct {o : String} {x : Int} (h : 0 ≤ x ∧ x ≤ 1114111) : Oct (bB o x):=by
 have q:=odv 65536 (by decide) h.1 (Int.lt_of_le_of_lt h.2 (by decide))
 unfold bB
 split
 ·exact oc1 (by decide) (oc1 q (oc1 omd (oc1 omd oc0)))
 ·exact oc1 omd (oc1 omd (oc1 q (oc1 (by decide) oc0)))
theorem Sca.rng {x : Int} (h : Sca x) : 0 ≤ x ∧ x ≤ 1114111:=by unfold Sca at h; lia
theorem fours_oct {o : String} {l : List Int} (h : ∀ x ∈ l,0 ≤ x ∧ x ≤ 1114111) : Oct (l.flatMap (bB o)):=by
 intro y hy
 refine bc fun hN =>?_
 obtain ⟨x,hx,hu⟩:=List.mem_flatMap.mp hy
 refine hN ?_; clear hN
 exact four_oct (h x hx) y hu
theorem or0 {y : Int} (h : 0 ≤ y) : Builtin.bitOr 0 y = y:=by
 obtain ⟨n,rfl⟩:=Int.eq_ofNat_of_zero_le h
 have:=bor_nat 0 n
 simpa using this
theorem rv4 {a b c d : V} : revV (.list [a,b,c,d]) = some (.list [d,c,b,a]):=by kernel_rfl
theorem enc32_loop {k : Nat} {o : String} {us : List Int} {xs : List V} {wm : Bool} (hl : us.length ≤ 200) (hu : ∀ u ∈ us,0 ≤ u ∧ u ≤ 1114111) : ((bt 36 (wt (af tab k)) R45.sc R45.mu (ar (sAt (blk R45.body []) 2)) (blk R45.body [2]) (us.map .int) ((("text" : Str),AV.val (.list xs)) :: (("order" : Str),AV.val (.str o)) :: (("with_mark" : Str),AV.val (.bool wm)) :: (("found" : Str),AV.own ([])) :: [])).bind fun fl =>flC fl (fun g =>exsK 37 (wt (af tab k)) R45.sc R45.mu g ((blk R45.body []).drop 3) ak) (fun g =>ak (.brk g)) (fun w g =>ak (.ret w g))) = some (.bytes (us.flatMap (bB o))):=by
 have htl : (us.flatMap (bB o)).length ≤ 1000:=by rw [fY]; lia
 refine bH (bA (fun ns g =>∃ fs ex,g = (("text" : Str),AV.val (.list xs)) :: (("order" : Str),AV.val (.str o)) :: (("with_mark" : Str),AV.val (.bool wm)) :: (("found" : Str),AV.own (fs.map .int)) :: ex ∧ (∀ u ∈ ns,0 ≤ u ∧ u ≤ 1114111) ∧ fs ++ ns.flatMap (bB o) = us.flatMap (bB o)) ?_ ?_ us _ ⟨[],[],rfl,hu,rfl⟩)
 ·rintro x r g ⟨fs,ex,hg,h3,h4⟩
  subst hg
  rw [List.flatMap_cons,← List.append_assoc] at h4
  have h0:=h3 x (.head _)
  have hle : (fs.map V.int).length + ((bB o x).map V.int).length ≤ 1048576:=by
   have:=congrArg List.length h4
   simp only [List.length_append,List.length_map] at this ⊢; lia
  have b1 : Builtin.bitAnd (x / 256) 255 = x / 256 % 256:=band255 (by lia)
  have b2 : Builtin.bitAnd x 255 = x % 256:=band255 h0.1
  refine ⟨("text",.val (.list xs)) :: ("order",.val (.str o)) :: ("with_mark",.val (.bool wm)) :: ("found",.own (fs.map .int)) :: ae "code" (.val (.int x)) ex,by kernel_rfl,shb_encode_utf32 ?_⟩
  by_cases hbe : o = "be"
  ·have e : (bB o x).map V.int = [.int 0,.int (x / 65536),.int (x / 256 % 256),.int (x % 256)]:=by unfold bB; rw [if_pos hbe]; rfl
   rw [e] at hle
   have hb : (o == "be") = true:=beq_iff_eq.mpr hbe
   simp_arith! [b1,b2,hb,hle]
   exact ⟨_,_,by rw [List.map_append,e],fun u q =>h3 u (.tail _ q),h4⟩
  ·have e : (bB o x).map V.int = [.int (x % 256),.int (x / 256 % 256),.int (x / 65536),.int 0]:=by unfold bB; rw [if_neg hbe]; rfl
   rw [e] at hle
   simp_arith! [b1,b2,sneF hbe,hle,rv4]
   exact ⟨_,_,by rw [List.map_append,e],fun u q =>h3 u (.tail _ q),h4⟩
 ·rintro g ⟨fs,ex,hg,h3,h4⟩
  subst hg
  simp only [List.flatMap_nil,List.append_nil] at h4
  subst h4
  rw [fN]
  refine sha_encode_utf32 ?_
  rw [byL (by lia) (fours_oct hu)]; rfl
theorem fi {k : Nat} {o : String} {text : List Int} (hl : text.length ≤ 100) (hs : cw text) : (af tab (k + 4)).fn "encode_utf32" [.list (text.map .int),.str o] [] = some (.bytes (text.flatMap (bB o))):=by
 have h0 : (text.map V.int).length ≤ 1048576:=by rw [List.length_map]; lia
 have h1 : ([] : List V).length + (text.map V.int).length ≤ 1048576:=by simp only [List.length_nil,List.length_map]; lia
 have h2 : ([] ++ text.map V.int).length ≤ 1048576:=by rw [List.length_append]; exact h1
 refine sh_encode_utf32_false ?_
 simp only [cX (k:=k) hl hs,orS,bS,inN,if_true,lisL h0,adL h1,isL h2]
 exact enc32_loop (by lia) fun u hu =>(hs u hu).rng
theorem encode_utf32_mark {k : Nat} {o : String} {text : List Int} (hl : text.length ≤ 100) (hs : cw text) : (af tab (k + 4)).fn "encode_utf32" [.list (text.map .int),.str o] [("with_mark",.bool true)] = some (.bytes (bB o 65279 ++ text.flatMap (bB o))):=by
 have h0 : (text.map V.int).length ≤ 1048576:=by rw [List.length_map]; lia
 have h1 : [V.int 65279].length + (text.map V.int).length ≤ 1048576:=by simp only [List.length_cons,List.length_nil,List.length_map]; lia
 have h2 : ([V.int 65279] ++ text.map V.int).length ≤ 1048576:=by rw [List.length_append]; exact h1
 refine sh_encode_utf32_true ?_
 simp only [cX (k:=k) hl hs,orS,bS,inN,if_true,lisL h0,adL h1,isL h2]
 refine enc32_loop (us:=65279 :: text) (by rw [List.length_cons]; lia) fun u hu =>?_
 cases hu with
 | head =>decide
 | tail _ hu =>exact (hs u hu).rng
theorem utf32_start_eq {k : Nat} {ks : List Int} {o : String} : (af tab (k + 1)).fn "utf32_start" [.bytes ks,.str o] [] = some (.tup [.str o,.int 0]):=by
 refine sh_utf32_start ?_
 simp_arith only [cT]
theorem ownCB {ρ : Type} {ks : List Int} {K : List Int → Option ρ} (h : ks.length ≤ 1048576) : ownC (.bytes ks) K = K ks:=by
 show (if ks.length ≤ 1048576 then K ks else .none) = _
 rw [if_pos h]
section
variable {a b c d : V}
theorem it40 : al (.list [a,b,c,d]) (.int 0) = some a:=by kernel_rfl
theorem it41 : al (.list [a,b,c,d]) (.int 1) = some b:=by kernel_rfl
theorem it42 : al (.list [a,b,c,d]) (.int 2) = some c:=by kernel_rfl
theorem it43 : al (.list [a,b,c,d]) (.int 3) = some d:=by kernel_rfl
theorem len4 : ((gk (.list [a,b,c,d])).map fun (n : Nat) =>V.int n) = some (.int 4):=by kernel_rfl
theorem rvs4 : [a,b,c,d].reverse = [d,c,b,a]:=rfl
end
theorem utf32_step_eq {k : Nat} {ks : List Int} {a : Nat} {o : String} {x : Int} (hl : ks.length ≤ 1000) (ha : a ≤ ks.length) (hx : (ks.drop a).take 4 = bB o x) (h : Sca x) :
  (af tab (k + 3)).fn "utf32_step" [.bytes ks,.int a,.str o] [] = some (.tup [.int x,.int ((a : Int) + 4),.str ""]):=by
 have hl' : ks.length ≤ 1048576:=by lia
 have N0:=ptN (a:=a) (by lia)
 have N4:=ptN (a:=a + 4) (by lia)
 rw [Int.natCast_add] at N4
 have N4 : ay (some (.int ((a : Int) + 4))) = some (some ((a : Int) + 4)):=N4
 have hct : cut ks (some (a : Int)) (some ((a : Int) + 4)) = bB o x:=by
  have e : (a : Int) + 4 = ((a + 4 : Nat) : Int):=by lia
  simp only [e,eg,Nat.add_sub_cancel_left,hx]
 have hf : (bB o x).length ≤ 1048576:=by rw [fA]; decide
 have hr:=h.rng
 have c1 : Builtin.bitOr 0 (x / 65536 * 65536) = x / 65536 * 65536:=or0 (by lia)
 have c2 : Builtin.bitOr (x / 65536 * 65536) (x / 256 % 256 * 256) = x / 65536 * 65536 + x / 256 % 256 * 256:=dM (a:=x / 65536) 16 (by rw [show (2 : Int) ^ 16 = 65536 from rfl]) (by lia) (by lia) (by lia)
 have c3 : Builtin.bitOr (x / 65536 * 65536 + x / 256 % 256 * 256) (x % 256) = x:=by
  rw [dM (a:=x / 65536 * 256 + x / 256 % 256) 8 (by rw [show (2 : Int) ^ 8 = 256 from rfl]; lia) (by lia) (by lia) (by lia)]; lia
 have s0 : small 0 = true:=rfl
 have s1 : small (x / 65536) = true:=bC (by lia) (by lia)
 have s2 : small (x / 256 % 256) = true:=bC (by lia) (by lia)
 have hsc:=eP (k:=k) (x:=x)
 rw [h.b] at hsc
 refine sh_utf32_step ?_
 by_cases hbe : o = "be"
 ·have h4 : bB o x = [0,x / 65536,x / 256 % 256,x % 256]:=by unfold bB; rw [if_pos hbe]
  have hb : (o == "be") = true:=beq_iff_eq.mpr hbe
  rw [h4] at hct hf
  simp_arith! [hl',N0,N4,hct,ownCB hf,List.map_cons,List.map_nil,len4,it40,it41,it42,it43,hb,s0,s1,s2,c1,c2,c3,hsc]
 ·have h4 : bB o x = [x % 256,x / 256 % 256,x / 65536,0]:=by unfold bB; rw [if_neg hbe]
  rw [h4] at hct hf
  have hf4 : [V.int (x % 256),V.int (x / 256 % 256),V.int (x / 65536),V.int 0].length ≤ 1048576:=hf
  simp_arith! [hl',N0,N4,hct,ownCB hf,List.map_cons,List.map_nil,len4,rvs4,hf4,it40,it41,it42,it43,sneF hbe,s0,s1,s2,c1,c2,c3,hsc]
theorem decode_utf32_eq {k : Nat} {text : List Int} {o : String} (hl : text.length ≤ 100) (hs : cw text) : (af tab (k + 4)).fn "decode_utf32" [.bytes (text.flatMap (bB o)),.str o] [] = some (.list (text.map .int)):=by
 have hel : (text.flatMap (bB o)).length ≤ 1000:=by rw [fY]; lia
 generalize hks : text.flatMap (bB o) = ks at *
 have hl' : ks.length ≤ 1048576:=by lia
 refine sh_decode_utf32 ?_
 simp only [utf32_start_eq,orS,bS,u2]
 refine bH (fv (L:=ks.length) (d:=0) (E:=fun a (fs : List Int) ex =>("octets",.val (.bytes ks)) :: ("order",.val (.str o)) :: ("at",.val (.int a)) :: ("found",.own (fs.map .int)) :: ex) (J:=fun a fs =>∃ rem,ks.drop a = rem.flatMap (bB o) ∧ fs ++ rem = text ∧ cw rem) hel ?_ ?_ ?_ (Nat.zero_le _) ?_)
 ·intro a fs ex
  refine sht_decode_utf32 ?_
  simp_arith only [hl']
 ·rintro a fs ex hlt hfs ⟨rem,h6,h7,h8⟩
  rw [← List.length_map (f:=V.int)] at hfs
  cases rem with
  | nil =>rw [List.flatMap_nil] at h6; exact absurd h6 (bw hlt)
  | cons x r =>
   have h9:=h8.cons
   have h4l:=fA (o:=o) (x:=x)
   have hp:=utf32_step_eq (k:=k) (o:=o) (x:=x) hel (Nat.le_of_lt hlt) (by simp only [h6,List.flatMap_cons,← h4l,List.take_left]) h9.1
   have e1 : (("code" : Str) == ("what" : Str)) = false:=by kernel_rfl
   have e2 : (("code" : Str) == ("behind" : Str)) = false:=by kernel_rfl
   have e3 : (("behind" : Str) == ("what" : Str)) = false:=by kernel_rfl
   refine shb_decode_utf32 ?_
   simp_arith only [hp,e1,e2,e3,hfs]
   have hdl:=congrArg List.length h6
   rw [List.flatMap_cons,List.length_append,List.length_drop,fA] at hdl
   refine ⟨4,x,_,by rw [mapS]; rfl,by decide,Int.ofNat_le.mpr (by rw [hdl]; exact Nat.le_add_right _ _),r,?_,by rw [List.append_assoc]; exact h7,h9.2⟩
   show ks.drop (a + 4) = _
   simp only [← List.drop_drop,h6,List.flatMap_cons,← h4l,List.drop_left]
 ·rintro fs ex _ ⟨rem,h6,h7,_⟩
  rw [List.drop_length] at h6
  rw [fN]
  cases rem with
  | nil =>rw [List.append_nil] at h7; rw [h7]; exact sha_decode_utf32 rfl
  | cons x r =>
   have:=congrArg List.length h6
   rw [List.flatMap_cons,List.length_append,List.length_nil,fA] at this
   exact absurd (Nat.eq_zero_of_add_eq_zero_right this.symm) (by decide)
 ·exact ⟨text,hks.symm,rfl,hs⟩
theorem bytes4 {a b c d : Int} (ha : 0 ≤ a ∧ a < 256) (hb : 0 ≤ b ∧ b < 256) (hc : 0 ≤ c ∧ c < 256) (hd : 0 ≤ d ∧ d < 256) : aj "bytes" [.list [.int a,.int b,.int c,.int d]] = some (.bytes [a,b,c,d]):=by
 rw [bl_bytes]
 show (if [a,b,c,d].length ≤ lid ∧ ∀ n ∈ [a,b,c,d],0 ≤ n ∧ n < 256 then some (V.bytes [a,b,c,d]) else Option.none) = _
 exact if_pos ⟨(by decide : 4 ≤ lid),oc1 ha (oc1 hb (oc1 hc (oc1 hd oc0)))⟩
noncomputable def quad (u : Int) : List Int:=[u / 16777216,u / 65536 % 256,u / 256 % 256,u % 256]
noncomputable def wd (d : Nat) (o : String) (u : Int) : List Int:=if o = "be" then (quad u).drop d else ((quad u).drop d).reverse
theorem wd_len {d : Nat} {o : String} {u : Int} : (wd d o u).length ≤ 4:=by
 have : (quad u).length = 4:=rfl
 unfold wd
 split
 ·rw [List.length_drop]; lia
 ·rw [List.length_reverse,List.length_drop]; lia
theorem wds_len {d : Nat} {o : String} : ∀ {l : List Int},(l.flatMap (wd d o)).length ≤ 4 * l.length
 | [] =>Nat.le_refl _
 | a :: r =>by
  have h1:=wds_len (d:=d) (o:=o) (l:=r)
  have h2:=wd_len (d:=d) (o:=o) (u:=a)
  simp only [List.flatMap_cons,List.length_append,List.length_cons]; lia
theorem revB {ks : List Int} (h : ks.length ≤ 1048576) : revV (.bytes ks) = some (.bytes ks.reverse):=by
 show (if ks.length ≤ lid then some (V.bytes ks.reverse) else .none) = _
 exact if_pos h
section
variable {k d : Nat} {xs : List V} {s : Int} {o : String} {fs : List Int} {ex : Gam} {P : Fl → Prop}
theorem wide_step {u : Int} (hd : s = 4 - (d : Int)) (hd4 : d ≤ 4) (hu : 0 ≤ u ∧ u ≤ 1114111) (hl : fs.length ≤ 1000) (hx : List.lookup ("unit" : Str) ex = some (.val (.int u))) (h : ∀ ex',P (.next (("text",.val (.list xs)) :: ("size",.val (.int s)) :: ("order",.val (.str o)) :: ("found",.val (.bytes (fs ++ wd d o u))) :: ex'))) : Out (exs 33 (wt (af tab k)) R61.sc R61.mu (blk R61.body [1,2]) (("text",.val (.list xs)) :: ("size",.val (.int s)) :: ("order",.val (.str o)) :: ("found",.val (.bytes (fs))) :: ex)) P:=by
 have hb : aj "bytes" [.list [.int (u / 16777216),.int (u / 65536 % 256),.int (u / 256 % 256),.int (u % 256)]] = some (.bytes (quad u)):=bytes4 (by lia) (by lia) (by lia) (by lia)
 have e : 4 - s = (d : Int):=by lia
 have hq : (quad u).length ≤ 1048576:=Nat.le_of_ble_eq_true rfl
 have hq2 : ((quad u).drop d).length ≤ 4:=by rw [List.length_drop]; exact Nat.sub_le _ _
 have hq3 : ((quad u).drop d).length ≤ 1048576:=by lia
 have hf : fs.length + ((quad u).drop d).length ≤ 1048576:=by lia
 have hf2 : fs.length + ((quad u).drop d).reverse.length ≤ 1048576:=by rw [List.length_reverse]; lia
 refine shb_law_wide_in ?_
 by_cases hbe : o = "be"
 ·have hbb : (o == "be") = true:=beq_iff_eq.mpr hbe
  unfold wd at h
  rw [if_pos hbe] at h
  simp_arith! [hx,hb,e,ptN (a:=d) (by lia),hq,di,hbb,hf]
  exact h _
 ·unfold wd at h
  rw [if_neg hbe] at h
  simp_arith! [hx,hb,e,ptN (a:=d) (by lia),hq,di,sneF hbe,revB hq3,hf2]
  exact h _
theorem wide_in {us : List Int} (hd : s = 4 - (d : Int)) (hd4 : d ≤ 4) (hu : ∀ u ∈ us,0 ≤ u ∧ u ≤ 1114111) (hl : fs.length + 4 * us.length ≤ 1000) (h : ∀ ex',P (.next ((("text" : Str),AV.val (.list xs)) :: (("size" : Str),AV.val (.int s)) :: (("order" : Str),AV.val (.str o)) :: (("found" : Str),AV.val (.bytes (fs ++ us.flatMap (wd d o)))) :: ex'))) : Out ((bt 33 (wt (af tab k)) R61.sc R61.mu (ar (sAt (blk R61.body [1]) 2)) (blk R61.body [1,2]) (us.map .int) ((("text" : Str),AV.val (.list xs)) :: (("size" : Str),AV.val (.int s)) :: (("order" : Str),AV.val (.str o)) :: (("found" : Str),AV.val (.bytes (fs))) :: ex)).bind fun fl =>flC fl (fun g =>exsK 34 (wt (af tab k)) R61.sc R61.mu g ((blk R61.body [1]).drop 3) some) (fun g =>some (.brk g)) (fun w g =>some (.ret w g))) P:=by
 refine loopP (bA (fun ns g =>∃ gs ex,g = (("text" : Str),AV.val (.list xs)) :: (("size" : Str),AV.val (.int s)) :: (("order" : Str),AV.val (.str o)) :: (("found" : Str),AV.val (.bytes (gs))) :: ex ∧ (∀ u ∈ ns,0 ≤ u ∧ u ≤ 1114111) ∧ gs.length + 4 * ns.length ≤ 1000 ∧ gs ++ ns.flatMap (wd d o) = fs ++ us.flatMap (wd d o)) ?_ ?_ us _ ⟨fs,ex,rfl,hu,hl,rfl⟩)
 ·rintro x r g ⟨gs,ex,hg,h1,h2,h3⟩
  subst hg
  rw [List.length_cons] at h2
  refine ⟨("text",.val (.list xs)) :: ("size",.val (.int s)) :: ("order",.val (.str o)) :: ("found",.val (.bytes (gs))) :: ae "unit" (.val (.int x)) ex,by kernel_rfl,wide_step hd hd4 (h1 x (.head _)) (by lia) lkS fun ex' =>?_⟩
  rw [List.flatMap_cons,← List.append_assoc] at h3
  exact ⟨_,ex',rfl,fun u hu =>h1 u (.tail _ hu),by have:=wd_len (d:=d) (o:=o) (u:=x); rw [List.length_append]; lia,h3⟩
 ·rintro g ⟨gs,ex,hg,h1,h2,h3⟩
  subst hg
  rw [List.flatMap_nil,List.append_nil] at h3
  subst h3
  rw [fN]
  exact outE (sha_law_wide_in rfl) (h ex)
end
noncomputable def ca (s x : Int) : List Int:=if s = 2 then aF x else [x]
theorem uw_rng {s x : Int} (h : Sca x) : ∀ u ∈ ca s x,0 ≤ u ∧ u ≤ 1114111:=by
 intro u hu
 unfold ca at hu
 split at hu
 ·have:=units16_u h u hu; lia
 ·simp only [List.mem_cons,List.not_mem_nil,or_false] at hu; subst hu; exact h.rng
theorem uw_len {s x : Int} : (ca s x).length ≤ 2:=by
 unfold ca
 split
 ·exact units16_len
 ·exact Nat.le_succ 1
noncomputable def dn (s : Int) (d : Nat) (o : String) (l : List Int) : List Int:=l.flatMap fun x =>(ca s x).flatMap (wd d o)
theorem wideM_len {s : Int} {d : Nat} {o : String} : ∀ {l : List Int},(dn s d o l).length ≤ 8 * l.length
 | [] =>Nat.le_refl _
 | a :: r =>by
  have h1:=wideM_len (s:=s) (d:=d) (o:=o) (l:=r)
  have h2:=wds_len (d:=d) (o:=o) (l:=ca s a)
  have h3:=uw_len (s:=s) (x:=a)
  unfold dn at h1 ⊢
  simp only [List.flatMap_cons,List.length_append,List.length_cons]; lia
theorem wideM_cons {s : Int} {d : Nat} {o : String} {x : Int} {l : List Int} : dn s d o (x :: l) = (ca s x).flatMap (wd d o) ++ dn s d o l:=by
 unfold dn; rw [List.flatMap_cons]
theorem gp {k d : Nat} {s : Int} {o : String} {text : List Int} (hd : s = 4 - (d : Int)) (hd4 : d ≤ 4) (hs2 : s = 2 ∨ s = 4) (hl : text.length ≤ 100) (hs : cw text) : (af tab (k + 1)).fn "_law_wide" [.list (text.map .int),.int s,.str o] [] = some (.bytes (dn s d o text)):=by
 have hl' : (text.map V.int).length ≤ 1048576:=by rw [List.length_map]; lia
 have htl:=wideM_len (s:=s) (d:=d) (o:=o) (l:=text)
 refine sh_law_wide (Eq.trans (congrArg (Option.bind · _) (isL hl')) (bH (bA (fun ns g =>∃ fs ex,g = (("text" : Str),AV.val (.list (text.map .int))) :: (("size" : Str),AV.val (.int s)) :: (("order" : Str),AV.val (.str o)) :: (("found" : Str),AV.val (.bytes (fs))) :: ex ∧ cw ns ∧ fs ++ dn s d o ns = dn s d o text) ?_ ?_ text _ ⟨[],[],rfl,hs,rfl⟩)))
 ·rintro x r g ⟨fs,ex,hg,h1,h2⟩
  subst hg
  have hx:=h1.cons.1
  have h3:=uw_len (s:=s) (x:=x)
  simp only [wideM_cons,← List.append_assoc] at h2
  have h4 : fs.length + 4 * (ca s x).length ≤ 1000:=by
   have:=congrArg List.length h2
   simp only [List.length_append,List.length_append] at this; lia
  refine ⟨(("text" : Str),AV.val (.list (text.map .int))) :: (("size" : Str),AV.val (.int s)) :: (("order" : Str),AV.val (.str o)) :: (("found" : Str),AV.val (.bytes (fs))) :: ae ("code" : Str) (.val (.int x)) ex,by kernel_rfl,shb_law_wide ?_⟩
  have e1 : (("code" : Str) == ("units" : Str)) = false:=by kernel_rfl
  have fin : ∀ ex',fu (fun g =>∃ fs ex,g = (("text" : Str),AV.val (.list (text.map .int))) :: (("size" : Str),AV.val (.int s)) :: (("order" : Str),AV.val (.str o)) :: (("found" : Str),AV.val (.bytes (fs))) :: ex ∧ cw r ∧ fs ++ dn s d o r = dn s d o text) (fun fl =>flC fl (fun g =>exsK 38 (wt (af tab k)) R61.sc R61.mu g ((blk R61.body []).drop 2) ak) (fun g =>ak (.brk g)) (fun w g =>ak (.ret w g)) = some (.bytes (dn s d o text))) (.next ((("text" : Str),AV.val (.list (text.map .int))) :: (("size" : Str),AV.val (.int s)) :: (("order" : Str),AV.val (.str o)) :: (("found" : Str),AV.val (.bytes (fs ++ (ca s x).flatMap (wd d o)))) :: ex')):=fun ex' =>⟨_,ex',rfl,h1.cons.2,h2⟩
  have i1 : ∀ v : V,ao (.list [v]) = some [v]:=fun _ =>rfl
  have i2 : ∀ v w : V,ao (.list [v,w]) = some [v,w]:=fun _ _ =>rfl
  rcases hs2 with rfl | rfl
  ·by_cases c : x < 65536
   ·have c' : ¬ 65535 < x:=by lia
    have e : ca 2 x = [x]:=by unfold ca aF; rw [if_pos rfl,if_pos c]
    rw [e] at h4 fin
    simp_arith [e1,c',i1]
    exact wide_in (us:=[x]) hd hd4 (by rw [← e]; exact uw_rng hx) h4 fin
   ·have c' : 65535 < x:=by lia
    have e0 : (x - 65536) % 1024 = x % 1024:=by lia
    have e : ca 2 x = [55296 + (x - 65536) / 1024,56320 + x % 1024]:=by unfold ca aF; rw [if_pos rfl,if_neg c,e0]
    rw [e] at h4 fin
    simp_arith [e1,c',i2]
    exact wide_in (us:=[55296 + (x - 65536) / 1024,56320 + x % 1024]) hd hd4 (by rw [← e]; exact uw_rng hx) h4 fin
  ·have e : ca 4 x = [x]:=by unfold ca; rw [if_neg (by decide)]
   rw [e] at h4 fin
   simp_arith [e1,i1]
   exact wide_in (us:=[x]) hd hd4 (by rw [← e]; exact uw_rng hx) h4 fin
 ·rintro g ⟨fs,ex,hg,h1,h2⟩
  subst hg
  have : dn s d o [] = []:=rfl
  simp only [this,List.append_nil] at h2
  subst h2
  rw [fN]
  exact sha_law_wide rfl
theorem cJ {α β : Type} {f g : α → List β} : ∀ {l : List α},(∀ x ∈ l,f x = g x) → l.flatMap f = l.flatMap g
 | [],_ =>rfl
 | a :: r,h =>by simp only [List.flatMap_cons,List.flatMap_cons,h a (.head _),cJ fun x hx =>h x (.tail _ hx)]
theorem wd_two {o : String} {u : Int} (h : 0 ≤ u ∧ u < 65536) : wd 2 o u = two o u:=by
 have e : u / 256 % 256 = u / 256:=by lia
 unfold wd two quad
 rw [e]; split <;> rfl
theorem wd_four {o : String} {u : Int} (h : 0 ≤ u ∧ u ≤ 1114111) : wd 0 o u = bB o u:=by
 have e : u / 16777216 = 0:=by lia
 have e2 : u / 65536 % 256 = u / 65536:=by lia
 unfold wd bB quad
 rw [e,e2]; split <;> rfl
theorem law_wide2 {k : Nat} {text : List Int} {o : String} (hl : text.length ≤ 100) (hs : cw text) : (af tab (k + 1)).fn "_law_wide" [.list (text.map .int),.int 2,.str o] [] = some (.bytes (bb o text)):=by
 rw [gp (d:=2) (by decide) (by decide) (.inl rfl) hl hs]
 have : dn 2 2 o text = bb o text:=by
  unfold dn bb
  rw [List.flatMap_assoc]
  refine cJ fun x hx =>?_
  unfold ca
  rw [if_pos rfl]
  exact cJ fun u hu =>wd_two (units16_u (hs x hx) u hu)
 rw [this]
theorem law_wide4 {k : Nat} {text : List Int} {o : String} (hl : text.length ≤ 100) (hs : cw text) : (af tab (k + 1)).fn "_law_wide" [.list (text.map .int),.int 4,.str o] [] = some (.bytes (text.flatMap (bB o))):=by
 rw [gp (d:=0) (by decide) (by decide) (.inr rfl) hl hs]
 have : dn 4 0 o text = text.flatMap (bB o):=by
  unfold dn
  refine cJ fun x hx =>?_
  unfold ca
  rw [if_neg (by decide),List.flatMap_cons,List.flatMap_nil,List.append_nil]
  exact wd_four (hs x hx).rng
 rw [this]
noncomputable def cZ : List (List Int × String):=[([0,0,254,255],"utf-32be"),([255,254,0,0],"utf-32le"),([239,187,191],"utf-8"),([254,255],"utf-16be"),([255,254],"utf-16le"),([14,254,255],"scsu"),([251,238,40],"bocu-1"),([132,49,149,51],"gb18030"),([221,115,102,115],"utf-ebcdic"),([43,47,118,56],"utf-7"),([43,47,118,57],"utf-7"),([43,47,118,43],"utf-7"),([43,47,118,47],"utf-7")]
noncomputable def markV (m : List Int × String) : V:=.tup [.bytes m.1,.str m.2]
noncomputable def fstM (ks : List Int) : List (List Int × String) → Option (List Int × String)
 | [] =>.none
 | m :: r =>cond (ks.take m.1.length == m.1) (some m) (fstM ks r)
noncomputable def sniffV : Option (List Int × String) → V
 | some m =>.str m.2
 | .none =>.none
noncomputable def unmV (ks : List Int) : Option (List Int × String) → V
 | some m =>cond (m.2 == "utf-7") (.tup [.str m.2,.bytes ks]) (.tup [.str m.2,.bytes (ks.drop m.1.length)])
 | .none =>.tup [.none,.bytes ks]
section
variable {k : Nat} {ks : List Int}
theorem dN : (af tab (k + 1)).fn "encoding_marks" [] [] = some (.list (cZ.map markV)):=sh_encoding_marks (by kernel_rfl)
theorem marks_short : ∀ m ∈ cZ,m.1.length ≤ 1000:=by decide
theorem dJ (hl : ks.length ≤ 2000) : (af tab (k + 2)).fn "sniffed" [.bytes ks] [] = some (sniffV (fstM ks cZ)):=by
 have hl' : ks.length ≤ 1048576:=by lia
 have hi : ao (.list (cZ.map markV)) = some (cZ.map markV):=by kernel_rfl
 refine sh_sniffed ?_
 simp only [dN,orS,bS,hi]
 refine bH (bA (fun ns g =>∃ ex,g = (("octets" : Str),AV.val (.bytes ks)) :: ex ∧ (∀ m ∈ ns,m.1.length ≤ 1000) ∧ fstM ks ns = fstM ks cZ) ?_ ?_ cZ _ ⟨[],rfl,marks_short,rfl⟩)
 ·intro m r g ⟨ex,hg,hm,h1⟩
  subst hg
  have hml:=hm m (.head _)
  have hml' : m.1.length ≤ 1048576:=by lia
  have e1 : (("mark" : Str) == ("word" : Str)) = false:=by kernel_rfl
  refine ⟨(("octets" : Str),AV.val (.bytes ks)) :: ae ("word" : Str) (.val (.str m.2)) (ae ("mark" : Str) (.val (.bytes m.1)) ex),by kernel_rfl,shb_sniffed ?_⟩
  simp only [← h1,fstM]
  cases hc : ks.take m.1.length == m.1 with
  | true =>simp_arith! [bN,e1,hml',ptN (a:=m.1.length) (Nat.le_trans hml (by decide)),hl',bL,hc]; rfl
  | false =>
   simp_arith! [bN,e1,hml',ptN (a:=m.1.length) (Nat.le_trans hml (by decide)),hl',bL,hc]
   exact ⟨_,rfl,fun x hx =>hm x (.tail _ hx),trivial⟩
 ·intro g ⟨ex,hg,hm,h1⟩
  subst hg
  simp only [fN,← h1]
  exact sha_sniffed rfl
theorem unmarked_eq (hl : ks.length ≤ 2000) : (af tab (k + 2)).fn "unmarked" [.bytes ks] [] = some (unmV ks (fstM ks cZ)):=by
 have hl' : ks.length ≤ 1048576:=by lia
 have hi : ao (.list (cZ.map markV)) = some (cZ.map markV):=by kernel_rfl
 refine sh_unmarked ?_
 simp only [dN,orS,bS,hi]
 refine bH (bA (fun ns g =>∃ ex,g = (("octets" : Str),AV.val (.bytes ks)) :: ex ∧ (∀ m ∈ ns,m.1.length ≤ 1000) ∧ fstM ks ns = fstM ks cZ) ?_ ?_ cZ _ ⟨[],rfl,marks_short,rfl⟩)
 ·intro m r g ⟨ex,hg,hm,h1⟩
  subst hg
  have hml:=hm m (.head _)
  have hml' : m.1.length ≤ 1048576:=by lia
  have e1 : (("mark" : Str) == ("word" : Str)) = false:=by kernel_rfl
  refine ⟨(("octets" : Str),AV.val (.bytes ks)) :: ae ("word" : Str) (.val (.str m.2)) (ae ("mark" : Str) (.val (.bytes m.1)) ex),by kernel_rfl,shb_unmarked ?_⟩
  simp only [← h1,fstM]
  simp_arith [bN,e1,hml',ptN (a:=m.1.length) (Nat.le_trans hml (by decide)),hl',bL]
  cases hc : ks.take m.1.length == m.1 with
  | true =>
   refine cO rfl ?_
   simp_arith [bN,e1,hml',ptN (a:=m.1.length) (Nat.le_trans hml (by decide)),hl',bL]
   cases h7 : m.2 == "utf-7" with
   | true =>simp_arith! [bN,e1,hml',ptN (a:=m.1.length) (Nat.le_trans hml (by decide)),hl',bL,h7]; unfold unmV; simp_arith! [h7]; rfl
   | false =>simp_arith! [bN,e1,hml',ptN (a:=m.1.length) (Nat.le_trans hml (by decide)),hl',bL,di,h7]; unfold unmV; simp_arith! [h7]; rfl
  | false =>
   refine cO' rfl (eO ?_)
   exact ⟨_,rfl,fun x hx =>hm x (.tail _ hx),rfl⟩
 ·intro g ⟨ex,hg,hm,h1⟩
  subst hg
  simp only [fN,← h1]
  exact sha_unmarked rfl
end
section
variable {k : Nat} {r : List Int}
theorem sniffed_16be (hl : r.length ≤ 1000) : (af tab (k + 2)).fn "sniffed" [.bytes (254 :: 255 :: r)] [] = some (.str "utf-16be"):=by
 rw [dJ (by simp only [List.length_cons]; lia)]; rfl
theorem sniffed_16le (hl : r.length ≤ 1000) (hr : ¬ r.take 2 = [0,0]) : (af tab (k + 2)).fn "sniffed" [.bytes (255 :: 254 :: r)] [] = some (.str "utf-16le"):=by
 rw [dJ (by simp only [List.length_cons]; lia)]
 have e : fstM (255 :: 254 :: r) cZ = cond ((255 :: 254 :: r).take 4 == [255,254,0,0]) (some ([255,254,0,0],"utf-32le")) (some ([255,254],"utf-16le")):=rfl
 have e2 : ((255 :: 254 :: r).take 4 == [255,254,0,0]) = false:=beq_eq_false_iff_ne.mpr fun h =>hr (by
  have h : (255 :: 254 :: r.take 2) = [255,254,0,0]:=h
  injection h with _ h; injection h)
 rw [e,e2]; rfl
theorem sniffed_32le (hl : r.length ≤ 1000) : (af tab (k + 2)).fn "sniffed" [.bytes (255 :: 254 :: 0 :: 0 :: r)] [] = some (.str "utf-32le"):=by
 rw [dJ (by simp only [List.length_cons]; lia)]; rfl
theorem sniffed_32be (hl : r.length ≤ 1000) : (af tab (k + 2)).fn "sniffed" [.bytes (0 :: 0 :: 254 :: 255 :: r)] [] = some (.str "utf-32be"):=by
 rw [dJ (by simp only [List.length_cons]; lia)]; rfl
theorem sniffed_8 (hl : r.length ≤ 1000) : (af tab (k + 2)).fn "sniffed" [.bytes (239 :: 187 :: 191 :: r)] [] = some (.str "utf-8"):=by
 rw [dJ (by simp only [List.length_cons]; lia)]; rfl
theorem unmarked_8 (hl : r.length ≤ 1000) : (af tab (k + 2)).fn "unmarked" [.bytes (239 :: 187 :: 191 :: r)] [] = some (.tup [.str "utf-8",.bytes r]):=by
 rw [unmarked_eq (by simp only [List.length_cons]; lia)]; rfl
end
theorem insI_len {a : Int} : ∀ {l : List Int},(insI a l).length = l.length + 1
 | [] =>rfl
 | b :: r =>by
  rw [insI]
  split
  ·rfl
  ·simp only [List.length_cons,insI_len,List.length_cons]
theorem sortI_len : ∀ {l : List Int},(dU l).length = l.length
 | [] =>rfl
 | a :: r =>by simp only [dU,insI_len,sortI_len,List.length_cons]
theorem insI_mem {a x : Int} : ∀ {l : List Int},x ∈ insI a l → x = a ∨ x ∈ l
 | [],h =>by rw [insI] at h; simpa using h
 | b :: r,h =>by
  rw [insI] at h
  split at h
  ·simpa using h
  ·rcases List.mem_cons.mp h with rfl | h
   ·exact .inr (.head _)
   ·rcases insI_mem h with rfl | h
    ·exact .inl rfl
    ·exact .inr (.tail _ h)
theorem sortI_mem {x : Int} : ∀ {l : List Int},x ∈ dU l → x ∈ l
 | [],h =>by cases h
 | a :: r,h =>by
  rw [dU] at h
  rcases insI_mem h with rfl | h
  ·exact .head _
  ·exact .tail _ (sortI_mem h)
noncomputable def lotsI (ks : List Int) : Int → List Int → List (List Int)
 | a,[] =>[cut ks (some a) (some (ks.length : Int))]
 | a,b :: r =>cut ks (some a) (some b) :: lotsI ks b r
theorem lots_len {ks : List Int} : ∀ {ss : List Int} {a : Int},(lotsI ks a ss).length = ss.length + 1
 | [],_ =>rfl
 | b :: r,_ =>by simp only [lotsI,List.length_cons,lots_len,List.length_cons]
theorem lots_flat {ks : List Int} : ∀ {ss : List Int} {a : Int},0 ≤ a → (∀ x ∈ ss,a ≤ x ∧ x ≤ ks.length) → ss.Pairwise (· ≤ ·) → (lotsI ks a ss).flatten = ks.drop a.toNat
 | [],a,h,_,_ =>by
  obtain ⟨n,rfl⟩:=Int.eq_ofNat_of_zero_le h
  simp only [lotsI,eg]
  simp only [List.flatten_cons,List.flatten_nil,List.append_nil,Int.ofNat_eq_natCast,Int.toNat_natCast]
  exact List.take_of_length_le (by rw [List.length_drop]; lia)
 | b :: r,a,h,hb,hp =>by
  have h1:=hb b (.head _)
  have h':=List.pairwise_cons.mp hp
  simp only [lotsI,List.flatten_cons,lots_flat (by lia) (fun x hx =>⟨h'.1 x hx,(hb x (.tail _ hx)).2⟩) h'.2]
  obtain ⟨n,rfl⟩:=Int.eq_ofNat_of_zero_le h
  obtain ⟨m,rfl⟩:=Int.eq_ofNat_of_zero_le (Int.le_trans h h1.1)
  rw [eg]
  simp only [Int.ofNat_eq_natCast,Int.toNat_natCast]
  have e : ks.drop m = (ks.drop n).drop (m - n):=by rw [List.drop_drop]; congr 1; lia
  simp only [e,List.take_append_drop]
theorem lots_range {ks : List Int} : ∀ {ss : List Int} {a : Int},(List.range (ss.length + 1)).map (fun j =>V.bytes (cut ks (some ((a :: (ss ++ [(ks.length : Int)])).getD j 0)) (some ((a :: (ss ++ [(ks.length : Int)])).getD (j + 1) 0)))) = (lotsI ks a ss).map .bytes
 | [],a =>rfl
 | b :: r,a =>by
  rw [List.length_cons,List.range_succ_eq_map,List.map_cons,List.map_map,lotsI,List.map_cons]
  congr 1
  exact lots_range (ks:=ks) (ss:=r) (a:=b)
theorem gn {k : Nat} {ks es : List Int} (hl : ks.length ≤ 1000) (he : es.length ≤ 50) : ∃ lots : List (List Int),(af tab (k + 1)).fn "_law_pieces" [.bytes ks,.list (es.map .int)] [] = some (.list (lots.map .bytes)) ∧ lots.flatten = ks ∧ lots.length = es.length + 1:=by
 have hl' : ks.length ≤ 1048576:=by lia
 have hz : ¬ (ks.length : Int) + 1 = 0:=by lia
 have hz1 : 0 < (ks.length : Int) + 1:=by lia
 let ms:=es.map fun e =>e % ((ks.length : Int) + 1)
 have hml : ms.length = es.length:=List.length_map ..
 have hsl:=sortI_len (l:=ms)
 have hm60 : ms.length ≤ 60:=by lia
 have hsb : ∀ x ∈ dU ms,0 ≤ x ∧ x ≤ ks.length:=by
  intro x hx
  obtain ⟨e,_,rfl⟩:=List.mem_map.mp (sortI_mem hx)
  have:=Int.emod_nonneg e hz
  have:=Int.emod_lt_of_pos e hz1
  lia
 refine ⟨lotsI ks 0 (dU ms),sh_law_pieces ?_,?_,?_⟩
 ·have h1 : (es.map V.int).length ≤ 1048576:=by rw [List.length_map]; lia
  have hc : aR (fun x =>(aj "len" [.bytes ks]).bind fun v =>(ag .Add v (.int 1)).bind fun v =>(ag .Mod x v).bind fun v =>some (some v)) (es.map .int) = some (ms.map .int):=by
   rw [cj (q:=fun e =>V.int (e % ((ks.length : Int) + 1))) es,List.map_map]
   ·rfl
   ·intro e _
    rw [lenB hl',bS,adI,bS,mdI hz1]; rfl
  have hst : aj "sorted" [.list (ms.map .int)] = some (.list ((dU ms).map .int)):=by
   show (gm (ms.map .int)).bind (fun ns =>if ns.length ≤ 60 then some (V.list ((dU ns).map .int)) else .none) = _
   simp only [intsV_map,bS,if_pos hm60]
  simp only [isL h1,bS,if_pos h1,hc,hst]
  generalize dU ms = ss at *
  have hsl' : ss.length ≤ 100:=by lia
  have hps : ([V.int 0] ++ ss.map V.int) ++ [V.int (ks.length : Int)] = (0 :: (ss ++ [(ks.length : Int)])).map V.int:=by simp
  have g1 : [V.int 0].length + (ss.map V.int).length ≤ 1048576:=by simp only [List.length_map,List.length_cons,List.length_nil]; lia
  have g2 : ([V.int 0] ++ ss.map V.int).length + [V.int (ks.length : Int)].length ≤ 1048576:=by simp only [List.length_append,List.length_map]; simp only [List.length_cons,List.length_nil]; lia
  have hpl : (0 :: (ss ++ [(ks.length : Int)])).length = ss.length + 2:=by simp
  have hrg : bM "range" [.int (((0 :: (ss ++ [(ks.length : Int)])).map V.int).length - 1)] = some ((List.range (ss.length + 1)).map (fun j : Nat =>V.int (j : Int))):=by
   simp only [List.length_map,hpl]
   have hk1 : ((ss.length + 2 : Nat) : Int) - 1 ≤ 1048576:=by lia
   have hk2 : small (((ss.length + 2 : Nat) : Int) - 1) = true:=bC (by lia) (by lia)
   simp only [it_range1,hk2,decide_eq_true hk1]
   have : dH 0 (((ss.length + 2 : Nat) : Int) - 1) = (List.range (ss.length + 1)).map (fun j : Nat =>V.int (j : Int)):=by
    unfold dH
    rw [show ((((ss.length + 2 : Nat) : Int) - 1 - 0).toNat) = ss.length + 1 by lia]
    apply List.map_congr_left
    intro j _
    rw [Int.zero_add]
   rw [this]; rfl
  have hpb : ∀ x ∈ (0 :: (ss ++ [(ks.length : Int)])),0 ≤ x ∧ x ≤ ks.length:=by
   intro x hx
   rcases List.mem_cons.mp hx with rfl | hx
   ·lia
   ·rcases List.mem_append.mp hx with hx | hx
    ·exact hsb x hx
    ·rw [List.mem_singleton.mp hx]; lia
  rw [← lots_range]
  simp only [adL g1,bS,lenB hl',adL g2,hps]
  generalize (0 :: (ss ++ [(ks.length : Int)])) = ps at *
  have hpl' : (ps.map V.int).length ≤ 1048576:=by rw [List.length_map]; lia
  have hl3 : ((List.range (ss.length + 1)).map (fun j : Nat =>V.int (j : Int))).length ≤ 1048576:=by simp only [List.length_map,List.length_range]; lia
  have hpg : ∀ j : Nat,j < ps.length → aH (ps.map V.int) (j : Int) = some (V.int (ps.getD j 0)) ∧ (ps.getD j 0).natAbs < 4611686018427387904:=by
   intro j hj
   have e : ps[j]? = some (ps.getD j 0):=by simp only [List.getD_eq_getElem?_getD,List.getElem?_eq_getElem hj]; rfl
   refine ⟨gy (by simp only [List.getElem?_map,e]; rfl),?_⟩
   have:=hpb _ (List.mem_of_getElem? e)
   lia
  simp only [lenL hpl',bS,sbI,hrg,if_pos hl3]
  rw [cj (q:=fun j =>V.bytes (cut ks (some (ps.getD j 0)) (some (ps.getD (j + 1) 0)))) (List.range (ss.length + 1)) ?_]
  ·rfl
  ·intro j hj
   have hj':=List.mem_range.mp hj
   have g1:=hpg j (by lia)
   have g2:=hpg (j + 1) (by lia)
   rw [show ((j + 1 : Nat) : Int) = (j : Int) + 1 by lia] at g2
   simp_arith only [g1.1,g1.2,g2.1,g2.2,hl',hpl']
 ·rw [lots_flat (Int.le_refl 0) hsb (fc _)]; rfl
 ·simp only [lots_len,hsl,hml]
theorem eqVs_refl : ∀ {l : List Int},eqVs (l.map .int) (l.map .int) = some true
 | [] =>rfl
 | a :: r =>by
  simp only [List.map_cons,eqvs_cons,eqVs_refl]
  have : eqI (.int a) (.int a) = some (a == a):=rfl
  simp only [this,beq_self_eq_true]; rfl
theorem fl8_feed {w : List Int} {n : Int} : (fl8 w n).lookup ("feed" : Str) = Option.none:=rfl
theorem fl16_feed {o : V} {st : Bool} {w : List Int} {n : Int} : (fl16 o st w n).lookup ("feed" : Str) = Option.none:=rfl
theorem eqR {l : List Int} : ap .Eq (.list (l.map .int)) (.list (l.map .int)) = some true:=by
 show (if (l.map V.int).length = (l.map V.int).length then eqVs (l.map .int) (l.map .int) else some false) = _
 rw [if_pos rfl,eqVs_refl]
theorem neR {l : List Int} : ap .NotEq (.list (l.map .int)) (.list (l.map .int)) = some false:=by
 show (ap .Eq (.list (l.map .int)) (.list (l.map .int))).map (!·) = _
 rw [eqR]; rfl
theorem run16_sub (o : String) : ∀ (n : Nat) (l : List Int),l.length ≤ n → Oct l → Oct (aD o false l).2
 | _,[],_,_ =>by rw [bn]; intro x hx; cases hx
 | 0,_ :: _,h,_ =>by simp at h
 | n + 1,x :: r,h,ho =>by
  have hne : x :: r ≠ []:=by simp
  generalize x :: r = l at *
  by_cases hk : bP o l = true
  ·rw [bY hne ⟨rfl,hk⟩]; exact ho
  ·have hb:=eB (o:=o) hne
   rw [bi hne (fun q =>hk q.2)]
   exact run16_sub o n _ (dnD hb.1 h) (ho.drop _)
theorem run_sub : ∀ (n : Nat) (l : List Int),l.length ≤ n → Oct l → Oct (run false l).2
 | _,[],_,_ =>by rw [dp]; intro x hx; cases hx
 | 0,_ :: _,h,_ =>by simp at h
 | n + 1,x :: r,h,ho =>by
  have hne : x :: r ≠ []:=by simp
  generalize x :: r = l at *
  by_cases hk : (ai l).2.2 = bu
  ·rw [dw hne ⟨hk,rfl⟩]; exact ho
  ·have hb:=bm hne
   rw [cN hne (fun q =>hk q.1)]
   exact run_sub n _ (dnD hb.1 h) (ho.drop _)
theorem streams_end {k : Nat} {ks c es : List Int} {ls : List V} {f1 f2 : List (Str × V)} {ex : Gam} (hl : ks.length ≤ 100) (ho : Oct ks) : exsK 37 (wt (af tab (k + 3))) R63.sc R63.mu (("octets",.val (.bytes ks)) :: ("ends",.val (.list (es.map .int))) :: ("near",.inst "Utf8Stream" f1) :: ("far",.inst "Utf16Stream" f2) :: ("told",.val (.list ((run true ks).1.map .int))) :: ("units",.val (.list (((aD "be" true ks).1.map aZ).map .int))) :: ("came",.val (.bytes c)) :: ("lots",.val (.list ls)) :: ex) ((blk R63.body []).drop 3) ak = some (.bool true):=by
 have z8:=run_len true _ ks (Nat.le_refl _)
 have z16:=dv "be" true _ ks (Nat.le_refl _)
 have b8 : ((run true ks).1.map V.int).length ≤ 1048576:=by rw [List.length_map]; lia
 have b16 : (((aD "be" true ks).1.map aZ).map V.int).length ≤ 1048576:=by simp only [List.length_map,List.length_map]; lia
 refine sha_streams ?_
 simp only [decode_utf8_replaced_eq (k:=k) (ks:=ks) (by lia) ho,decode_utf16_replaced_eq (k:=k) (o:="be") (ks:=ks) (by lia) ho,orS,bS,lisL b8,lisL b16,neR,cF,eqR]
inductive SI (ks es : List Int) (lots : List (List Int)) (j : Nat) (rest : List (List Int)) (g : Gam) : Prop
 | more (done : List (List Int)) (n m : Int) (ex : Gam) (hr : rest ≠ []) (hg : g = (("octets" : Str),AV.val (.bytes ks)) :: (("ends" : Str),AV.val (.list (es.map .int))) :: (("near" : Str),AV.inst ("Utf8Stream" : Str) (fl8 (run false done.flatten).2 n)) :: (("far" : Str),AV.inst ("Utf16Stream" : Str) (fl16 (.str "be") false (aD "be" false done.flatten).2 m)) :: (("told" : Str),AV.val (.list ((run false done.flatten).1.map .int))) :: (("units" : Str),AV.val (.list (((aD "be" false done.flatten).1.map aZ).map .int))) :: (("came" : Str),AV.val (.bytes done.flatten)) :: (("lots" : Str),AV.val (.list (lots.map .bytes))) :: ex) (h1 : done ++ rest = lots) (h2 : j = done.length) : SI ks es lots j rest g
 | fin (f1 f2 : List (Str × V)) (c : List Int) (ex : Gam) (hr : rest = []) (hg : g = (("octets" : Str),AV.val (.bytes ks)) :: (("ends" : Str),AV.val (.list (es.map .int))) :: (("near" : Str),AV.inst ("Utf8Stream" : Str) f1) :: (("far" : Str),AV.inst ("Utf16Stream" : Str) f2) :: (("told" : Str),AV.val (.list ((run true ks).1.map .int))) :: (("units" : Str),AV.val (.list (((aD "be" true ks).1.map aZ).map .int))) :: (("came" : Str),AV.val (.bytes c)) :: (("lots" : Str),AV.val (.list (lots.map .bytes))) :: ex) : SI ks es lots j rest g
theorem streams_eq {k : Nat} {ks es : List Int} (hl : ks.length ≤ 100) (ho : Oct ks) (he : es.length ≤ 50) : (af tab (k + 4)).fn "_law_streams_right" [.bytes ks,.list (es.map .int)] [] = some (.bool true):=by
 refine bc fun hN =>?_
 obtain ⟨lots,hlots,hflat,hlen⟩:=gn (k:=k + 2) (ks:=ks) (es:=es) (by lia) he
 refine hN ?_; clear hN
 have hll : (lots.map V.bytes).length ≤ 1048576:=by rw [List.length_map]; lia
 refine sh_law_streams_right ?_
 simp only [init8_eq,init16_be,clsC,hlots,orS,bS,loO,if_pos hll]
 refine bH (enum_rule (SI ks es lots) ?_ ?_ lots 0 _ (.more [] 0 0 [] ?_ ?_ rfl rfl))
 ·rintro j x r g (⟨done,n,m,ex,_,hg,h1,h2⟩ | ⟨_,_,_,_,hr,_⟩)
  rotate_left
  ·exact nomatch hr
  subst hg h2
  have hfl : done.flatten ++ (x ++ r.flatten) = ks:=by simp only [← hflat,← h1]; simp
  have e : (done ++ [x]).flatten = done.flatten ++ x:=by simp
  generalize hda : done.flatten = a at *
  have hax : Oct (a ++ x):=fun z hz =>ho z (by simp only [← hfl,← List.append_assoc]; exact List.mem_append_left _ hz)
  have haxl : a.length + x.length ≤ ks.length:=by rw [← hfl]; simp only [List.length_append]; lia
  have hao : Oct a:=fun z hz =>hax z (List.mem_append_left _ hz)
  have hxo : Oct x:=fun z hz =>hax z (List.mem_append_right _ hz)
  have hw8l:=run_len false _ a (Nat.le_refl _)
  have hw16l:=dv "be" false _ a (Nat.le_refl _)
  have hw8o:=run_sub _ a (Nat.le_refl _) hao
  have hw16o:=run16_sub "be" _ a (Nat.le_refl _) hao
  have hlB : (((done.length : Nat) : Int) == ((lots.map V.bytes).length : Int) - 1) = r.isEmpty:=by
   simp only [← h1,List.length_map]
   cases r with
   | nil =>simp
   | cons y r =>simp; lia
  have hlastT : r.isEmpty = true → a ++ x = ks:=by
   intro q; rw [List.isEmpty_iff.mp q] at hfl; simpa using hfl
  have hr0 : r = [] ↔ r.isEmpty = true:=List.isEmpty_iff.symm
  generalize r.isEmpty = last at *
  refine bc fun hN =>?_
  obtain ⟨q8,f8,n',rfl⟩:=feed8_aux (k:=k) (p:=x) (n:=n) (last:=last) (w:=(run false a).2) (by lia) (hw8o.append hxo)
  obtain ⟨q16,f16,m',rfl⟩:=feed16_on (k:=k) (p:=x) (n:=m) (last:=last) (st:=false) (o:="be") (w:=(aD "be" false a).2) (by lia) (hw16o.append hxo) (fun h =>by cases h)
  refine hN ?_; clear hN
  have r8:=run_app last x _ a (Nat.le_refl _)
  have r16:=ge "be" last x _ a (Nat.le_refl _)
  have t8 : (run false a).1.map V.int ++ ((run last ((run false a).2 ++ x)).1).map V.int = ((run last (a ++ x)).1).map V.int:=by simp only [r8,List.map_append]
  have t16 : ((aD "be" false a).1.map aZ).map V.int ++ (((aD "be" last ((aD "be" false a).2 ++ x)).1).map aZ).map V.int = (((aD "be" last (a ++ x)).1).map aZ).map V.int:=by simp only [r16,List.map_append,List.map_append]
  have c8:=law_codes_eq (k:=k) (ks:=a ++ x) (last:=last) (by rw [List.length_append]; lia) hax
  have c16:=law_units_eq (k:=k + 1) (ks:=a ++ x) (last:=last) (by rw [List.length_append]; lia) hax
  have b8 : ((run false a).1.map V.int).length + (((run last ((run false a).2 ++ x)).1).map V.int).length ≤ 1048576:=by
   rw [← List.length_append,t8,List.length_map]
   have:=run_len last _ (a ++ x) (Nat.le_refl _)
   rw [List.length_append] at this; lia
  have b16 : (((aD "be" false a).1.map aZ).map V.int).length + ((((aD "be" last ((aD "be" false a).2 ++ x)).1).map aZ).map V.int).length ≤ 1048576:=by
   rw [← List.length_append,t16,List.length_map,List.length_map]
   have:=dv "be" last _ (a ++ x) (Nat.le_refl _)
   rw [List.length_append] at this; lia
  have bc : a.length + x.length ≤ 1048576:=by lia
  have i1 : (("piece" : Str) == ("is_last" : Str)) = false:=by kernel_rfl
  have i2 : (("k" : Str) == ("piece" : Str)) = false:=by kernel_rfl
  have ft : ((Option.none : Option V).isNone = true) = True:=by simp
  refine ⟨_,by kernel_rfl,shb_streams (ks:=ks) (c:=a) (xs:=es.map .int) (ts:=(run false a).1.map .int) (us:=((aD "be" false a).1.map aZ).map .int) (ls:=lots.map .bytes) (f1:=fl8 (run false a).2 n) (f2:=fl16 (.str "be") false (aD "be" false a).2 m) (ex:=ae ("piece" : Str) (AV.val (.bytes x)) (ae ("k" : Str) (AV.val (.int done.length)) ex)) ?_⟩
  simp_arith only [hll,bc,hlB,i1,i2,fl8_feed,fl16_feed,ft,f8,f16,t8,t16,b8,b16,c8,c16,neR]
  cases last with
  | true =>exact .fin _ _ _ _ (hr0.mpr rfl) (by rw [← hlastT rfl,r8,r16])
  | false =>exact .more (done ++ [x]) n' m' _ (fun h =>nomatch hr0.mp h) (by rw [e,r8,r16]; rfl) (by rw [List.append_assoc]; exact h1) (by rw [lenS])
 ·rintro j g (⟨done,n,m,ex,hr,hg,h1,h2⟩ | ⟨f1,f2,c,ex,_,hg⟩)
  ·exact absurd rfl hr
  subst hg
  rw [fN]
  exact streams_end hl ho
 ·intro h; rw [h] at hlen; simp at hlen
 ·rw [List.flatten_nil,dp,bn]; rfl
inductive StS (o : String) (a : List Int) (fl : List (Str × V)) (home : List Int) : Prop
 | early (n : Int) (h : a.length < 2) (e : fl = fl16 .none true a n) (hh : home = []) : StS o a fl home
 | late (n : Int) (w : List Int) (h : 2 ≤ a.length) (e : fl = fl16 (.str o) true w n) (hr : aD o false (a.drop 2) = (home.map some,w)) : StS o a fl home
inductive StR (k : Nat) (o : String) (a x home text : List Int) (fl : List (Str × V)) (last : Bool) : Prop
 | mk (zs : List Int) (fl' : List (Str × V)) (e : (af tab (k + 3)).mth "Utf16Stream" "feed" fl [.bytes x,.bool last] = some (.list (zs.map .int),fl')) (h1 : last = false → StS o (a ++ x) fl' (home ++ zs)) (h2 : last = true → home ++ zs = text) (h3 : home.length + zs.length ≤ 1000) : StR k o a x home text fl last
theorem StS.feed {o : String} {a : List Int} {fl : List (Str × V)} {home : List Int} (h : StS o a fl home) : fl.lookup ("feed" : Str) = Option.none:=by
 rcases h with ⟨n,_,rfl,_⟩ | ⟨n,w,_,rfl,_⟩ <;> rfl
theorem two_mark {o : String} (ho : o = "be" ∨ o = "le") : ∃ p q : Int,two o 65279 = [p,q] ∧ ∀ (k : Nat) (r : List Int),r.length ≤ 1000 → (af tab (k + 1)).fn "utf16_start" [.bytes (p :: q :: r),.none] [] = some (.tup [.str o,.int 2]):=by
 rcases ho with rfl | rfl
 ·exact ⟨254,255,rfl,fun k r h =>utf16_start_be h⟩
 ·exact ⟨255,254,rfl,fun k r h =>utf16_start_le h⟩
theorem some_pre {l1 l2 : List (Option Int)} : ∀ {text : List Int},text.map some = l1 ++ l2 → ∃ cs : List Int,l1 = cs.map some:=by
 induction l1 with
 | nil =>intro _ _; exact ⟨[],rfl⟩
 | cons c r ih =>
  intro text h
  cases text with
  | nil =>simp at h
  | cons x t =>
   simp only [List.map_cons,List.cons_append,List.cons.injEq] at h
   obtain ⟨cs,e⟩:=ih h.2
   exact ⟨x :: cs,by simp only [← h.1,e]; rfl⟩
theorem got_some : ∀ {l : List Int},(l.map some).map aZ = l
 | [] =>rfl
 | a :: r =>by simp only [List.map_cons,List.map_cons,got_some]; rfl
theorem st_step {k : Nat} {o : String} {a x s home text : List Int} {fl : List (Str × V)} {last : Bool} (ho : o = "be" ∨ o = "le") (hs : cw text) (hW : a ++ (x ++ s) = two o 65279 ++ bb o text) (hWl : (two o 65279 ++ bb o text).length ≤ 1000) (hWo : Oct (two o 65279 ++ bb o text)) (hst : StS o a fl home) (hlast : last = true → s = []) :
  StR k o a x home text fl last:=by
 refine bc fun hN =>?_
 obtain ⟨p,q,hpq,hstart⟩:=two_mark ho
 refine hN ?_; clear hN
 have hax : Oct (a ++ x):=fun z hz =>hWo z (by rw [← hW,← List.append_assoc]; exact List.mem_append_left _ hz)
 have hll : a.length + x.length + s.length ≤ 1000:=by rw [← hW] at hWl; simp only [List.length_append] at hWl; rw [Nat.add_assoc]; exact hWl
 have hao : Oct a:=fun z hz =>hax z (List.mem_append_left _ hz)
 have hxo : Oct x:=fun z hz =>hax z (List.mem_append_right _ hz)
 have hW2 : (a ++ x) ++ s = [p,q] ++ bb o text:=by simp only [List.append_assoc,hW,hpq]
 have h2W : 2 ≤ (a ++ x).length + s.length:=by have:=congrArg List.length hW2; rw [List.length_append] at this; rw [this,List.length_append]; exact Nat.le_add_right [p,q].length _
 -- what stands behind the mark
 have hd : 2 ≤ (a ++ x).length → (a ++ x) = p :: q :: (a ++ x).drop 2 ∧ bb o text = (a ++ x).drop 2 ++ s:=by
  intro h2
  rcases hc : a ++ x with _ | ⟨u,_ | ⟨v,r⟩⟩
  ·rw [hc] at h2; simp at h2
  ·rw [hc] at h2; simp at h2
  ·rw [hc] at hW2
   simp only [List.cons_append,List.nil_append,List.cons.injEq] at hW2
   refine bc fun hN =>?_
   obtain ⟨rfl,rfl,e⟩:=hW2
   refine hN ?_; clear hN
   exact ⟨rfl,e.symm⟩
 have hsome : 2 ≤ (a ++ x).length → ∃ cs : List Int,(aD o last ((a ++ x).drop 2)).1 = cs.map some ∧ (last = true → cs = text):=by
  intro h2
  have hr:=run16_enc (o:=o) hs
  rw [(hd h2).2] at hr
  cases last with
  | true =>
   rw [hlast rfl,List.append_nil] at hr
   exact ⟨text,by rw [hr],fun _ =>rfl⟩
  | false =>
   rw [ge o true s _ _ (Nat.le_refl _)] at hr
   refine bc fun hN =>?_
   obtain ⟨cs,e⟩:=some_pre (congrArg Prod.fst hr).symm
   refine hN ?_; clear hN
   exact ⟨cs,e,fun h =>by cases h⟩
 have hlen2:=dv o last _ ((a ++ x).drop 2) (Nat.le_refl _)
 rw [List.length_drop,List.length_append] at hlen2
 have hax2 : a.length + x.length ≤ 1000:=Nat.le_trans (Nat.le_add_right _ _) hll
 have hcl : ∀ cs : List Int,(aD o last ((a ++ x).drop 2)).1 = cs.map some → cs.length ≤ 1000:=fun cs e =>by
  rw [e,List.length_map] at hlen2
  exact Nat.le_trans (Nat.le_add_right _ _) (Nat.le_trans hlen2 (Nat.le_trans (Nat.sub_le _ _) hax2))
 rcases hst with ⟨n,h1,rfl,rfl⟩ | ⟨n,w,h1,rfl,hw⟩
 ·by_cases h2 : 2 ≤ (a ++ x).length
  ·refine bc fun hN =>?_
   obtain ⟨cs,hcs,hct⟩:=hsome h2
   have hf:=feed16_first (k:=k) (o:=o) (last:=last) (st:=true) (n:=n) (w:=a) (p:=x) hax2 hax h2 (fun j =>by
    rw [(hd h2).1]
    exact hstart j _ (by rw [List.length_drop,List.length_append]; exact Nat.le_trans (Nat.sub_le _ _) hax2)) (fun _ c hc =>by rw [hcs] at hc; obtain ⟨y,_,rfl⟩:=List.mem_map.mp hc; simp)
   obtain ⟨z,hz,n',rfl⟩:=hf
   refine hN ?_; clear hN
   simp only [hcs,got_some] at hz
   refine ⟨cs,_,hz,?_,fun h =>by rw [List.nil_append]; exact hct h,?_⟩
   ·intro hl
    subst hl
    exact .late n' _ h2 rfl (by simp only [List.nil_append,← hcs])
   ·rw [List.length_nil,Nat.zero_add]; exact hcl cs hcs
  ·have hlf : last = false:=by
    cases last with
    | false =>rfl
    | true =>rw [hlast rfl] at h2W; exact absurd h2W h2
   subst hlf
   refine bc fun hN =>?_
   obtain ⟨z,hz,n',rfl⟩:=feed16_wait (k:=k + 2) (w:=a) (p:=x) (n:=n) (by rw [← List.length_append]; exact Nat.not_le.mp h2)
   refine hN ?_; clear hN
   refine ⟨[],_,hz,fun _ =>.early n' (Nat.not_le.mp h2) rfl rfl,fun h =>(by cases h),by simp⟩
 ·have h2 : 2 ≤ (a ++ x).length:=by rw [List.length_append]; exact Nat.le_trans h1 (Nat.le_add_right _ _)
  refine bc fun hN =>?_
  obtain ⟨cs,hcs,hct⟩:=hsome h2
  refine hN ?_; clear hN
  have hc1:=hcl cs hcs
  have hda : (a ++ x).drop 2 = a.drop 2 ++ x:=List.drop_append_of_le_length h1
  have hra:=ge o last x _ (a.drop 2) (Nat.le_refl _)
  rw [hw] at hra
  rw [hda,hra] at hcs
  simp only at hcs
  have hwl:=dv o false _ (a.drop 2) (Nat.le_refl _)
  simp only [hw,List.length_drop] at hwl
  simp only [List.length_map] at hwl
  have hwo : Oct w:=by have:=run16_sub o _ (a.drop 2) (Nat.le_refl _) (hao.drop 2); rw [hw] at this; exact this
  obtain ⟨zs,hzs⟩ : ∃ zs : List Int,(aD o last (w ++ x)).1 = zs.map some:=by
   have e : home.map some ++ (aD o last (w ++ x)).1 = cs.map some:=hcs
   have:=congrArg (List.drop home.length) e
   rw [List.drop_left' (by simp)] at this
   exact ⟨cs.drop home.length,by simp only [this,List.map_drop]⟩
  have hcz : home ++ zs = cs:=by
   rw [hzs,← List.map_append] at hcs
   exact List.map_inj_right (fun _ _ h =>oj h) |>.mp hcs
  refine bc fun hN =>?_
  obtain ⟨z,hz,n',rfl⟩:=feed16_on (k:=k) (o:=o) (last:=last) (st:=true) (n:=n) (w:=w) (p:=x) (Nat.le_trans (Nat.add_le_add_right (Nat.le_trans (Nat.le_add_left _ _) (Nat.le_trans hwl (Nat.sub_le _ _))) _) hax2) (hwo.append hxo) (fun _ c hc =>by rw [hzs] at hc; obtain ⟨y,_,rfl⟩:=List.mem_map.mp hc; simp)
  refine hN ?_; clear hN
  rw [hzs,got_some] at hz
  refine ⟨zs,_,hz,?_,fun h =>by rw [hcz]; exact hct h,?_⟩
  ·intro hl
   subst hl
   refine .late n' _ h2 rfl ?_
   rw [hda,hra,hzs,List.map_append]
  ·rw [← List.length_append,hcz]; exact hc1
theorem bytess_map {f : Int → List Int} : ∀ {l : List Int},eH (l.map fun c =>V.bytes (f c)) = some (l.map f)
 | [] =>rfl
 | a :: r =>by simp only [List.map_cons,eH,bytess_map]; rfl
theorem join_eq {f : Int → List Int} {l : List Int} (h1 : (l.flatMap f).length ≤ 1048576) (h2 : l.length ≤ 1048576) : joinV (l.map fun c =>V.bytes (f c)) = some (.bytes (l.flatMap f)):=by
 unfold joinV
 rw [bytess_map]
 simp only [Option.bind_some,List.length_map]
 rw [← List.flatMap_def]
 exact if_pos ⟨h1,h2⟩
theorem tupR {s : Str} {ks : List Int} : ap .Eq (.tup [.str s,.bytes ks]) (.tup [.str s,.bytes ks]) = some true:=by
 show some ((s == s) && ((ks == ks) && true)) = _
 rw [beq_self_eq_true,beq_self_eq_true]; rfl
theorem tupB {xs : List V} : aj "tuple" [.tup xs] = some (.tup xs):=by kernel_rfl
theorem neBR {ks : List Int} : ap .NotEq (.bytes ks) (.bytes ks) = some false:=by
 show some (!(ks == ks)) = _
 rw [beq_self_eq_true]; rfl
theorem pt1 : ay (some (.int 1)) = some (some 1):=rfl
theorem eq10 {x : Int} : ap .Eq (.list [.int x]) (.list [.int 0]) = some (x == 0):=by
 show some ((x == 0) && true) = _
 rw [Bool.and_true]
theorem eq00 : ap .Eq (.list []) (.list [.int 0]) = some false:=by kernel_rfl
section
variable {k : Nat} {text es : List Int} {lots : List (List Int)} {o : String} {f1 : List (Str × V)} {ex : Gam}
theorem eZ {w w32 : String} (hl : text.length ≤ 100) (hs : cw text) (s1 : (af tab (k + 5)).fn "sniffed" [.bytes (two o 65279 ++ bb o text)] [] = some (.str w)) (s3 : (af tab (k + 5)).fn "sniffed" [.bytes (bB o 65279 ++ text.flatMap (bB o))] [] = some (.str w32)) (a2 : ag .Add (.str "utf-32") (.str o) = some (.str w32)) (n3 : ap .NotEq (.list [.str w,.str "utf-8",.str w32]) (.list [.str w,.str "utf-8",.str w32]) = some false)
  (hw : (o == "le") = false ∧ ag .Add (.str "utf-16") (.str o) = some (.str w) ∨ (o == "le") = true ∧ (∃ b,ap .Eq (.list ((text.map V.int).take 1)) (.list [.int 0]) = some b ∧ (b = true ∧ w = "utf-32le" ∨ b = false ∧ ag .Add (.str "utf-16") (.str o) = some (.str w)))) :
  exsK 34 (wt (af tab (k + 5))) R64.sc R64.mu (("text",.val (.list (text.map .int))) :: ("order",.val (.str o)) :: ("ends",.val (.list (es.map .int))) :: ("octets",.val (.bytes (text.flatMap bX))) :: ("there",.val (.bytes (two o 65279 ++ bb o text))) :: ("home",.val (.list (text.map .int))) :: ("stream",.inst "Utf16Stream" f1) :: ("lots",.val (.list (lots.map .bytes))) :: ex) ((blk R64.body []).drop 6) ak = some (.bool true):=by
 have htl : (text.map V.int).length ≤ 1048576:=by rw [List.length_map]; lia
 have h8l:=fx (l:=text)
 have h8m : ([239,187,191] : List Int).length + (text.flatMap bX).length ≤ 1048576:=by simp only [List.length_cons,List.length_nil]; lia
 have s2 : (af tab (k + 5)).fn "sniffed" [.bytes (239 :: 187 :: 191 :: text.flatMap bX)] [] = some (.str "utf-8"):=sniffed_8 (k:=k + 3) (by lia)
 have s4 : (af tab (k + 5)).fn "unmarked" [.bytes (239 :: 187 :: 191 :: text.flatMap bX)] [] = some (.tup [.str "utf-8",.bytes (text.flatMap bX)]):=unmarked_8 (k:=k + 3) (by lia)
 have e32:=fi (k:=k + 1) (o:=o) hl hs
 have e32m:=encode_utf32_mark (k:=k + 1) (o:=o) hl hs
 have d32:=decode_utf32_eq (k:=k + 1) (o:=o) hl hs
 have e1 : (("word" : Str) == ("marked" : Str)) = false:=by kernel_rfl
 have hk : cut (text.map V.int) Option.none (some 1) = (text.map V.int).take 1:=bL (b:=1)
 refine sha_round ?_
 simp_arith [neR,e32,d32,htl]
 refine' Eq.trans ?hA ?hB
 case hA =>
  have hsl : aq (.list (text.map V.int)) Option.none (some 1) = some (.list ((text.map V.int).take 1)):=(slL htl).trans (by rw [hk])
  rcases hw with ⟨ho,a1⟩ | ⟨ho,b,hb,⟨hb1,hw2⟩ | ⟨hb1,a1⟩⟩
  ·exact cE' ((ofString_beq _ _).trans ho) (bE a1 rfl)
  ·exact cE ((ofString_beq _ _).trans ho) (bE pt1 (bE hsl (bE hb (cE hb1 (by rw [hw2])))))
  ·exact cE ((ofString_beq _ _).trans ho) (bE pt1 (bE hsl (bE hb (cE' hb1 (bE a1 rfl)))))
 case hB =>
  simp_arith [htl,h8m,List.cons_append,List.nil_append,s1,e1,s2,e32m,s3,a2,n3,bN,s4,tupB,tupR]; try simp_arith! [h8m,List.cons_append,List.nil_append,s1,e1,s2,e32m,s3,a2,n3,bN,s4,tupB,tupR]
theorem round_end (hl : text.length ≤ 100) (hs : cw text) (ho : o = "be" ∨ o = "le") :
  exsK 34 (wt (af tab (k + 5))) R64.sc R64.mu (("text",.val (.list (text.map .int))) :: ("order",.val (.str o)) :: ("ends",.val (.list (es.map .int))) :: ("octets",.val (.bytes (text.flatMap bX))) :: ("there",.val (.bytes (two o 65279 ++ bb o text))) :: ("home",.val (.list (text.map .int))) :: ("stream",.inst "Utf16Stream" f1) :: ("lots",.val (.list (lots.map .bytes))) :: ex) ((blk R64.body []).drop 6) ak = some (.bool true):=by
 have el:=enc16_len (o:=o) (l:=text)
 have fl:=fY (o:=o) (l:=text)
 rcases ho with rfl | rfl
 ·have s1 : (af tab (k + 5)).fn "sniffed" [.bytes (two "be" 65279 ++ bb "be" text)] [] = some (.str "utf-16be"):=sniffed_16be (k:=k + 3) (r:=bb "be" text) (by lia)
  have s3 : (af tab (k + 5)).fn "sniffed" [.bytes (bB "be" 65279 ++ text.flatMap (bB "be"))] [] = some (.str "utf-32be"):=sniffed_32be (k:=k + 3) (r:=text.flatMap (bB "be")) (by lia)
  exact eZ hl hs s1 s3 (by kernel_rfl) (by kernel_rfl) (.inl ⟨rfl,by kernel_rfl⟩)
 ·have s3 : (af tab (k + 5)).fn "sniffed" [.bytes (bB "le" 65279 ++ text.flatMap (bB "le"))] [] = some (.str "utf-32le"):=sniffed_32le (k:=k + 3) (r:=text.flatMap (bB "le")) (by lia)
  rcases htx : text with _ | ⟨x,r⟩
  ·have s1 : (af tab (k + 5)).fn "sniffed" [.bytes (two "le" 65279 ++ bb "le" text)] [] = some (.str "utf-16le"):=by rw [htx]; exact sniffed_16le (k:=k + 3) (r:=[]) (by decide) (by decide)
   rw [← htx]
   exact eZ hl hs s1 s3 (by kernel_rfl) (by kernel_rfl) (.inr ⟨rfl,false,by rw [htx]; exact eq00,.inr ⟨rfl,by kernel_rfl⟩⟩)
  ·have hx:=hs x (by rw [htx]; exact .head _)
   unfold Sca at hx
   have ht1 : (text.map V.int).take 1 = [V.int x]:=by rw [htx]; rfl
   by_cases hx0 : x = 0
   ·subst hx0
    have hen : bb "le" text = 0 :: 0 :: bb "le" r:=by rw [htx]; rfl
    have s1 : (af tab (k + 5)).fn "sniffed" [.bytes (two "le" 65279 ++ bb "le" text)] [] = some (.str "utf-32le"):=by
     rw [hen] at el ⊢
     exact sniffed_32le (k:=k + 3) (by simp only [List.length_cons] at el; lia)
    rw [← htx]
    exact eZ hl hs s1 s3 (by kernel_rfl) (by kernel_rfl) (.inr ⟨rfl,true,by rw [ht1]; exact eq10,.inl ⟨rfl,rfl⟩⟩)
   ·have s1 : (af tab (k + 5)).fn "sniffed" [.bytes (two "le" 65279 ++ bb "le" text)] [] = some (.str "utf-16le"):=by
     refine sniffed_16le (k:=k + 3) (r:=bb "le" text) (by lia) ?_
     simp only [htx,enc16_cons]
     unfold aF
     split
     ·intro q
      have q : [x % 256,x / 256] = [0,0]:=q
      injection q with q1 q; injection q with q2 q
      lia
     ·intro q
      have q : [(55296 + (x - 65536) / 1024) % 256,(55296 + (x - 65536) / 1024) / 256] = [0,0]:=q
      injection q with q1 q; injection q with q2 q
      lia
    rw [← htx]
    exact eZ hl hs s1 s3 (by kernel_rfl) (by kernel_rfl) (.inr ⟨rfl,false,by rw [ht1,eq10,bneF hx0],.inr ⟨rfl,by kernel_rfl⟩⟩)
inductive RI (o : String) (text es : List Int) (lots : List (List Int)) (j : Nat) (rest : List (List Int)) (g : Gam) : Prop
 | mk (done : List (List Int)) (fl : List (Str × V)) (home : List Int) (ex : Gam) (hg : g = (("text" : Str),AV.val (.list (text.map .int))) :: (("order" : Str),AV.val (.str o)) :: (("ends" : Str),AV.val (.list (es.map .int))) :: (("octets" : Str),AV.val (.bytes (text.flatMap bX))) :: (("there" : Str),AV.val (.bytes (two o 65279 ++ bb o text))) :: (("home" : Str),AV.val (.list (home.map .int))) :: (("stream" : Str),AV.inst ("Utf16Stream" : Str) fl) :: (("lots" : Str),AV.val (.list (lots.map .bytes))) :: ex) (h1 : done ++ rest = lots) (h2 : j = done.length) (h3 : rest ≠ [] → StS o done.flatten fl home) (h4 : rest = [] → home = text) : RI o text es lots j rest g
theorem round_eq (hl : text.length ≤ 100) (hs : cw text) (ho : o = "be" ∨ o = "le") (he : es.length ≤ 50) : (af tab (k + 6)).fn "_law_round_right" [.list (text.map .int),.str o,.list (es.map .int)] [] = some (.bool true):=by
 have hWl : (two o 65279 ++ bb o text).length ≤ 1000:=by
  have:=enc16_len (o:=o) (l:=text)
  have h2 : (two o 65279).length = 2:=by unfold two; split <;> rfl
  rw [List.length_append]; lia
 have hWo : Oct (two o 65279 ++ bb o text):=by
  refine Oct.append ?_ (enc16_oct hs)
  have:=two_oct (o:=o) (l:=[65279]) (by simp)
  simpa using this
 refine bc fun hN =>?_
 obtain ⟨lots,hlots,hflat,hlen⟩:=gn (k:=k + 4) (ks:=two o 65279 ++ bb o text) (es:=es) hWl he
 refine hN ?_; clear hN
 have hll : (lots.map V.bytes).length ≤ 1048576:=by rw [List.length_map]; lia
 have htl : (text.map V.int).length ≤ 1048576:=by rw [List.length_map]; lia
 have h8l:=fx (l:=text)
 have h8l' : (text.flatMap bX).length ≤ 1048576:=by lia
 have hi16 : (af tab (k + 5)).cls "Utf16Stream" [] = some (fl16 .none true [] 0):=init16_eq (k:=k + 4)
 have hcw : aR (fun x =>(orO ((af tab (k + 5)).fn ("_law_written" : Str) [x] []) (aj ("_law_written" : Str) [x])).bind fun v =>some (some v)) (text.map .int) = some (text.map fun c =>V.bytes (bX c)) :=
  cj text fun c hc =>by rw [law_written_eq (k:=k + 4) (hs c hc).rng.1 (hs c hc).rng.2]; rfl
 refine sh_law_round_right ?_
 simp only [encode_utf8_eq (k:=k + 2) hl hs,orS,bS,isL htl,if_pos htl,hcw,loO,join_eq h8l' (show text.length ≤ 1048576 by lia),neBR,cF,decode_utf8_eq (k:=k + 2) hl hs,lisL htl,neR,encode_utf16_eq (k:=k) (o:=o) hl hs,law_wide2 (k:=k + 4) (o:=o) hl hs,fi (k:=k + 1) (o:=o) hl hs,law_wide4 (k:=k + 4) (o:=o) hl hs,encode_utf16_mark (k:=k) (o:=o) hl hs,hi16,clsC,hlots,if_pos hll]
 refine bH (enum_rule (RI o text es lots) ?_ ?_ lots 0 _ ⟨[],_,[],[],rfl,rfl,rfl,fun _ =>.early 0 (by decide) rfl rfl,fun h =>?_⟩)
 ·rintro j x r g ⟨done,fl,home,ex,hg,h1,h2,h10,_⟩
  have hst:=h10 (by simp)
  subst hg h2
  have hW : done.flatten ++ (x ++ r.flatten) = two o 65279 ++ bb o text:=by simp only [← hflat,← h1]; simp
  have hlB : (((done.length : Nat) : Int) == ((lots.map V.bytes).length : Int) - 1) = r.isEmpty:=by
   simp only [← h1,List.length_map]
   cases r with
   | nil =>simp
   | cons y r =>simp; lia
  refine bc fun hN =>?_
  obtain ⟨zs,fl',hz,hz1,hz2,hz3⟩:=st_step (k:=k + 2) (last:=r.isEmpty) ho hs hW hWl hWo hst (fun q =>by rw [List.isEmpty_iff.mp q]; rfl)
  refine hN ?_; clear hN
  have hb : (home.map V.int).length + (zs.map V.int).length ≤ 1048576:=by simp only [List.length_map,List.length_map]; lia
  have i2 : (("k" : Str) == ("piece" : Str)) = false:=by kernel_rfl
  have ft : ((Option.none : Option V).isNone = true) = True:=by simp
  refine ⟨_,by kernel_rfl,shb_round (o:=Str.ofString o) (ks:=text.flatMap bX) (t:=two o 65279 ++ bb o text) (xs:=text.map .int) (es:=es.map .int) (hs:=home.map .int) (ls:=lots.map .bytes) (f1:=fl) (ex:=ae ("piece" : Str) (AV.val (.bytes x)) (ae ("k" : Str) (AV.val (.int done.length)) ex)) ?_⟩
  simp_arith only [hll,hlB,i2,hst.feed,ft,hz,hb]
  refine ⟨done ++ [x],_,home ++ zs,_,by rw [List.map_append],by rw [List.append_assoc]; exact h1,by rw [lenS],?_,?_⟩
  ·intro hr
   have e : (done ++ [x]).flatten = done.flatten ++ x:=by simp
   rw [e]
   exact hz1 (by cases r with | nil =>exact absurd rfl hr | cons _ _ =>rfl)
  ·intro hr
   exact hz2 (by rw [hr]; rfl)
 ·rintro j g ⟨done,fl,home,ex,hg,h1,h2,_,h10⟩
  have e:=h10 rfl
  subst hg e
  rw [fN]
  exact round_end hl hs ho
 ·rw [h] at hlen; simp at hlen
end
noncomputable def octs : List Int:=[65,127,128,143,144,159,160,191,192,194,223,224,225,237,239,240,241,244,245,255,216,220,254,0]
theorem octs_at {i : Int} (h0 : 0 ≤ i) (h1 : i < 24) : aH octs i = some (octs.getD i.toNat 0) ∧ 0 ≤ octs.getD i.toNat 0 ∧ octs.getD i.toNat 0 < 256:=by
 obtain ⟨n,rfl⟩:=Int.eq_ofNat_of_zero_le h0
 have hn : n < 24:=by lia
 have e : octs[n]? = some (octs.getD n 0):=by rw [List.getD_eq_getElem?_getD,List.getElem?_eq_getElem (show n < octs.length from hn)]; rfl
 refine ⟨gy e,?_⟩
 have hall : ∀ x ∈ octs,0 ≤ x ∧ x < 256:=by decide
 exact hall _ (List.mem_of_getElem? e)
noncomputable def pick (v : Int) : Int:=if v / 256 % 2 = 0 then v % 256 else octs.getD (v / 512 % 24).toNat 0
theorem pick_rng {v : Int} : 0 ≤ pick v ∧ pick v < 256:=by
 unfold pick
 split
 ·lia
 ·exact (octs_at (i:=v / 512 % 24) (by lia) (by lia)).2
theorem law_tail {k : Nat} {cs : List Int} {f : Int} (hcl : cs.length ≤ 11) : ((ay (some (.int 1))).bind fun p1649 =>(ay (some (.int 4))).bind fun p1650 =>(aq (.list (cs.map .int)) p1649 p1650).bind fun v1651 =>(ao v1651).bind fun xs1652 =>if xs1652.length ≤ lid then (aR (fun x1653 =>(ag .FloorDiv x1653 (.int 7)).bind fun v1654 =>some (some v1654)) xs1652).bind fun v1655 =>(ag .Add (.list v1655) (.list [.int 1,.int 2])).bind fun v1656 =>(ay (some (.int 1))).bind fun p1657 =>(aq (.list (cs.map .int)) p1657 Option.none).bind fun v1658 =>(ao v1658).bind fun xs1659 =>if xs1659.length ≤ lid then (aR (fun x1660 =>(ag .FloorDiv x1660 (.int 256)).bind fun v1661 =>(ag .Mod v1661 (.int 2)).bind fun v1662 =>(ap .Eq v1662 (.int 0)).bind fun b1663 =>cond b1663 ((ag .Mod x1660 (.int 256)).bind fun v1664 =>some (some v1664)) ((ag .FloorDiv x1660 (.int 512)).bind fun v1665 =>(ag .Mod v1665 (.int 24)).bind fun v1666 =>(al (.bytes [65,127,128,143,144,159,160,191,192,194,223,224,225,237,239,240,241,244,245,255,216,220,254,0]) v1666).bind fun v1667 =>some (some v1667))) xs1659).bind fun v1668 =>(aj "bytes" [.list v1668]).bind fun v1669 =>(ag .Mod (.int f) (.int 4)).bind fun v1670 =>(ag .Add (.int 1) v1670).bind fun v1671 =>(ay (some v1671)).bind fun p1672 =>(aq v1656 Option.none p1672).bind fun v1673 =>(orO ((af tab (k + 6)).fn "_law_streams_right" [v1669,v1673] []) (aj "_law_streams_right" [v1669,v1673])).bind fun v1674 =>(V.tru v1674).bind fun b1675 =>cond (!b1675) (some (.bool false)) ((orO ((af tab (k + 6)).fn "_law_codes" [v1669,.bool true] []) (aj "_law_codes" [v1669,.bool true])).bind fun v1676 =>(ag .FloorDiv (.int f) (.int 4)).bind fun v1677 =>(ag .Mod v1677 (.int 2)).bind fun v1678 =>(ap .Eq v1678 (.int 0)).bind fun b1679 =>cond b1679 ((ag .FloorDiv (.int f) (.int 8)).bind fun v1680 =>(ag .Mod v1680 (.int 4)).bind fun v1681 =>(ay (some v1681)).bind fun p1682 =>(aq v1656 Option.none p1682).bind fun v1683 =>(orO ((af tab (k + 6)).fn "_law_round_right" [v1676,.str "be",v1683] []) (aj "_law_round_right" [v1676,.str "be",v1683])).bind fun v1684 =>some v1684) ((ag .FloorDiv (.int f) (.int 8)).bind fun v1685 =>(ag .Mod v1685 (.int 4)).bind fun v1686 =>(ay (some v1686)).bind fun p1687 =>(aq v1656 Option.none p1687).bind fun v1688 =>(orO ((af tab (k + 6)).fn "_law_round_right" [v1676,.str "le",v1688] []) (aj "_law_round_right" [v1676,.str "le",v1688])).bind fun v1689 =>some v1689)) else Option.none else Option.none) = some (.bool true):=by
 have hcl' : (cs.map V.int).length ≤ 1048576:=by rw [List.length_map]; lia
 have hrl : (cs.drop 1).length ≤ 10:=by rw [List.length_drop]; lia
 have hk1 : cut (cs.map V.int) (some 1) Option.none = (cs.drop 1).map V.int:=by rw [List.map_drop]; exact di (a:=1)
 have hk2 : cut (cs.map V.int) (some 1) (some 4) = ((cs.drop 1).take 3).map V.int:=by simp only [List.map_take,List.map_drop]; exact eg (a:=1) (b:=4)
 generalize cs.drop 1 = rs at *
 have h3l : (rs.take 3).length ≤ 3:=by rw [List.length_take]; lia
 generalize rs.take 3 = e3 at *
 have hrl' : (rs.map V.int).length ≤ 1048576:=by rw [List.length_map]; lia
 have h3l' : (e3.map V.int).length ≤ 1048576:=by rw [List.length_map]; lia
 have hes : e3.map (fun v =>V.int (v / 7)) ++ [V.int 1,V.int 2] = (e3.map (· / 7) ++ [1,2]).map V.int:=by simp only [List.map_append,List.map_map]; rfl
 have h3l2 : (e3.map (fun v =>V.int (v / 7))).length + [V.int 1,V.int 2].length ≤ 1048576:=by rw [List.length_map]; simp only [List.length_cons,List.length_nil]; lia
 have hel : (e3.map (· / 7) ++ [1,2]).length ≤ 5:=by simp only [List.length_append,List.length_map]; simp only [List.length_cons,List.length_nil]; lia
 have hc1 : aR (fun x =>(ag .FloorDiv x (.int 7)).bind fun v =>some (some v)) (e3.map .int) = some (e3.map fun v =>V.int (v / 7)):=cj e3 fun v _ =>by rw [d7]; rfl
 have hc2 : aR (fun x1660 =>(ag .FloorDiv x1660 (.int 256)).bind fun v1661 =>(ag .Mod v1661 (.int 2)).bind fun v1662 =>(ap .Eq v1662 (.int 0)).bind fun b1663 =>cond b1663 ((ag .Mod x1660 (.int 256)).bind fun v1664 =>some (some v1664)) ((ag .FloorDiv x1660 (.int 512)).bind fun v1665 =>(ag .Mod v1665 (.int 24)).bind fun v1666 =>(al (.bytes [65,127,128,143,144,159,160,191,192,194,223,224,225,237,239,240,241,244,245,255,216,220,254,0]) v1666).bind fun v1667 =>some (some v1667))) (rs.map .int) = some (rs.map fun v =>V.int (pick v)):=by
  refine cj rs fun v _ =>?_
  have ho : al (.bytes [65,127,128,143,144,159,160,191,192,194,223,224,225,237,239,240,241,244,245,255,216,220,254,0]) (.int (v / 512 % 24)) = some (.int (octs.getD (v / 512 % 24).toNat 0)):=by
   rw [itB (by decide)]
   exact congrArg (Option.map V.int) (octs_at (i:=v / 512 % 24) (Int.emod_nonneg _ (by decide)) (Int.emod_lt_of_pos _ (by decide))).1
  unfold pick
  by_cases c : v / 256 % 2 = 0
  ·have cb : (v / 256 % 2 == 0) = true:=beq_iff_eq.mpr c
   simp_arith [cb]; rw [if_pos c]
  ·simp_arith [bneF c,ho]; rw [if_neg c]
 have hos : rs.map (fun v =>V.int (pick v)) = (rs.map pick).map V.int:=by rw [List.map_map]; rfl
 have hol : (rs.map pick).length ≤ 10:=by rw [List.length_map]; exact hrl
 have hoo : Oct (rs.map pick):=by
  intro x hx
  obtain ⟨v,_,rfl⟩:=List.mem_map.mp hx
  exact pick_rng
 simp only [pt1,pt4,bS,slL hcl',hk1,hk2,isL h3l',if_pos h3l',hc1,adL h3l2,hes,isL hrl',if_pos hrl',hc2,hos]
 generalize e3.map (· / 7) ++ [1,2] = es at *
 generalize rs.map pick = os at *
 have hc : ∀ z : Int,0 ≤ z → cut (es.map V.int) Option.none (some z) = (es.take z.toNat).map V.int:=by
  intro z hz
  obtain ⟨n,rfl⟩:=Int.eq_ofNat_of_zero_le hz
  simp only [bL,Int.toNat_natCast,List.map_take]
 have hel' : (es.map V.int).length ≤ 1048576:=by rw [List.length_map]; lia
 have hs1 : (af tab (k + 6)).fn "_law_streams_right" [.bytes os,.list ((es.take (1 + f % 4).toNat).map .int)] [] = some (.bool true):=streams_eq (k:=k + 2) (by lia) hoo (by rw [List.length_take]; lia)
 have hcd : (af tab (k + 6)).fn "_law_codes" [.bytes os,.bool true] [] = some (.list ((run true os).1.map .int)):=law_codes_eq (k:=k + 3) (by lia) hoo
 have htl:=run_len true _ os (Nat.le_refl _)
 have hr : ∀ o : String,o = "be" ∨ o = "le" → (af tab (k + 6)).fn "_law_round_right" [.list ((run true os).1.map .int),.str o,.list ((es.take (f / 8 % 4).toNat).map .int)] [] = some (.bool true):=fun o ho =>round_eq (k:=k) (by lia) (run_sca true _ os (Nat.le_refl _) hoo) ho (by rw [List.length_take]; lia)
 have N1 : ay (some (.int (1 + f % 4))) = some (some (1 + f % 4)):=ptS (by lia)
 have N2 : ay (some (.int (f / 8 % 4))) = some (some (f / 8 % 4)):=ptS (by lia)
 have hb:=byL (show os.length ≤ 1048576 by lia) hoo
 have c1:=hc (1 + f % 4) (by lia)
 have c2:=hc (f / 8 % 4) (by lia)
 simp_arith [hb,N1,hel',c1,hs1,hcd,N2,c2,hr "be" (.inl rfl),hr "le" (.inr rfl)]
 cases f / 4 % 2 == 0
 ·simp_arith only [N2,hel',c2,hr "be" (.inl rfl),hr "le" (.inr rfl)]
 ·simp_arith only [N2,hel',c2,hr "be" (.inl rfl),hr "le" (.inr rfl)]
theorem law_eq {k : Nat} {ns : List Int} (hn : ns.length ≤ 63) : (af tab (k + 7)).fn "law" [.list (ns.map .int)] [] = some (.bool true):=by
 have hnl : (ns.map V.int).length ≤ 1048576:=by rw [List.length_map]; lia
 have hct : cut (ns.map V.int) Option.none (some 11) = (ns.take 11).map V.int:=by rw [List.map_take]; exact bL (b:=11)
 have hcl : (ns.take 11).length ≤ 11:=by rw [List.length_take]; lia
 have p11 : ay (some (.int 11)) = some (some 11):=rfl
 refine sh_law ?_
 generalize ns.take 11 = cs at *
 have hcl' : (cs.map V.int).length ≤ 1048576:=by rw [List.length_map]; lia
 have hci : aR (fun x =>(aj "int" [x]).bind fun v =>some (some v)) (cs.map .int) = some (cs.map V.int):=cj cs fun v _ =>rfl
 simp only [p11,bS,slL hnl,hct,isL hcl',if_pos hcl',hci,neE]
 cases cs with
 | nil =>rw [show (!((([] : List Int)).map V.int).isEmpty) = false from rfl,cF]; exact law_tail (k:=k) (cs:=[]) (f:=0) hcl
 | cons c r =>
  have i0 : al (.list ((c :: r).map .int)) (.int 0) = some (.int c):=by rw [itL hcl']; exact gy (k:=0) rfl
  simp only [show (!((c :: r).map V.int).isEmpty) = true from rfl,cT,i0,bS]
  exact law_tail (k:=k) (cs:=c :: r) (f:=c) hcl
end Mine
section
open PySem PySem.W PyProof.Rows PySem.Calls PySem.SeqAt
local macro_rules | `(tactic| k_qdec) =>`(tactic| decide +kernel)
set_option maxRecDepth 100000 in
set_option maxHeartbeats 8000000 in
theorem Mine.law_ok : PySem.Challenge.rw_nt0019_01.wellSaid = true:=by
 unfold OpenLaw.wellSaid OpenRow.wellSaid OpenRow.partSaid looksOpen
 repeat' with_reducible refine look_both ?_ ?_
 all_goals decide +kernel
set_option maxRecDepth 100000 in
set_option maxHeartbeats 8000000 in
theorem Mine.holds_of (PL : Mine.Plain) : PySem.Challenge.rw_nt0019_01.Holds:=by
 w_on
 refine holds_law Mine.law_ok fun said =>?_
 refine holds_open (q:=Mine.vw) (loose:=Mine.loose) (Xt:=fun s =>xlAt Mine.vw [] s && recOk [] s) (XP:=XL Mine.vw []) (Yf:=(kHook Mine.Kd Mine.Ka (fun _ =>by kernel_rfl)).obs) (Ya:=(kHook Mine.Kd Mine.Ka (fun _ =>by kernel_rfl)).val) (YP:=(kHook Mine.Kd Mine.Ka (fun _ =>by kernel_rfl)).says) (N:=20000) Mine.left (kHook Mine.Kd Mine.Ka (fun _ =>by kernel_rfl)).of (kHook Mine.Kd Mine.Ka (fun _ =>by kernel_rfl)).keeps (fun s e =>xl_of s (Bool.and_eq_true_iff.mp e).1) XL.keeps (by rfl) (by rfl) (by rfl) (fun s e =>recFacts_of (Bool.and_eq_true_iff.mp e).2) (by rfl) (by first | assumption | decide +kernel) (by decide +kernel) ⟨rfl,rfl,rfl,rfl,rfl,by decide +kernel⟩ ?hw ?hc
 case hw =>w_witness2
 case hc =>
  intro w s₀ s₁ mg mb G Y fa o pm cd doc dV kV ho hd hcd hD hmg hg args vals as hpre hlay hrd hwl hlo
  have KX:=kIn_of Y
  k_behind G ho hd hcd hD hmg hpre hlay hrd hwl hlo cd
  all_goals try k_fold
  rename_i hL ra w1 r0 hI hr hcond hcond2 K0 h₁ F N0
  rename_i T B TE TW a1 o1 M a2 a3 ns hs hlay0 hL1 hr1 hl2 as1 as2 ad us as3
  have hn : ns.length ≤ 63:=by have:=hcond; omega
  rename_i X V GL
  refine Mine.law_walk PL KX (topRead_of T) hL hI hn F (fun h t k =>?_)
  refine ⟨.inl ⟨.bool true,.bool true,[],rfl,fun _ =>?h1,.bool true,?h2,fun _ =>?h3⟩,k,rfl,?h4⟩
  case h1 =>rfl
  case h2 =>first | rfl | wrow_post
  case h3 =>exact ⟨.nil,nofun⟩
  case h4 =>assumption
end
section
namespace Mine
theorem holds_all : PySem.Challenge.rw_nt0019_01.Holds:=holds_of fun _ h =>law_eq (k:=0) h
end Mine
end
theorem PySem.Challenge.cw_nt0019_01_holds : PySem.Challenge.rw_nt0019_01.Holds := by
 exact Mine.holds_all
