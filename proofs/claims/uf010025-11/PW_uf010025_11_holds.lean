import PyProof.Rows.All
import OpenK.KLine
import KE.KEqDict
import PyProof.CompFree
import PyProof.Cells
import PyProof.DictKinds
import PyProof.Calls
import PyProof.Rows.Tup
import PyProof.Rules2
import PyProof.Rules3
import PyProof.CallRoads
import PyProof.CallType
import PyProof.EvalArms
import PyProof.Raises
import PyProof.Rows.StrTemp
import PyProof.Rows.TupSub
import PyProof.RulesRaise
import PyProof.ForAny
import PyProof.WalksMore
import PyProof.StrWalks
import PyProof.DictWalks
import PyProof.MakeMany
import PyProof.PureInt
import PyProof.NoPylong
import PyProof.Rows.RuleB_floordiv
import PyProof.Rows.RuleB_mod
import PyProof.Rows.StrRules
import PyProof.FString5
import PyProof.ListIndex
import PyProof.ListIndexNeg
import PyProof.SliceList
import PyProof.SliceStr2
import PyProof.StrCalls2
import PyProof.ConsumeWalk
import PyProof.WalkInts
import PyProof.IsiPairs
import PyProof.IsiHeapPairs
import PyProof.CallStr
import PyProof.P3Eq
import PyProof.EqLayable
import PyProof.Methods
import PyProof.SeqRoads
import PyProof.SliceSyntax
import PyProof.Rows.SeqMore
import PyProof.IsiNone
import PyProof.StrBlock
import PyProof.RangeFor
import PyProof.Rows.Range3
import PyProof.Rows.Chain
import OpenK.KCall
import PyProof.StrBlockI
import PyProof.StrBlockL
import PyProof.DictRoads
import PyProof.DictCalls
import PyProof.MeetsDictList
import PyProof.MeetsDict
import PyProof.Rows.ListAppend
import PyProof.MeetsIn
import PyProof.FactsAll.list_0
import PyProof.DictTruth
import PyProof.TupleIter
import PyProof.RulesAssignMore
import KE.KDictLaws
import OpenK.KCls
import OpenK.KMake
import OpenK.KWalk
import PyProof.AssignAttr
import KE.KDictSum
import PyProof.Rows.SortStr
import PyProof.Rows.SortWalk
import PyProof.ListCopy
import PyProof.Conv_int_bool
import PyProof.ListMulAny
import PyProof.ListMulRoad
import PyProof.AutoSeq1
import PyProof.WalksEnum
import PyProof.DictDisplay
import PyProof.DictStraight
import PyProof.Rows.StrInSeq3
import PyProof.AttrMissHeap
import KE.KDictOf
import PyProof.MeetsSeq
import PyProof.Draws
import PyProof.DictIter
import PyProof.DictUpdate
import PyProof.NeKinds
import PyProof.DictList
import KE.KItem
import PyProof.Rows.ChunkEnd
import KE.KRevIter
import PyProof.Rows.SeqIn
import PyProof.ZipIter
import PyProof.EqKinds
import PyProof.IsiTupleAll
import PyProof.Rows.TupMore
import PyProof.StationsW
import PyProof.Rows.Own
import PyProof.RangeIter
import PyProof.Rows.MatchSeqLen
import KE.KIsAll
import KE.KTryMore
import PyProof.ExcArgsOwn
import PyProof.RulesAs
import PyProof.Rows.StrNews
import KE.KIntText
import PyProof.Rows.StrSplitCount
import PyProof.Rows.SetFrom
import OpenK.KOwn
import KE.IntTextLaws
import Lean
import PySem.Challenge.RW_uf010025_11
set_option autoImplicit false
set_option linter.all false
set_option Elab.async false
set_option genSizeOf false
set_option bootstrap.genMatcherCode false
set_option tactic.hygienic false
set_option maxRecDepth 100000
set_option compiler.extract_closed false
set_option maxHeartbeats 8000000
namespace Mine
section
open PySem PySem.W PyProof.Rows
namespace Tp
noncomputable def alt:List Obj→List Obj
  |[]=>[]
  |[a]=>[a]
  |a::_::r=>a::alt r
noncomputable def ofL:Nat→List Obj→BT
  |0,_=> .nil
  |_+1,[]=> .nil
  |n+1,a::r=> .node a (ofL n (alt r)) (ofL n (alt r.tail))
noncomputable def life:Life:={}
noncomputable def drawn:Drawn:={}
noncomputable def vs(s:String)(t:Nat):Value:= .str (Str.ofString s) t
noncomputable def vi(k:Int):Value:= .int k 0
noncomputable def de(P:Params)(k:String)(t:Nat)(v:Value):DictEntry:={hash:=PyData.keyHash P (Str.ofString k),key:= .str (Str.ofString k) t,val:=v}
noncomputable def bp:Obj:={cls:= .type "builtin_function_or_method",data:=Data.fields #[.builtin "type.__prepare__",.type "type"]}
noncomputable def tp:Obj:={cls:= .type "tuple",data:=Data.seq #[]}
noncomputable def nf:Obj:={cls:= .none,data:=Data.fields #[]}
noncomputable def nl(l:List Value):Obj:={cls:= .none,data:=Data.fields l.toArray}
noncomputable def di(l:List DictEntry)(k:Nat):Obj:={cls:= .type "dict",data:=Data.dict l.toArray k}
noncomputable def co(a:String)(t1:Nat)(b:String)(t2 t3 t4:Nat)(l:List Value):Obj:={cls:= .type "code",data:=Data.fields ([vs a t1,vs b t2,vs "/claim/cut.py" t3]++(l++[vs "/claim/cut.py" t4])).toArray}
noncomputable def fm(a b c:Nat)(v:Value):Obj:={cls:= .type "frame",slots:= #[some (.ref a),some (.ref b),some (.ref c),none,some v,none,some (.ref 0)]}
noncomputable def tu(l:List Value):Obj:={cls:= .type "tuple",data:=Data.seq l.toArray}
noncomputable def ca(a b:String)(t l n u c:Nat):Obj:=co a t b (t+1) (t+2) (u+1) [vi l,vi n,vi 0,vi 0,vi 3,.ref (c-5),.bool true,vi 181,.ref (c-4),.none,.ref (c-3),.ref (c-2),.ref (c-1),vi u,vi l]
noncomputable def cb(a b:String)(t l n u c:Nat):Obj:=co a t b (t+1) (t+2) (u+1) [vi l,vi n,vi 0,vi 0,vi 3,.ref (c-3),.bool true,vi 181,.ref (c-2),.none,.none,.none,.ref (c-1),vi u,vi l]
noncomputable def sv(q:String)(m:Value)(c:Nat)(s:Stmt):FuncData×List Stmt:=Stmt.casesOn (motive_2:=fun _=>FuncData×List Stmt) s (fun n a b _ _ _ sc _ _ _=>({name:=n,qualname:=Str.ofString q,params:=a,body:= .stmts b,scope:=sc,globals:=3,closure:=[],defaults:= .none,kwdefaults:= .none,pyModule:=m,code:= .ref c},b)) (fun _ _ _ _ _ _ _ _ _ _=>default) (fun _ _ _ b _ _ _ _ _ _ _=>(default,b)) (fun _ _=>default) (fun _ _=>default) (fun _ _ _=>default) (fun _ _ _ _ _ _ _=>default) (fun _ _ _ _=>default) (fun _ _ _ _ _=>default) (fun _ _ _ _ _=>default) (fun _ _ _ _ _=>default) (fun _ _ _ _=>default) (fun _ _ _ _=>default) (fun _ _ _=>default) (fun _ _ _=>default) (fun _ _ _=>default) (fun _ _ _=>default) (fun _ _ _ _ _=>default) (fun _ _ _ _ _=>default) (fun _ _ _=>default) (fun _ _=>default) (fun _ _ _ _=>default) (fun _ _=>default) (fun _ _=>default) (fun _ _=>default) (fun _=>default) (fun _=>default) (fun _=>default)
noncomputable def fu(i:Nat)(j:Option Nat)(q:String)(m:Value)(c:Nat):Obj:={cls:= .type "function",data:= .func (match j with
  |none=>(sv q m c ((PySem.Challenge.pw_uf010025_11.main.body)[i]?.getD (.Pass ⟨0,0,0,0⟩))).1
  |some j=>(sv q m c ((sv q m c ((PySem.Challenge.pw_uf010025_11.main.body)[i]?.getD (.Pass ⟨0,0,0,0⟩))).2[j]?.getD (.Pass ⟨0,0,0,0⟩))).1)}
noncomputable def q1:Value:=vs "pickfloor.stretches" 319
noncomputable def q2:Value:=vs "pickfloor.picks" 356
noncomputable def q3:Value:=vs "pickfloor.reasons" 378
noncomputable def q4:Value:=vs "pickfloor.settling" 416
noncomputable def q5:Value:=vs "pickfloor.shop" 469
noncomputable def q6:Value:=vs "pickfloor.desk" 567
noncomputable def q7:Value:=vs "law_uf010025_11" 689
noncomputable def K(P:Params):W.Frag:=[
  (2,{cls:= .none,data:=Data.dict #[]}),
  (3,di [(de P "__name__" 165 (vs "law_uf010025_11" 689)),(de P "__doc__" 166 .none),(de P "__package__" 167 .none),(de P "__loader__" 168 (.builtin "__main__.__loader__#opaque")),(de P "__spec__" 169 .none),(de P "__annotations__" 170 (.ref 6)),(de P "__builtins__" 171 (.ref 4)),(de P "__file__" 173 (vs "/claim/cut.py" 172)),(de P "__cached__" 174 .none),(de P "PickError" 206 (.ref 24)),(de P "BadWare" 222 (.ref 37)),(de P "BadMake" 238 (.ref 49)),(de P "BadNeed" 254 (.ref 61)),(de P "Twice" 270 (.ref 73)),(de P "Full" 286 (.ref 85)),(de P "NoMake" 302 (.ref 97)),(de P "BadWish" 318 (.ref 109)),(de P "LETTERS" 322 (vs "abcdefghijklmnopqrstuvwxyz" 321)),(de P "MOST_LETTERS" 324 (.int 8 323)),(de P "MOST_MAKE" 326 (.int 999 325)),(de P "is_ware" 332 (.ref 116)),(de P "is_make" 339 (.ref 123)),(de P "is_need" 346 (.ref 130)),(de P "within" 355 (.ref 137)),(de P "MOST_WISHES" 359 (.int 8 358)),(de P "need_wish" 365 (.ref 142)),(de P "agenda_of" 377 (.ref 149)),(de P "is_number" 387 (.ref 156)),(de P "is_granted" 396 (.ref 163)),(de P "stretch_of" 409 (.ref 170)),(de P "left_by" 415 (.ref 175)),(de P "sources_for" 423 (.ref 180)),(de P "clash" 436 (.ref 187)),(de P "outside" 452 (.ref 194)),(de P "settled" 458 (.ref 199)),(de P "settle" 468 (.ref 206)),(de P "MOST_WARES" 472 (.int 12 471)),(de P "MOST_MAKES" 474 (.int 8 473)),(de P "MOST_NEEDS" 476 (.int 6 475)),(de P "need_needs" 486 (.ref 213)),(de P "Shop" 566 (.ref 272)),(de P "FIGURES" 570 (vs "0123456789" 569)),(de P "make_of" 576 (.ref 281)),(de P "need_of" 585 (.ref 288)),(de P "Desk" 688 (.ref 364)),(de P "_law_mixed" 700 (.ref 375)),(de P "_law_names" 706 (.ref 380)),(de P "_law_shop" 716 (.ref 387)),(de P "_law_needs" 728 (.ref 394)),(de P "_law_text" 734 (.ref 399)),(de P "_law_odd_line" 743 (.ref 406)),(de P "_law_put" 749 (.ref 411)),(de P "_law_take" 758 (.ref 418)),(de P "_law_settled" 764 (.ref 423)),(de P "_law_copy" 770 (.ref 428)),(de P "_law_like" 780 (.ref 435)),(de P "_law_said" 795 (.ref 442)),(de P "_law_ahead_lines" 801 (.ref 447)),(de P "_law_looked" 815 (.ref 454)),(de P "law" 821 (.ref 459))] 60),
  (15,tu [.type "ValueError"]),
  (22,tp),
  (23,di [(de P "__module__" 196 (vs "pickfloor.errors" 187)),(de P "__firstlineno__" 200 (.int 2 199)),(de P "__static_attributes__" 201 (.ref 22)),(de P "__weakref__" 203 (.ref 25)),(de P "__doc__" 204 .none)] 3),
  (24,{cls:= .type "type",data:=Data.cls {name:=Str.ofString "PickError",bases:=[.type "ValueError"],mro:=[.ref 24,.type "ValueError",.type "Exception",.type "BaseException",.type "object"],ns:=23,qualname:=Str.ofString "PickError",subclasses:=[.ref 37,.ref 49,.ref 61,.ref 73,.ref 85,.ref 97,.ref 109]},slots:= #[some (.ref 15),none,some (vs "PickError" 189),some (vs "PickError" 197),some (.builtin "ValueError.__new__"),some (.bool true)]}),
  (25,{cls:= .type "getset_descriptor",data:=Data.fields #[vs "__weakref__" 202,.ref 24,.builtin "ExceptionGroup.__weakref__",.none]}),
  (28,tu [.ref 24]),
  (35,tp),
  (36,di [(de P "__module__" 214 (vs "pickfloor.errors" 187)),(de P "__firstlineno__" 218 (.int 4 217)),(de P "__static_attributes__" 219 (.ref 35)),(de P "__doc__" 220 .none)] 2),
  (37,{cls:= .type "type",data:=Data.cls {name:=Str.ofString "BadWare",bases:=[.ref 24],mro:=[.ref 37,.ref 24,.type "ValueError",.type "Exception",.type "BaseException",.type "object"],ns:=36,qualname:=Str.ofString "BadWare"},slots:= #[some (.ref 28),none,some (vs "BadWare" 207),some (vs "BadWare" 215),some (.builtin "ValueError.__new__"),some (.bool true)]}),
  (40,tu [.ref 24]),
  (47,tp),
  (48,di [(de P "__module__" 230 (vs "pickfloor.errors" 187)),(de P "__firstlineno__" 234 (.int 6 233)),(de P "__static_attributes__" 235 (.ref 47)),(de P "__doc__" 236 .none)] 2),
  (49,{cls:= .type "type",data:=Data.cls {name:=Str.ofString "BadMake",bases:=[.ref 24],mro:=[.ref 49,.ref 24,.type "ValueError",.type "Exception",.type "BaseException",.type "object"],ns:=48,qualname:=Str.ofString "BadMake"},slots:= #[some (.ref 40),none,some (vs "BadMake" 223),some (vs "BadMake" 231),some (.builtin "ValueError.__new__"),some (.bool true)]}),
  (52,tu [.ref 24]),
  (59,tp),
  (60,di [(de P "__module__" 246 (vs "pickfloor.errors" 187)),(de P "__firstlineno__" 250 (.int 8 249)),(de P "__static_attributes__" 251 (.ref 59)),(de P "__doc__" 252 .none)] 2),
  (61,{cls:= .type "type",data:=Data.cls {name:=Str.ofString "BadNeed",bases:=[.ref 24],mro:=[.ref 61,.ref 24,.type "ValueError",.type "Exception",.type "BaseException",.type "object"],ns:=60,qualname:=Str.ofString "BadNeed"},slots:= #[some (.ref 52),none,some (vs "BadNeed" 239),some (vs "BadNeed" 247),some (.builtin "ValueError.__new__"),some (.bool true)]}),
  (64,tu [.ref 24]),
  (71,tp),
  (72,di [(de P "__module__" 262 (vs "pickfloor.errors" 187)),(de P "__firstlineno__" 266 (.int 10 265)),(de P "__static_attributes__" 267 (.ref 71)),(de P "__doc__" 268 .none)] 2),
  (73,{cls:= .type "type",data:=Data.cls {name:=Str.ofString "Twice",bases:=[.ref 24],mro:=[.ref 73,.ref 24,.type "ValueError",.type "Exception",.type "BaseException",.type "object"],ns:=72,qualname:=Str.ofString "Twice"},slots:= #[some (.ref 64),none,some (vs "Twice" 255),some (vs "Twice" 263),some (.builtin "ValueError.__new__"),some (.bool true)]}),
  (76,tu [.ref 24]),
  (83,tp),
  (84,di [(de P "__module__" 278 (vs "pickfloor.errors" 187)),(de P "__firstlineno__" 282 (.int 12 281)),(de P "__static_attributes__" 283 (.ref 83)),(de P "__doc__" 284 .none)] 2),
  (85,{cls:= .type "type",data:=Data.cls {name:=Str.ofString "Full",bases:=[.ref 24],mro:=[.ref 85,.ref 24,.type "ValueError",.type "Exception",.type "BaseException",.type "object"],ns:=84,qualname:=Str.ofString "Full"},slots:= #[some (.ref 76),none,some (vs "Full" 271),some (vs "Full" 279),some (.builtin "ValueError.__new__"),some (.bool true)]}),
  (88,tu [.ref 24]),
  (95,tp),
  (96,di [(de P "__module__" 294 (vs "pickfloor.errors" 187)),(de P "__firstlineno__" 298 (.int 14 297)),(de P "__static_attributes__" 299 (.ref 95)),(de P "__doc__" 300 .none)] 2),
  (97,{cls:= .type "type",data:=Data.cls {name:=Str.ofString "NoMake",bases:=[.ref 24],mro:=[.ref 97,.ref 24,.type "ValueError",.type "Exception",.type "BaseException",.type "object"],ns:=96,qualname:=Str.ofString "NoMake"},slots:= #[some (.ref 88),none,some (vs "NoMake" 287),some (vs "NoMake" 295),some (.builtin "ValueError.__new__"),some (.bool true)]}),
  (100,tu [.ref 24]),
  (107,tp),
  (108,di [(de P "__module__" 310 (vs "pickfloor.errors" 187)),(de P "__firstlineno__" 314 (.int 16 313)),(de P "__static_attributes__" 315 (.ref 107)),(de P "__doc__" 316 .none)] 2),
  (109,{cls:= .type "type",data:=Data.cls {name:=Str.ofString "BadWish",bases:=[.ref 24],mro:=[.ref 109,.ref 24,.type "ValueError",.type "Exception",.type "BaseException",.type "object"],ns:=108,qualname:=Str.ofString "BadWish"},slots:= #[some (.ref 100),none,some (vs "BadWish" 303),some (vs "BadWish" 311),some (.builtin "ValueError.__new__"),some (.bool true)]}),
  (112,tp),
  (115,cb "is_ware" "is_ware" 327 22 1 330 115),
  (116,fu 13 none "is_ware" q1 115),
  (117,tp),
  (119,tu [vs "thing" 336]),
  (120,tp),
  (122,ca "is_make" "is_make" 333 26 1 337 122),
  (123,fu 14 none "is_make" q1 122),
  (124,tp),
  (126,tu [vs "thing" 343]),
  (127,tp),
  (129,ca "is_need" "is_need" 340 28 1 344 129),
  (130,fu 15 none "is_need" q1 129),
  (131,tp),
  (133,tu [vs "make" 350,vs "low" 351,vs "high" 352]),
  (134,tp),
  (136,ca "within" "within" 347 32 3 353 136),
  (137,fu 16 none "within" q1 136),
  (138,tp),
  (141,cb "need_wish" "need_wish" 360 36 1 363 141),
  (142,fu 19 none "need_wish" q2 141),
  (143,tp),
  (145,tu [vs "shop" 369,vs "wish" 370,vs "pick" 371,vs "found" 372,vs "need" 373,vs "at" 374]),
  (146,tp),
  (148,ca "agenda_of" "agenda_of" 366 39 3 375 148),
  (149,fu 20 none "agenda_of" q2 148),
  (150,tp),
  (152,tu [vs "thing" 383,vs "many" 384]),
  (153,tp),
  (155,ca "is_number" "is_number" 380 53 2 385 155),
  (156,fu 22 none "is_number" q3 155),
  (157,tp),
  (159,tu [vs "granted" 391,vs "ware" 392,vs "make" 393]),
  (160,tp),
  (162,ca "is_granted" "is_granted" 388 55 3 394 162),
  (163,fu 23 none "is_granted" q3 162),
  (164,tp),
  (166,tu [vs "shop" 400,vs "wish" 401,vs "granted" 402,vs "ware" 403,vs "source" 404,vs "need" 405,vs "needs" 406]),
  (167,tp),
  (169,ca "stretch_of" "stretch_of" 397 57 5 407 169),
  (170,fu 24 none "stretch_of" q3 169),
  (171,tp),
  (174,cb "left_by" "left_by" 410 72 3 413 174),
  (175,fu 25 none "left_by" q3 174),
  (176,tp),
  (179,cb "sources_for" "sources_for" 418 79 4 421 179),
  (180,fu 27 none "sources_for" q4 179),
  (181,tp),
  (183,tu [vs "shop" 427,vs "pairs" 428,vs "picked" 429,vs "ware" 430,vs "make" 431,vs "k" 432,vs "need" 433]),
  (184,tp),
  (186,ca "clash" "clash" 424 86 2 434 186),
  (187,fu 28 none "clash" q4 186),
  (188,tp),
  (190,tu [vs "shop" 440,vs "wish" 441,vs "pairs" 442,vs "ware" 443,vs "make" 444,vs "sources" 445,vs "granted" 446,vs "source" 447,vs "low" 448,vs "high" 449]),
  (191,tp),
  (193,ca "outside" "outside" 437 93 6 450 193),
  (194,fu 29 none "outside" q4 193),
  (195,tp),
  (198,cb "settled" "settled" 453 100 3 456 198),
  (199,fu 30 none "settled" q4 198),
  (200,tp),
  (202,tu [vs "shop" 462,vs "wish" 463,vs "found" 464,vs "reason" 465]),
  (203,tp),
  (205,ca "settle" "settle" 459 121 2 466 205),
  (206,fu 31 none "settle" q4 205),
  (207,tp),
  (209,tu [vs "ware" 480,vs "needs" 481,vs "met" 482,vs "need" 483]),
  (210,tp),
  (212,ca "need_needs" "need_needs" 477 131 2 484 212),
  (213,fu 36 none "need_needs" q5 212),
  (221,tp),
  (223,tu [vs "self" 502]),
  (224,tp),
  (226,ca "__init__" "Shop.__init__" 499 141 1 503 226),
  (227,fu 37 (some 0) "Shop.__init__" q5 226),
  (228,tp),
  (230,tu [vs "self" 509,vs "ware" 510,vs "make" 511]),
  (231,tp),
  (233,ca "has" "Shop.has" 506 144 3 512 233),
  (234,fu 37 (some 1) "Shop.has" q5 233),
  (235,tp),
  (237,tu [vs "self" 518,vs "ware" 519,vs "make" 520,vs "needs" 521]),
  (238,tp),
  (240,ca "put" "Shop.put" 515 147 4 522 240),
  (241,fu 37 (some 2) "Shop.put" q5 240),
  (242,tp),
  (244,tu [vs "self" 528,vs "ware" 529,vs "make" 530]),
  (245,tp),
  (247,ca "take" "Shop.take" 525 161 3 531 247),
  (248,fu 37 (some 3) "Shop.take" q5 247),
  (249,tp),
  (251,tu [vs "self" 537,vs "ware" 538]),
  (252,tp),
  (254,ca "makes" "Shop.makes" 534 168 2 539 254),
  (255,fu 37 (some 4) "Shop.makes" q5 254),
  (256,tp),
  (258,tu [vs "self" 545,vs "ware" 546,vs "make" 547]),
  (259,tp),
  (261,ca "needs" "Shop.needs" 542 173 3 548 261),
  (262,fu 37 (some 5) "Shop.needs" q5 261),
  (263,tp),
  (265,tu [vs "self" 554]),
  (266,tp),
  (268,ca "wares" "Shop.wares" 551 178 1 555 268),
  (269,fu 37 (some 6) "Shop.wares" q5 268),
  (270,tu [vs "kept" 558]),
  (271,di [(de P "__module__" 494 (vs "pickfloor.shop" 469)),(de P "__firstlineno__" 498 (.int 139 497)),(de P "__init__" 505 (.ref 227)),(de P "has" 514 (.ref 234)),(de P "put" 524 (.ref 241)),(de P "take" 533 (.ref 248)),(de P "makes" 541 (.ref 255)),(de P "needs" 550 (.ref 262)),(de P "wares" 557 (.ref 269)),(de P "__static_attributes__" 559 (.ref 270)),(de P "__dict__" 561 (.ref 273)),(de P "__weakref__" 563 (.ref 274)),(de P "__doc__" 564 .none)] 4),
  (272,{cls:= .type "type",data:=Data.cls {name:=Str.ofString "Shop",bases:=[.type "object"],mro:=[.ref 272,.type "object"],ns:=271,qualname:=Str.ofString "Shop"},slots:= #[none,none,some (vs "Shop" 487),some (vs "Shop" 495),some (.builtin "object.__new__"),some (.bool true)]}),
  (273,{cls:= .type "getset_descriptor",data:=Data.fields #[vs "__dict__" 560,.ref 272,.builtin "function.__dict__",.builtin "function.__dict__#set"]}),
  (274,{cls:= .type "getset_descriptor",data:=Data.fields #[vs "__weakref__" 562,.ref 272,.builtin "ExceptionGroup.__weakref__",.none]}),
  (277,tp),
  (280,cb "make_of" "make_of" 571 182 1 574 280),
  (281,fu 40 none "make_of" q6 280),
  (282,tp),
  (284,tu [vs "words" 580,vs "low" 581,vs "high" 582]),
  (285,tp),
  (287,ca "need_of" "need_of" 577 188 1 583 287),
  (288,fu 41 none "need_of" q6 287),
  (296,tp),
  (298,tu [vs "self" 601]),
  (299,tp),
  (301,ca "__init__" "Desk.__init__" 598 198 1 602 301),
  (302,fu 42 (some 0) "Desk.__init__" q6 301),
  (303,tp),
  (305,tu [vs "self" 608,vs "found" 609,vs "ware" 610,vs "make" 611]),
  (306,tp),
  (308,ca "held" "Desk.held" 605 202 1 612 308),
  (309,fu 42 (some 1) "Desk.held" q6 308),
  (310,tp),
  (312,tu [vs "self" 618]),
  (313,tp),
  (315,ca "wishes" "Desk.wishes" 615 209 1 619 315),
  (316,fu 42 (some 2) "Desk.wishes" q6 315),
  (317,tp),
  (320,cb "put_line" "Desk.put_line" 622 212 2 625 320),
  (321,fu 42 (some 3) "Desk.put_line" q6 320),
  (322,tp),
  (324,tu [vs "self" 631,vs "words" 632]),
  (325,tp),
  (327,ca "take_line" "Desk.take_line" 628 228 2 633 327),
  (328,fu 42 (some 4) "Desk.take_line" q6 327),
  (329,tp),
  (331,tu [vs "self" 639,vs "words" 640,vs "need" 641]),
  (332,tp),
  (334,ca "wish_line" "Desk.wish_line" 636 237 2 642 334),
  (335,fu 42 (some 5) "Desk.wish_line" q6 334),
  (336,tp),
  (338,tu [vs "self" 648,vs "found" 649,vs "words" 650,vs "ware" 651,vs "make" 652]),
  (339,tp),
  (341,ca "settle_line" "Desk.settle_line" 645 248 1 653 341),
  (342,fu 42 (some 6) "Desk.settle_line" q6 341),
  (343,tp),
  (346,cb "why_line" "Desk.why_line" 656 257 2 659 346),
  (347,fu 42 (some 7) "Desk.why_line" q6 346),
  (348,tp),
  (350,tu [vs "self" 665,vs "words" 666]),
  (351,tp),
  (353,ca "answer" "Desk.answer" 662 267 2 667 353),
  (354,fu 42 (some 8) "Desk.answer" q6 353),
  (355,tp),
  (357,tu [vs "self" 673,vs "line" 674,vs "found" 675]),
  (358,tp),
  (360,ca "say" "Desk.say" 670 283 2 676 360),
  (361,fu 42 (some 9) "Desk.say" q6 360),
  (362,tu [vs "shop" 679,vs "wish" 680]),
  (363,di [(de P "__module__" 593 (vs "pickfloor.desk" 567)),(de P "__firstlineno__" 597 (.int 196 596)),(de P "__init__" 604 (.ref 302)),(de P "held" 614 (.ref 309)),(de P "wishes" 621 (.ref 316)),(de P "put_line" 627 (.ref 321)),(de P "take_line" 635 (.ref 328)),(de P "wish_line" 644 (.ref 335)),(de P "settle_line" 655 (.ref 342)),(de P "why_line" 661 (.ref 347)),(de P "answer" 669 (.ref 354)),(de P "say" 678 (.ref 361)),(de P "__static_attributes__" 681 (.ref 362)),(de P "__dict__" 683 (.ref 365)),(de P "__weakref__" 685 (.ref 366)),(de P "__doc__" 686 .none)] 4),
  (364,{cls:= .type "type",data:=Data.cls {name:=Str.ofString "Desk",bases:=[.type "object"],mro:=[.ref 364,.type "object"],ns:=363,qualname:=Str.ofString "Desk"},slots:= #[none,none,some (vs "Desk" 586),some (vs "Desk" 594),some (.builtin "object.__new__"),some (.bool true)]}),
  (365,{cls:= .type "getset_descriptor",data:=Data.fields #[vs "__dict__" 682,.ref 364,.builtin "function.__dict__",.builtin "function.__dict__#set"]}),
  (366,{cls:= .type "getset_descriptor",data:=Data.fields #[vs "__weakref__" 684,.ref 364,.builtin "ExceptionGroup.__weakref__",.none]}),
  (369,tp),
  (371,tu [vs "_law_script" 694,vs "_law_k" 695,vs "_law_cell" 696,vs "_law_number" 697]),
  (372,tp),
  (374,ca "_law_mixed" "_law_mixed" 691 289 2 698 374),
  (375,fu 44 none "_law_mixed" q7 374),
  (376,tp),
  (379,cb "_law_names" "_law_names" 701 295 2 704 379),
  (380,fu 45 none "_law_names" q7 379),
  (381,tp),
  (383,tu [vs "_law_rows" 710,vs "_law_shop_here" 711,vs "_law_ware" 712,vs "_law_make" 713]),
  (384,tp),
  (386,ca "_law_shop" "_law_shop" 707 308 1 714 386),
  (387,fu 46 none "_law_shop" q7 386),
  (388,tp),
  (390,tu [vs "_law_names_here" 720,vs "_law_number" 721,vs "_law_found" 722,vs "_law_wares" 723,vs "_law_k" 724,vs "_law_low" 725]),
  (391,tp),
  (393,ca "_law_needs" "_law_needs" 717 314 2 726 393),
  (394,fu 47 none "_law_needs" q7 393),
  (395,tp),
  (398,cb "_law_text" "_law_text" 729 323 1 732 398),
  (399,fu 48 none "_law_text" q7 398),
  (400,tp),
  (402,tu [vs "_law_name" 738,vs "_law_number" 739,vs "_law_some" 740]),
  (403,tp),
  (405,ca "_law_odd_line" "_law_odd_line" 735 325 2 741 405),
  (406,fu 49 none "_law_odd_line" q7 405),
  (407,tp),
  (410,cb "_law_put" "_law_put" 744 335 4 747 410),
  (411,fu 50 none "_law_put" q7 410),
  (412,tp),
  (414,tu [vs "_law_rows" 753,vs "_law_ware" 754,vs "_law_make" 755]),
  (415,tp),
  (417,ca "_law_take" "_law_take" 750 347 3 756 417),
  (418,fu 51 none "_law_take" q7 417),
  (419,tp),
  (422,cb "_law_settled" "_law_settled" 759 354 3 762 422),
  (423,fu 52 none "_law_settled" q7 422),
  (424,tp),
  (427,cb "_law_copy" "_law_copy" 765 365 1 768 427),
  (428,fu 53 none "_law_copy" q7 427),
  (429,tp),
  (431,tu [vs "_law_shop_here" 774,vs "_law_rows" 775,vs "_law_ware" 776,vs "_law_make" 777]),
  (432,tp),
  (434,ca "_law_like" "_law_like" 771 367 2 778 434),
  (435,fu 54 none "_law_like" q7 434),
  (436,tp),
  (438,tu [vs "_law_rows" 784,vs "_law_wish" 785,vs "_law_names_here" 786,vs "_law_number" 787,vs "_law_ware" 788,vs "_law_make" 789,vs "_law_way" 790,vs "_law_needs_here" 791,vs "_law_line" 792]),
  (439,tp),
  (441,ca "_law_said" "_law_said" 781 377 4 793 441),
  (442,fu 55 none "_law_said" q7 441),
  (443,tp),
  (446,cb "_law_ahead_lines" "_law_ahead_lines" 796 400 2 799 446),
  (447,fu 56 none "_law_ahead_lines" q7 446),
  (448,tp),
  (450,tu [vs "_law_desk" 805,vs "_law_rows" 806,vs "_law_wish" 807,vs "_law_held" 808,vs "_law_number" 809,vs "_law_told" 810,vs "_law_shop_here" 811,vs "_law_ware" 812]),
  (451,tp),
  (453,ca "_law_looked" "_law_looked" 802 408 5 813 453),
  (454,fu 57 none "_law_looked" q7 453),
  (455,tp),
  (458,cb "law" "law" 816 427 1 819 458),
  (459,fu 58 none "law" q7 458)]
noncomputable def asL:List Addr:=[2,3,15,22,23,24,25,28,35,36,37,40,47,48,49,52,59,60,61,64,71,72,73,76,83,84,85,88,95,96,97,100,107,108,109,112,115,116,117,119,120,122,123,124,126,127,129,130,131,133,134,136,137,138,141,142,143,145,146,148,149,150,152,153,155,156,157,159,160,162,163,164,166,167,169,170,171,174,175,176,179,180,181,183,184,186,187,188,190,191,193,194,195,198,199,200,202,203,205,206,207,209,210,212,213,221,223,224,226,227,228,230,231,233,234,235,237,238,240,241,242,244,245,247,248,249,251,252,254,255,256,258,259,261,262,263,265,266,268,269,270,271,272,273,274,277,280,281,282,284,285,287,288,296,298,299,301,302,303,305,306,308,309,310,312,313,315,316,317,320,321,322,324,325,327,328,329,331,332,334,335,336,338,339,341,342,343,346,347,348,350,351,353,354,355,357,358,360,361,362,363,364,365,366,369,371,372,374,375,376,379,380,381,383,384,386,387,388,390,391,393,394,395,398,399,400,402,403,405,406,407,410,411,412,414,415,417,418,419,422,423,424,427,428,429,431,432,434,435,436,438,439,441,442,443,446,447,448,450,451,453,454,455,458,459]
noncomputable def o(k:Nat)(P:Params):Obj:=(((K P)[k]?).map (·.2)).getD default
noncomputable def fo(k:Nat)(P:Params):FuncData:=match(o k P).data with| .func f=>f|_=>default
noncomputable def fz(k:Nat)(P:Params):Obj:={cls:= .none,dict:=none,data:=Data.func {fo k P with globals:=0,pyModule:= .none,code:= .none},slots:= #[]}
noncomputable def su(k:Nat):Obj:={cls:= .type "super",data:=Data.fields #[.ref k,.ref k,.ref k]}
noncomputable def bi(k:Nat):Obj:={cls:= .type "builtin_function_or_method",data:=Data.fields #[.builtin "object.__init_subclass__",.ref k]}
noncomputable def xs(P:Params):List Obj:=[
  tp,
  nf,
  co "<module>" 182 "<module>" 183 184 186 [vi 1,vi 0,vi 0,vi 0,vi 0,.ref 11,.bool false,vi 181,.ref 12,.none,.none,.none,.none,vi 185,vi 1],
  fm 13 3 3 (vs "__main__" 164),
  di [(de P "__name__" 165 (vs "pickfloor.errors" 187)),(de P "__doc__" 166 .none),(de P "__package__" 167 .none),(de P "__loader__" 168 (.builtin "__main__.__loader__#opaque")),(de P "__spec__" 169 .none),(de P "__annotations__" 170 (.ref 6)),(de P "__builtins__" 171 (.ref 4)),(de P "__file__" 173 (vs "/claim/cut.py" 172)),(de P "__cached__" 174 .none),(de P "PickError" 206 (.ref 24)),(de P "BadWare" 222 (.ref 37)),(de P "BadMake" 238 (.ref 49)),(de P "BadNeed" 254 (.ref 61)),(de P "Twice" 270 (.ref 73))] 14,
  nl [vi 2,vi 0,.ref 20,vi 4,vi 0,.ref 33,vi 6,vi 0,.ref 45,vi 8,vi 0,.ref 57,vi 10,vi 0,.ref 69],
  bp,
  di [(de P "__module__" 196 (vs "pickfloor.errors" 187)),(de P "__qualname__" 198 (vs "PickError" 197)),(de P "__firstlineno__" 200 (Value.int 2 199)),(de P "__static_attributes__" 201 (.ref 22))] 4,
  tp,
  nf,
  co "PickError" 191 "PickError" 192 193 195 [vi 2,vi 0,vi 0,vi 0,vi 0,.ref 18,.bool false,vi 181,.ref 19,.none,.none,.none,.none,vi 194,vi 2],
  fm 20 3 17 (vs "pickfloor.errors" 187),
  {cls:= .type "type",data:=Data.cls {name:=Str.ofString "PickError",bases:=[.type "ValueError"],mro:=[.ref 24,.type "ValueError",.type "Exception",.type "BaseException",.type "object"],ns:=23,qualname:=Str.ofString "PickError",subclasses:=[.ref 37,.ref 49,.ref 61,.ref 73]},slots:= #[some (.ref 15),none,some (vs "PickError" 189),some (vs "PickError" 197),some (.builtin "ValueError.__new__"),some (.bool true)]},
  su 24,
  bi 24,
  bp,
  di [(de P "__module__" 214 (vs "pickfloor.errors" 187)),(de P "__qualname__" 216 (vs "BadWare" 215)),(de P "__firstlineno__" 218 (Value.int 4 217)),(de P "__static_attributes__" 219 (.ref 35))] 4,
  tp,
  nf,
  co "BadWare" 209 "BadWare" 210 211 213 [vi 4,vi 0,vi 0,vi 0,vi 0,.ref 31,.bool false,vi 181,.ref 32,.none,.none,.none,.none,vi 212,vi 4],
  fm 33 3 30 (vs "pickfloor.errors" 187),
  su 37,
  bi 37,
  bp,
  di [(de P "__module__" 230 (vs "pickfloor.errors" 187)),(de P "__qualname__" 232 (vs "BadMake" 231)),(de P "__firstlineno__" 234 (Value.int 6 233)),(de P "__static_attributes__" 235 (.ref 47))] 4,
  tp,
  nf,
  co "BadMake" 225 "BadMake" 226 227 229 [vi 6,vi 0,vi 0,vi 0,vi 0,.ref 43,.bool false,vi 181,.ref 44,.none,.none,.none,.none,vi 228,vi 6],
  fm 45 3 42 (vs "pickfloor.errors" 187),
  su 49,
  bi 49,
  bp,
  di [(de P "__module__" 246 (vs "pickfloor.errors" 187)),(de P "__qualname__" 248 (vs "BadNeed" 247)),(de P "__firstlineno__" 250 (Value.int 8 249)),(de P "__static_attributes__" 251 (.ref 59))] 4,
  tp,
  nf,
  co "BadNeed" 241 "BadNeed" 242 243 245 [vi 8,vi 0,vi 0,vi 0,vi 0,.ref 55,.bool false,vi 181,.ref 56,.none,.none,.none,.none,vi 244,vi 8],
  fm 57 3 54 (vs "pickfloor.errors" 187),
  su 61,
  bi 61,
  bp,
  di [(de P "__module__" 262 (vs "pickfloor.errors" 187)),(de P "__qualname__" 264 (vs "Twice" 263)),(de P "__firstlineno__" 266 (Value.int 10 265)),(de P "__static_attributes__" 267 (.ref 71))] 4,
  tp,
  nf,
  co "Twice" 257 "Twice" 258 259 261 [vi 10,vi 0,vi 0,vi 0,vi 0,.ref 67,.bool false,vi 181,.ref 68,.none,.none,.none,.none,vi 260,vi 10],
  fm 69 3 66 (vs "pickfloor.errors" 187),
  su 73,
  bi 73,
  di [(de P "__name__" 165 (vs "pickfloor.shop" 469)),(de P "__doc__" 166 .none),(de P "__package__" 167 .none),(de P "__loader__" 168 (.builtin "__main__.__loader__#opaque")),(de P "__spec__" 169 .none),(de P "__annotations__" 170 (.ref 6)),(de P "__builtins__" 171 (.ref 4)),(de P "__file__" 173 (vs "/claim/cut.py" 172)),(de P "__cached__" 174 .none),(de P "PickError" 206 (.ref 24)),(de P "BadWare" 222 (.ref 37)),(de P "BadMake" 238 (.ref 49)),(de P "BadNeed" 254 (.ref 61)),(de P "Twice" 270 (.ref 73)),(de P "Full" 286 (.ref 85)),(de P "NoMake" 302 (.ref 97)),(de P "BadWish" 318 (.ref 109)),(de P "LETTERS" 322 (vs "abcdefghijklmnopqrstuvwxyz" 321)),(de P "MOST_LETTERS" 324 (Value.int 8 323)),(de P "MOST_MAKE" 326 (Value.int 999 325)),(de P "is_ware" 332 (.ref 116)),(de P "is_make" 339 (.ref 123)),(de P "is_need" 346 (.ref 130)),(de P "within" 355 (.ref 137)),(de P "MOST_WISHES" 359 (Value.int 8 358)),(de P "need_wish" 365 (.ref 142)),(de P "agenda_of" 377 (.ref 149)),(de P "is_number" 387 (.ref 156)),(de P "is_granted" 396 (.ref 163)),(de P "stretch_of" 409 (.ref 170)),(de P "left_by" 415 (.ref 175)),(de P "sources_for" 423 (.ref 180)),(de P "clash" 436 (.ref 187)),(de P "outside" 452 (.ref 194)),(de P "settled" 458 (.ref 199)),(de P "settle" 468 (.ref 206)),(de P "MOST_WARES" 472 (Value.int 12 471)),(de P "MOST_MAKES" 474 (Value.int 8 473))] 38,
  nl [vi 2,vi 0,.ref 20,vi 4,vi 0,.ref 33,vi 6,vi 0,.ref 45,vi 8,vi 0,.ref 57,vi 10,vi 0,.ref 69,vi 12,vi 0,.ref 81,vi 14,vi 0,.ref 93,vi 16,vi 0,.ref 105,vi 22,vi 0,.ref 115,vi 26,vi 0,.ref 122,vi 28,vi 0,.ref 129,vi 32,vi 0,.ref 136,vi 36,vi 0,.ref 141,vi 39,vi 0,.ref 148,vi 53,vi 0,.ref 155,vi 55,vi 0,.ref 162,vi 57,vi 0,.ref 169,vi 72,vi 0,.ref 174,vi 79,vi 0,.ref 179,vi 86,vi 0,.ref 186,vi 93,vi 0,.ref 193,vi 100,vi 0,.ref 198,vi 121,vi 0,.ref 205],
  bp,
  di [(de P "__module__" 278 (vs "pickfloor.errors" 187)),(de P "__qualname__" 280 (vs "Full" 279)),(de P "__firstlineno__" 282 (Value.int 12 281)),(de P "__static_attributes__" 283 (.ref 83))] 4,
  tp,
  nf,
  co "Full" 273 "Full" 274 275 277 [vi 12,vi 0,vi 0,vi 0,vi 0,.ref 79,.bool false,vi 181,.ref 80,.none,.none,.none,.none,vi 276,vi 12],
  fm 81 3 78 (vs "pickfloor.errors" 187),
  su 85,
  bi 85,
  bp,
  di [(de P "__module__" 294 (vs "pickfloor.errors" 187)),(de P "__qualname__" 296 (vs "NoMake" 295)),(de P "__firstlineno__" 298 (Value.int 14 297)),(de P "__static_attributes__" 299 (.ref 95))] 4,
  tp,
  nf,
  co "NoMake" 289 "NoMake" 290 291 293 [vi 14,vi 0,vi 0,vi 0,vi 0,.ref 91,.bool false,vi 181,.ref 92,.none,.none,.none,.none,vi 292,vi 14],
  fm 93 3 90 (vs "pickfloor.errors" 187),
  su 97,
  bi 97,
  bp,
  di [(de P "__module__" 310 (vs "pickfloor.errors" 187)),(de P "__qualname__" 312 (vs "BadWish" 311)),(de P "__firstlineno__" 314 (Value.int 16 313)),(de P "__static_attributes__" 315 (.ref 107))] 4,
  tp,
  nf,
  co "BadWish" 305 "BadWish" 306 307 309 [vi 16,vi 0,vi 0,vi 0,vi 0,.ref 103,.bool false,vi 181,.ref 104,.none,.none,.none,.none,vi 308,vi 16],
  fm 105 3 102 (vs "pickfloor.errors" 187),
  su 109,
  bi 109,
  nf,
  fz 37 P,
  nf,
  fz 42 P,
  nf,
  fz 47 P,
  nf,
  fz 52 P,
  nf,
  fz 55 P,
  nf,
  fz 60 P,
  nf,
  fz 65 P,
  nf,
  fz 70 P,
  nf,
  fz 75 P,
  nf,
  fz 78 P,
  nf,
  fz 81 P,
  nf,
  fz 86 P,
  nf,
  fz 91 P,
  nf,
  fz 94 P,
  nf,
  fz 99 P,
  di [(de P "__name__" 165 (vs "law_uf010025_11" 689)),(de P "__doc__" 166 .none),(de P "__package__" 167 .none),(de P "__loader__" 168 (.builtin "__main__.__loader__#opaque")),(de P "__spec__" 169 .none),(de P "__annotations__" 170 (.ref 6)),(de P "__builtins__" 171 (.ref 4)),(de P "__file__" 173 (vs "/claim/cut.py" 172)),(de P "__cached__" 174 .none),(de P "PickError" 206 (.ref 24)),(de P "BadWare" 222 (.ref 37)),(de P "BadMake" 238 (.ref 49)),(de P "BadNeed" 254 (.ref 61)),(de P "Twice" 270 (.ref 73)),(de P "Full" 286 (.ref 85)),(de P "NoMake" 302 (.ref 97)),(de P "BadWish" 318 (.ref 109)),(de P "LETTERS" 322 (vs "abcdefghijklmnopqrstuvwxyz" 321)),(de P "MOST_LETTERS" 324 (Value.int 8 323)),(de P "MOST_MAKE" 326 (Value.int 999 325)),(de P "is_ware" 332 (.ref 116)),(de P "is_make" 339 (.ref 123)),(de P "is_need" 346 (.ref 130)),(de P "within" 355 (.ref 137)),(de P "MOST_WISHES" 359 (Value.int 8 358)),(de P "need_wish" 365 (.ref 142)),(de P "agenda_of" 377 (.ref 149)),(de P "is_number" 387 (.ref 156)),(de P "is_granted" 396 (.ref 163)),(de P "stretch_of" 409 (.ref 170)),(de P "left_by" 415 (.ref 175)),(de P "sources_for" 423 (.ref 180)),(de P "clash" 436 (.ref 187)),(de P "outside" 452 (.ref 194)),(de P "settled" 458 (.ref 199)),(de P "settle" 468 (.ref 206)),(de P "MOST_WARES" 472 (Value.int 12 471)),(de P "MOST_MAKES" 474 (Value.int 8 473)),(de P "MOST_NEEDS" 476 (Value.int 6 475)),(de P "need_needs" 486 (.ref 213)),(de P "Shop" 566 (.ref 272)),(de P "FIGURES" 570 (vs "0123456789" 569)),(de P "make_of" 576 (.ref 281)),(de P "need_of" 585 (.ref 288)),(de P "Desk" 688 (.ref 364)),(de P "_law_mixed" 700 (.ref 375)),(de P "_law_names" 706 (.ref 380)),(de P "_law_shop" 716 (.ref 387)),(de P "_law_needs" 728 (.ref 394)),(de P "_law_text" 734 (.ref 399))] 50,
  nl [vi 2,vi 0,.ref 20,vi 4,vi 0,.ref 33,vi 6,vi 0,.ref 45,vi 8,vi 0,.ref 57,vi 10,vi 0,.ref 69,vi 12,vi 0,.ref 81,vi 14,vi 0,.ref 93,vi 16,vi 0,.ref 105,vi 22,vi 0,.ref 115,vi 26,vi 0,.ref 122,vi 28,vi 0,.ref 129,vi 32,vi 0,.ref 136,vi 36,vi 0,.ref 141,vi 39,vi 0,.ref 148,vi 53,vi 0,.ref 155,vi 55,vi 0,.ref 162,vi 57,vi 0,.ref 169,vi 72,vi 0,.ref 174,vi 79,vi 0,.ref 179,vi 86,vi 0,.ref 186,vi 93,vi 0,.ref 193,vi 100,vi 0,.ref 198,vi 121,vi 0,.ref 205,vi 131,vi 0,.ref 212,vi 139,vi 0,.ref 219,vi 182,vi 0,.ref 280,vi 188,vi 0,.ref 287,vi 196,vi 0,.ref 294,vi 289,vi 0,.ref 374,vi 295,vi 0,.ref 379,vi 308,vi 0,.ref 386,vi 314,vi 0,.ref 393,vi 323,vi 0,.ref 398],
  nf,
  fz 104 P,
  tp,
  bp,
  di [(de P "__module__" 494 (vs "pickfloor.shop" 469)),(de P "__qualname__" 496 (vs "Shop" 495)),(de P "__firstlineno__" 498 (Value.int 139 497)),(de P "__init__" 505 (.ref 227)),(de P "has" 514 (.ref 234)),(de P "put" 524 (.ref 241)),(de P "take" 533 (.ref 248)),(de P "makes" 541 (.ref 255)),(de P "needs" 550 (.ref 262)),(de P "wares" 557 (.ref 269)),(de P "__static_attributes__" 559 (.ref 270))] 11,
  tp,
  nl [vi 141,vi 4,.ref 226,vi 144,vi 4,.ref 233,vi 147,vi 4,.ref 240,vi 161,vi 4,.ref 247,vi 168,vi 4,.ref 254,vi 173,vi 4,.ref 261,vi 178,vi 4,.ref 268],
  co "Shop" 489 "Shop" 490 491 493 [vi 139,vi 0,vi 0,vi 0,vi 0,.ref 217,.bool false,vi 181,.ref 218,.none,.none,.none,.none,vi 492,vi 139],
  fm 219 3 216 (vs "pickfloor.shop" 469),
  nf,
  fz 109 P,
  nf,
  fz 114 P,
  nf,
  fz 119 P,
  nf,
  fz 124 P,
  nf,
  fz 129 P,
  nf,
  fz 134 P,
  nf,
  fz 139 P,
  su 272,
  bi 272,
  nf,
  fz 147 P,
  nf,
  fz 152 P,
  tp,
  bp,
  di [(de P "__module__" 593 (vs "pickfloor.desk" 567)),(de P "__qualname__" 595 (vs "Desk" 594)),(de P "__firstlineno__" 597 (Value.int 196 596)),(de P "__init__" 604 (.ref 302)),(de P "held" 614 (.ref 309)),(de P "wishes" 621 (.ref 316)),(de P "put_line" 627 (.ref 321)),(de P "take_line" 635 (.ref 328)),(de P "wish_line" 644 (.ref 335)),(de P "settle_line" 655 (.ref 342)),(de P "why_line" 661 (.ref 347)),(de P "answer" 669 (.ref 354)),(de P "say" 678 (.ref 361)),(de P "__static_attributes__" 681 (.ref 362))] 14,
  tp,
  nl [vi 198,vi 4,.ref 301,vi 202,vi 4,.ref 308,vi 209,vi 4,.ref 315,vi 212,vi 4,.ref 320,vi 228,vi 4,.ref 327,vi 237,vi 4,.ref 334,vi 248,vi 4,.ref 341,vi 257,vi 4,.ref 346,vi 267,vi 4,.ref 353,vi 283,vi 4,.ref 360],
  co "Desk" 588 "Desk" 589 590 592 [vi 196,vi 0,vi 0,vi 0,vi 0,.ref 292,.bool false,vi 181,.ref 293,.none,.none,.none,.none,vi 591,vi 196],
  fm 294 3 291 (vs "pickfloor.desk" 567),
  nf,
  fz 157 P,
  nf,
  fz 162 P,
  nf,
  fz 167 P,
  nf,
  fz 170 P,
  nf,
  fz 175 P,
  nf,
  fz 180 P,
  nf,
  fz 185 P,
  nf,
  fz 188 P,
  nf,
  fz 193 P,
  nf,
  fz 198 P,
  su 364,
  bi 364,
  nf,
  fz 208 P,
  nf,
  fz 211 P,
  nf,
  fz 216 P,
  nf,
  fz 221 P,
  nf,
  fz 224 P,
  nl [vi 2,vi 0,.ref 20,vi 4,vi 0,.ref 33,vi 6,vi 0,.ref 45,vi 8,vi 0,.ref 57,vi 10,vi 0,.ref 69,vi 12,vi 0,.ref 81,vi 14,vi 0,.ref 93,vi 16,vi 0,.ref 105,vi 22,vi 0,.ref 115,vi 26,vi 0,.ref 122,vi 28,vi 0,.ref 129,vi 32,vi 0,.ref 136,vi 36,vi 0,.ref 141,vi 39,vi 0,.ref 148,vi 53,vi 0,.ref 155,vi 55,vi 0,.ref 162,vi 57,vi 0,.ref 169,vi 72,vi 0,.ref 174,vi 79,vi 0,.ref 179,vi 86,vi 0,.ref 186,vi 93,vi 0,.ref 193,vi 100,vi 0,.ref 198,vi 121,vi 0,.ref 205,vi 131,vi 0,.ref 212,vi 139,vi 0,.ref 219,vi 182,vi 0,.ref 280,vi 188,vi 0,.ref 287,vi 196,vi 0,.ref 294,vi 289,vi 0,.ref 374,vi 295,vi 0,.ref 379,vi 308,vi 0,.ref 386,vi 314,vi 0,.ref 393,vi 323,vi 0,.ref 398,vi 325,vi 0,.ref 405,vi 335,vi 0,.ref 410,vi 347,vi 0,.ref 417,vi 354,vi 0,.ref 422,vi 365,vi 0,.ref 427,vi 367,vi 0,.ref 434,vi 377,vi 0,.ref 441,vi 400,vi 0,.ref 446,vi 408,vi 0,.ref 453,vi 427,vi 0,.ref 458],
  nf,
  fz 229 P,
  nf,
  fz 232 P,
  nf,
  fz 237 P,
  nf,
  fz 240 P,
  nf,
  fz 243 P,
  nf,
  fz 248 P,
  nf,
  fz 253 P,
  nf,
  fz 256 P,
  nf,
  fz 261 P,
  nf,
  fz 264 P]
noncomputable def x(k:Nat)(P:Params):Obj:=((xs P)[k]?).getD default
noncomputable def bo(P:Params):List Obj:=[boot_o_0 P,boot_o_1 P,boot_o_2 P,boot_o_3 P,boot_o_4 P,boot_o_5 P,boot_o_6 P,boot_o_7 P,boot_o_8 P,boot_o_9 P,boot_o_10 P]
noncomputable def ob(P:Params)(k:Nat):Obj:=cond (Nat.blt k 1000) (o k P) (cond (Nat.blt k 2000) (x (k-1000) P) (((bo P)[k-2000]?).getD default))
noncomputable def up(l:List Nat):List (Nat×Nat)→List Nat
  |[]=>l
  |p::r=>up (l.set p.1 p.2) r
noncomputable def lsa:List Nat:=[2000,2001,2002,2003,2004,2005,2006,2007,2008,2009,2010,1000,1001,1002,1003]
noncomputable def ls1:List Nat:=up lsa [(3,1004),(12,1005)]++[2,1006,1007,1008,1009,1010,1011,3,4,1012,6,1013,1014,7,1015,1016,1017,1018,1019,1020,8,9,10,1021,1022,11,1023,1024,1025,1026,1027,1028,12,13,14,1029,1030,15,1031,1032,1033,1034,1035,1036,16,17,18,1037,1038,19,1039,1040,1041,1042,1043,1044,20,21,22,1045,1046]
noncomputable def ls2:List Nat:=up ls1 [(3,1047),(12,1048),(24,5)]++[23,1049,1050,1051,1052,1053,1054,24,25,26,1055,1056,27,1057,1058,1059,1060,1061,1062,28,29,30,1063,1064,31,1065,1066,1067,1068,1069,1070,32,33,34,1071,1072,35,1073,1074,36,37,38,1075,39,40,1076,41,42,43,1077,44,45,1078,46,47,48,1079,49,50,1080,51,52,53,1081,1082,54,55,56,1083,57,58,1084,59,60,61,1085,62,63,1086,64,65,66,1087,67,68,1088,69,70,71,1089,72,73,1090,74,75,76,1091,1092,77,78,79,1093,1094,80,81,82,1095,83,84,1096,85,86,87,1097,88,89,1098,90,91,92,1099,1100,93,94,95,1101,96,97,1102,98,99]
noncomputable def ls3:List Nat:=up ls2 [(3,1103),(12,1104)]++[100,1105,101,102,1106,103,104,1107,1108,1109,1110,1111,1112,1113,105,1114,106,107,1115,108,109,110,1116,111,112,1117,113,114,115,1118,116,117,1119,118,119,120,1120,121,122,1121,123,124,125,1122,126,127,1123,128,129,130,1124,131,132,1125,133,134,135,1126,136,137,1127,138,139,140,141,142,143,144,1128,1129,145,1130,1131,146,147,148,1132,149,150,1133,151,152,1134,1135,1136,1137,1138,1139,1140,153,1141,154,155,1142,156,157,158,1143,159,160,1144,161,162,163,1145,164,165,1146,166,167,168,1147,1148,169,170,171,1149,172,173,1150,174,175,176,1151,177,178,1152,179,180,181,1153,182,183,1154,184,185,186,1155,1156,187,188,189,1157,190,191,1158,192,193,194,1159,195,196,1160,197,198,199,200,201,202,203,1161,1162,204,1163,205,206,1164,207,208,209,1165,1166,210,211,212,1167,213,214,1168,215,216,217,1169,218,219,1170,220,221,222,1171,1172,223,224]
noncomputable def ls4:List Nat:=up ls3 [(3,1),(12,1173)]++[225,1174,226,227,1175,228,229,230,1176,1177,231,232,233,1178,234,235,1179,236,237,238,1180,1181,239,240,241,1182,1183,242,243,244,1184,245,246,1185,247,248,249,1186,250,251,1187,252,253,254,1188,1189,255,256,257,1190,258,259,1191,260,261,262,1192,1193,263,264]
noncomputable def sa(P:Params):BT:=ofL 400 (lsa.map (ob P))
noncomputable def sb(P:Params):BT:=ofL 400 (lsa.map (ob P))
noncomputable def s1(P:Params):BT:=ofL 400 (ls1.map (ob P))
noncomputable def s2(P:Params):BT:=ofL 400 (ls2.map (ob P))
noncomputable def s3(P:Params):BT:=ofL 400 (ls3.map (ob P))
noncomputable def s4(P:Params):BT:=ofL 400 (ls4.map (ob P))
noncomputable def last(P:Params):Heap:=⟨⟨ls4.map (ob P)⟩,life⟩
noncomputable def env:Env:={scope:=PySem.Challenge.pw_uf010025_11.main.scope,locals:=mainNs,globals:=mainNs,cells:=[],code:=Value.ref 13,frame:=some 14}
noncomputable def sts1:List Stmt:=((behindTheImports PySem.Challenge.pw_uf010025_11).drop 0).take 6
noncomputable def sts2:List Stmt:=((behindTheImports PySem.Challenge.pw_uf010025_11).drop 6).take 29
noncomputable def sts3:List Stmt:=((behindTheImports PySem.Challenge.pw_uf010025_11).drop 35).take 14
noncomputable def sts4:List Stmt:=((behindTheImports PySem.Challenge.pw_uf010025_11).drop 49).take 10
noncomputable def code:Code:= .body (sts1++(sts2++(sts3++(sts4++([]))))) env
noncomputable def fr:List Frame:=[topFrame {line:=0,col:=0,endLine:=0,endCol:=0}]
theorem pre(w:World)(os:OsState):topGo treeTable PySem.Challenge.pw_uf010025_11 w 11 (some (Value.ref 6)) 12 ⟨boot_heap w.params,⟨[]⟩,boot_drawn,boot_toks,os⟩ (topStub PySem.Challenge.pw_uf010025_11)=some (SharedT.abs ⟨sa w.params,15,life,⟨[]⟩,drawn,187,os⟩,⟨denote treeTable code,code,({line:=0,col:=0,endLine:=0,endCol:=0}),fr⟩):=by kernel_rfl
theorem block(w:World)(os:OsState):segRunT treeTable PySem.Challenge.pw_uf010025_11 w 11 (some (Value.ref 6)) 1 1 ⟨sa w.params,15,life,⟨[]⟩,drawn,187,os⟩ (blockOf (sts1++(sts2++(sts3++(sts4++([]))))) env code ({line:=0,col:=0,endLine:=0,endCol:=0}) fr)=some (.next,⟨sb w.params,15,life,⟨[]⟩,drawn,187,os⟩,code,({line:=0,col:=0,endLine:=0,endCol:=0})):=by kernel_rfl
theorem seg1(w:World)(os:OsState):segRunT treeTable PySem.Challenge.pw_uf010025_11 w 11 (some (Value.ref 6)) 1 1048 ⟨sb w.params,15,life,⟨[]⟩,drawn,187,os⟩ (piecesOf sts1 env code ({line:=0,col:=0,endLine:=0,endCol:=0}) fr)=some (.next,⟨s1 w.params,76,life,⟨[]⟩,drawn,271,os⟩,code,({line:=10,col:=0,endLine:=11,endCol:=8})):=by kernel_rfl
theorem seg2(w:World)(os:OsState):segRunT treeTable PySem.Challenge.pw_uf010025_11 w 11 (some (Value.ref 6)) 1 1193 ⟨s1 w.params,76,life,⟨[]⟩,drawn,271,os⟩ (piecesOf sts2 env code ({line:=10,col:=0,endLine:=11,endCol:=8}) fr)=some (.next,⟨s2 w.params,207,life,⟨[]⟩,drawn,475,os⟩,code,({line:=129,col:=0,endLine:=129,endCol:=10})):=by kernel_rfl
theorem seg3(w:World)(os:OsState):segRunT treeTable PySem.Challenge.pw_uf010025_11 w 11 (some (Value.ref 6)) 1 1201 ⟨s2 w.params,207,life,⟨[]⟩,drawn,475,os⟩ (piecesOf sts3 env code ({line:=129,col:=0,endLine:=129,endCol:=10}) fr)=some (.next,⟨s3 w.params,400,life,⟨[]⟩,drawn,735,os⟩,code,({line:=323,col:=0,endLine:=324,endCol:=136})):=by kernel_rfl
theorem seg4(w:World)(os:OsState):segRunT treeTable PySem.Challenge.pw_uf010025_11 w 11 (some (Value.ref 6)) 1 298 ⟨s3 w.params,400,life,⟨[]⟩,drawn,735,os⟩ (piecesOf sts4 env code ({line:=323,col:=0,endLine:=324,endCol:=136}) fr)=some (.next,⟨s4 w.params,460,life,⟨[]⟩,drawn,822,os⟩,code,({line:=427,col:=0,endLine:=452,endCol:=126})):=by kernel_rfl
theorem fin(w:World)(os:OsState):topRun treeTable PySem.Challenge.pw_uf010025_11 w 11 (some (Value.ref 6)) 2 (SharedT.abs ⟨s4 w.params,460,life,⟨[]⟩,drawn,822,os⟩) (restOf [] env code ({line:=427,col:=0,endLine:=452,endCol:=126}) fr)=some ⟨last w.params,⟨[]⟩,drawn,822,os⟩:=by kernel_rfl
theorem run(w:World)(os:OsState):topRun treeTable PySem.Challenge.pw_uf010025_11 w 11 (some (Value.ref 6)) (12+(1+(1048+(1193+(1201+(298+(2))))))) ⟨boot_heap w.params,⟨[]⟩,boot_drawn,boot_toks,os⟩ (topStub PySem.Challenge.pw_uf010025_11)=some ⟨last w.params,⟨[]⟩,drawn,822,os⟩:=
  go_top (pre w os) (piece_block (segRun_of (block w os)) (piece_app (segRun_of (seg1 w os)) (piece_app (segRun_of (seg2 w os)) (piece_app (segRun_of (seg3 w os)) (piece_app (segRun_of (seg4 w os)) (fin w os))))))
theorem le:Nat.ble (12+(1+(1048+(1193+(1201+(298+(2))))))) 12000=true:=by kernel_rfl
theorem op:opening PySem.Challenge.pw_uf010025_11=plainProg PySem.Challenge.pw_uf010025_11.main.scope.names:=by kernel_rfl
theorem fence(s:Shared):fenceModules? PySem.Challenge.pw_uf010025_11 s=some s:=by kernel_rfl
theorem size(w:World):((boot_heap w.params).isNs mainGlobals&&(Array.mk ([]:List GenState)).size==0,(boot_heap w.params).objs.size,(boot_heap w.params).nsMap mainGlobals "__annotations__")=(true,11,some (Value.ref 6)):=by kernel_rfl
noncomputable def q11:Program:=view PySem.Challenge.pw_uf010025_11 [1,2,3,4,5,6,7,8,10,11,12,13,14,15,16,18,19,20,22,23,24,25,27,28,29,30,31,33,34,35,36,37,39,40,41,42,44,45,46,47,48,49,50,51,52,53,54,55,56,57,58]
theorem look1(w:World)(os:OsState):(staticsOk (importedModules PySem.Challenge.pw_uf010025_11.main.body) (boot_heap w.params) (last w.params)&&namesBound PySem.Challenge.pw_uf010025_11 (last w.params)&&gensDone ⟨last w.params,⟨[]⟩,drawn,822,os⟩&&laidKept (boot_heap w.params) (last w.params))=true:=by kernel_rfl
theorem look2(w:World)(os:OsState):openSeen q11 [] (importedModules PySem.Challenge.pw_uf010025_11.main.body) (fun s=>xlAt q11 [] s&&recOk (RowW.records (OpenRow.toRowW (OpenLaw.row PySem.Challenge.rw_uf010025_11))) s) true ⟨last w.params,⟨[]⟩,drawn,822,os⟩=openGood q11 []:=by kernel_rfl
noncomputable def hk:Hook:=kHook K asL (fun _=>by kernel_rfl)
noncomputable def dk:=(defOf q11 (OpenLaw.row PySem.Challenge.rw_uf010025_11).name).get (by kernel_rfl)
noncomputable def xt(s:Shared):Bool:=xlAt q11 [] s&&recOk (RowW.records (OpenRow.toRowW (OpenLaw.row PySem.Challenge.rw_uf010025_11))) s
noncomputable def top:=fun k1 hw hc=>(holds_open (r:=(OpenLaw.row PySem.Challenge.rw_uf010025_11)) (q:=q11) (loose:=[]) (Xt:=xt) (XP:=XL q11 []) (Yf:=Hook.obs hk) (Ya:=Hook.val hk) (YP:=Hook.says hk) (d:=dk.1) (kwd:=dk.2) (N:=12000) (LeftO.of_pieces (p:=PySem.Challenge.pw_uf010025_11) (boot_open op rfl fence) size run le (fun w=>funext fun os=>looks_pair (look1 w os) (looks_pair (look2 w os) (by kernel_rfl)))) (Hook.of hk) (Hook.keeps hk) (fun s e=>xl_of s (Bool.and_eq_true_iff.mp e).1) XL.keeps (by kernel_rfl) (by kernel_rfl) (by kernel_rfl) (fun s e=>recFacts_of (Bool.and_eq_true_iff.mp e).2) (by rfl) k1 (by decide+kernel) ⟨rfl,rfl,rfl,rfl,rfl,by decide+kernel⟩ hw hc:(OpenLaw.row PySem.Challenge.rw_uf010025_11).Holds)
end Tp
local macro_rules
  | `(tactic| k_head) => do
    let hw:=Lean.mkIdent `hw
    let hc:=Lean.mkIdent `hc
    `(tactic| refine Tp.top (by first | assumption | decide +kernel) ?$hw ?$hc)
local macro_rules
  | `(tactic| o_law) => `(tactic| refine holds_law (by decide +kernel) fun said => ?_)
open_top hd11 for PySem.Challenge.rw_uf010025_11
end
open PySem
theorem Aa:type_of% @List.forall_mem_cons:= @List.forall_mem_cons
theorem Ab:type_of% @List.length_map:= @List.length_map
theorem Ac:type_of% @Nat.le_trans:= @Nat.le_trans
theorem Ad:type_of% @List.mem_append:= @List.mem_append
theorem Ae:type_of% @List.mem_cons:= @List.mem_cons
theorem Af:type_of% @List.mem_singleton:= @List.mem_singleton
theorem Ag:type_of% @List.length_append:= @List.length_append
theorem Ah:type_of% @List.mem_map:= @List.mem_map
theorem Ai:type_of% @List.mem_append_left:= @List.mem_append_left
theorem Aj:type_of% @List.mem_append_right:= @List.mem_append_right
theorem Ak:type_of% @List.mem_of_getElem? := @List.mem_of_getElem?
theorem Al:type_of% @List.getElem?_map:= @List.getElem?_map
theorem Am:type_of% @List.map_append:= @List.map_append
theorem An:type_of% @List.getElem?_eq_some_iff:= @List.getElem?_eq_some_iff
theorem Ao:type_of% @List.append_assoc:= @List.append_assoc
theorem Ap:type_of% @List.map_cons:= @List.map_cons
theorem Aq:type_of% @List.length_cons:= @List.length_cons
theorem Ar:type_of% @List.getElem?_eq_getElem:= @List.getElem?_eq_getElem
theorem As:type_of% @List.sublist_cons_self:= @List.sublist_cons_self
theorem Au:type_of% @List.nodup_cons:= @List.nodup_cons
theorem Av:type_of% @List.not_mem_nil:= @List.not_mem_nil
theorem Aw:type_of% @List.nodup_nil:= @List.nodup_nil
theorem Ax:type_of% @List.perm_append_comm:= @List.perm_append_comm
theorem Ay:type_of% @List.nil_append:= @List.nil_append
theorem Az:type_of% @List.append_nil:= @List.append_nil
theorem AC:type_of% @Bool.and_eq_true:= @Bool.and_eq_true
theorem AD:type_of% @of_decide_eq_true:= @of_decide_eq_true
theorem AE:type_of% @decide_eq_true:= @decide_eq_true
theorem AF:type_of% @Nat.lt_of_lt_of_le:= @Nat.lt_of_lt_of_le
theorem AG:type_of% @Nat.lt_of_le_of_lt:= @Nat.lt_of_le_of_lt
theorem AH:type_of% @Nat.le_of_ble_eq_true:= @Nat.le_of_ble_eq_true
theorem AJ:type_of% @List.map_map:= @List.map_map
theorem AK:type_of% @List.all_eq_true:= @List.all_eq_true
theorem AM:type_of% @List.flatten_cons:= @List.flatten_cons
theorem AN:type_of% @Nat.le_refl:= @Nat.le_refl
theorem AP:type_of% @Nat.zero_add:= @Nat.zero_add
theorem AQ:type_of% @Int.le_trans:= @Int.le_trans
theorem AR:type_of% @List.length_take:= @List.length_take
theorem AU:type_of% @List.take_length:= @List.take_length
theorem AV:type_of% @Bool.or_eq_true:= @Bool.or_eq_true
theorem AW:type_of% @of_decide_eq_false:= @of_decide_eq_false
theorem AX:type_of% @decide_eq_false:= @decide_eq_false
theorem AY:type_of% @Nat.lt_trans:= @Nat.lt_trans
theorem AZ:type_of% @Nat.le_of_lt:= @Nat.le_of_lt
theorem Ba:type_of% @Int.fmod_nonneg_of_pos:= @Int.fmod_nonneg_of_pos
theorem Bb:type_of% @Int.fmod_lt_of_pos:= @Int.fmod_lt_of_pos
theorem Bc:type_of% @List.length_filter_le:= @List.length_filter_le
theorem Bd:type_of% @Nat.add_le_add:= @Nat.add_le_add
theorem Be:type_of% @Nat.add_le_add_left:= @Nat.add_le_add_left
theorem Bg:type_of% @Nat.add_le_add_right:= @Nat.add_le_add_right
theorem Bh:type_of% @Nat.succ_le_succ:= @Nat.succ_le_succ
theorem Bi:type_of% @Nat.min_le_left:= @Nat.min_le_left
theorem Bj:type_of% @Nat.mul_le_mul_left:= @Nat.mul_le_mul_left
theorem Bk:type_of% @Int.ofNat_le:= @Int.ofNat_le
theorem Bl:type_of% @Int.natCast_nonneg:= @Int.natCast_nonneg
theorem Bm:type_of% @Nat.le_of_lt_succ:= @Nat.le_of_lt_succ
theorem Bn:type_of% @Nat.le_add_right:= @Nat.le_add_right
theorem Bo:type_of% @Nat.lt_of_le_of_ne:= @Nat.lt_of_le_of_ne
theorem Bp:type_of% @Nat.le_of_eq:= @Nat.le_of_eq
theorem Bq:type_of% @Nat.ne_of_lt:= @Nat.ne_of_lt
theorem Br:type_of% @Int.ofNat.inj:= @Int.ofNat.inj
theorem Bs:type_of% @Option.some.inj:= @Option.some.inj
theorem Bt:type_of% @List.cons.inj:= @List.cons.inj
theorem Bu:type_of% @List.mem_filter:= @List.mem_filter
theorem Bv:type_of% @List.mem_range:= @List.mem_range
theorem Bw:type_of% @Option.map_eq_some_iff:= @Option.map_eq_some_iff
theorem Bx:type_of% @wpAny_bind:= @wpAny_bind
theorem By:type_of% @wpAny_mono:= @wpAny_mono
theorem Bz:type_of% @Array.length_toList:= @Array.length_toList
theorem BA:type_of% @List.length_range:= @List.length_range
theorem BB:type_of% @Bool.false_ne_true:= @Bool.false_ne_true
theorem BC:type_of% @Nat.not_lt:= @Nat.not_lt
theorem BD:type_of% @beq_self_eq_true:= @beq_self_eq_true
theorem BF:type_of% @eq_of_beq:= @eq_of_beq
theorem nD{a b c:Nat}(h:a<=b)(k:Nat.ble b c=true):a<=c:=Ac h (AH k)
def auS(a:Array Lean.Syntax):Lean.Syntax:= .node .none `Lean.Parser.Tactic.tacticSeq #[.node .none `Lean.Parser.Tactic.tacticSeq1Indented #[.node .none `null a]]
def auX:Lean.Syntax:= .node .none `Lean.Parser.Tactic.withUnfoldingAll #[.atom .none "with_unfolding_all",auS #[.node .none `Lean.Parser.Tactic.exact #[.atom .none "exact",.ident .none "rfl".toRawSubstring `rfl []]]]
def auR:Lean.Syntax:=auS #[auX]
def auF:Lean.Syntax:=auS #[.node .none `Lean.Parser.Tactic.intro #[.atom .none "intro",.node .none `null #[.node .none `Lean.Parser.Term.hole #[.atom .none "_"]]],.atom .none ";",auX]
set_option genSizeOf false in
inductive V where
 |none
 |bool (b:Bool)
 |int (i:Int)
 |str (x:Str)
 |tup (vs:List V)
 |lst (vs:List V)
 |dct (es:List (V×V))
 |rng (lo hi st:Int)
 |slc (l u s:V)
 |ref (a:Addr)
 |type (n:String)
 |bi (n:String)
set_option genSizeOf false in
inductive AO where
 |list (vs:List V)
 |dict (es:List (V×V))
 |inst (c dx:Addr) (fs:List (Str×V))
abbrev Gh:=Addr->Option Obj
abbrev Sto:=List (Addr×Obj×AO)
abbrev Loc:=List (Option V)
abbrev LI:=List (Str×Int)
abbrev LA:=List (Str×Addr)
abbrev LV:=List (Str×V)
abbrev VP:=V->Sto->Prop
noncomputable abbrev y5g(vs:Array Value)(n:Nat):Obj:={cls:= .type "tuple",data:= .seq vs n}
noncomputable abbrev z0q(vs:Array Value)(n:Nat):Obj:={cls:= .type "list",data:= .seq vs n}
noncomputable abbrev z1G(es:Array DictEntry)(n:Nat):Obj:={cls:= .type "dict",data:= .dict es n}
noncomputable abbrev z84(c dx:Addr):Obj:={cls:= .ref c,dict:=some dx}
noncomputable def KH(w:World):V->Int->Prop
 | .int i,h=>h=hashInt i
 | .str x,h=>h=hashStr w x
 |_,_=>False
mutual
inductive VR(w:World)(D:Gh):Value->V->Prop
 |none:VR w D .none .none
 |bool (b:Bool):VR w D (.bool b) (.bool b)
 |int (i:Int) (t:Tok):VR w D (.int i t) (.int i)
 |str (x:Str) (t:Tok):VR w D (.str x t) (.str x)
 |ref (a:Addr):VR w D (.ref a) (.ref a)
 |type (n:String):VR w D (.type n) (.type n)
 |bi (n:String):VR w D (.builtin n) (.bi n)
 |tup {a:Addr} {o:Obj} {vs:List Value} {n:Nat} {Vs:List V}:D a=some o->o.cls= .type "tuple"->o.data= .seq vs.toArray n->A6 w D vs Vs->VR w D (.ref a) (.tup Vs)
 |lst {a:Addr} {vs:List Value} {n:Nat} {Vs:List V}:D a=some (z0q vs.toArray n)->A6 w D vs Vs->VR w D (.ref a) (.lst Vs)
 |rng {a:Addr} {x y z:Int} {t u v:Tok}:D a=some {cls:= .type "range",dict:=none,data:= .fields #[.int x t,.int y u,.int z v],slots:= #[]}->VR w D (.ref a) (.rng x y z)
 |slc {a:Addr} {l u st:Value} {L U S:V}:D a=some {cls:= .type "slice",data:= .fields #[l,u,st]}->VR w D l L->VR w D u U->VR w D st S->VR w D (.ref a) (.slc L U S)
 |dct {a:Addr} {es:List DictEntry} {n:Nat} {Es:List (V×V)}:D a=some (z1G es.toArray n)->F5 w D es Es->VR w D (.ref a) (.dct Es)
inductive A6(w:World)(D:Gh):List Value->List V->Prop
 |nil:A6 w D [] []
 |cons {v:Value} {x:V} {vs:List Value} {xs:List V}:VR w D v x->A6 w D vs xs->A6 w D (v::vs) (x::xs)
inductive F5(w:World)(D:Gh):List DictEntry->List (V×V)->Prop
 |nil:F5 w D [] []
 |cons {e:DictEntry} {k x:V} {es:List DictEntry} {xs:List (V×V)}:KH w k e.hash->VR w D e.key k->VR w D e.val x->F5 w D es xs->F5 w D (e::es) ((k,x)::xs)
end
section
variable {w:World} {D:Gh}
noncomputable def VR.I(w:World)(D:Gh)(v:Value):V->Prop
 | .none=>v= .none
 | .bool b=>v= .bool b
 | .int n=>∃t,v= .int n t
 | .str n=>∃t,v= .str n t
 | .ref a=>v= .ref a
 | .type n=>v= .type n
 | .bi n=>v= .builtin n
 | .tup xs=>∃a o vs n,v= .ref a/\D a=some o/\o.cls= .type "tuple"/\o.data= .seq (List.toArray vs) n/\A6 w D vs xs
 | .lst xs=>∃a vs n,v= .ref a/\D a=some (z0q (List.toArray vs) n)/\A6 w D vs xs
 | .rng x y z=>∃a t u r,v= .ref a/\D a=some {cls:= .type "range",dict:=Option.none,data:= .fields #[.int x t,.int y u,.int z r],slots:= #[]}
 | .slc L U S=>∃a l u st,v= .ref a/\D a=some {cls:= .type "slice",data:= .fields #[l,u,st]}/\VR w D l L/\VR w D u U/\VR w D st S
 | .dct xs=>∃a es n,v= .ref a/\D a=some (z1G (List.toArray es) n)/\F5 w D es xs
theorem VR.inv{v:Value}{x:V}(h:VR w D v x):VR.I w D v x:=
 h.casesOn (motive_1:=λv x _=>VR.I w D v x) rfl (λ_=>rfl) (λ_ t=>⟨t,rfl⟩) (λ_ t=>⟨t,rfl⟩) (λ_=>rfl) (λ_=>rfl) (λ_=>rfl) (λe c q r=>⟨_,_,_,_,rfl,e,c,q,r⟩) (λe r=>⟨_,_,_,rfl,e,r⟩) (λe=>⟨_,_,_,_,rfl,e⟩) (λe a b c=>⟨_,_,_,_,rfl,e,a,b,c⟩) (λe r=>⟨_,_,_,rfl,e,r⟩)
noncomputable def A6.I(w:World)(D:Gh)(vs:List Value):List V->Prop
 |[]=>vs=[]
 |X::xs=>∃y r,vs=y::r/\VR w D y X/\A6 w D r xs
theorem A6.inv{vs:List Value}{xs:List V}(h:A6 w D vs xs):A6.I w D vs xs:=
 h.casesOn (motive_2:=λv x _=>A6.I w D v x) rfl (λa b=>⟨_,_,rfl,a,b⟩)
noncomputable def F5.I(w:World)(D:Gh)(es:List DictEntry):List (V×V)->Prop
 |[]=>es=[]
 |p::xs=>∃e r,es=e::r/\KH w p.1 e.hash/\VR w D e.key p.1/\VR w D e.val p.2/\F5 w D r xs
theorem F5.inv{es:List DictEntry}{xs:List (V×V)}(h:F5 w D es xs):F5.I w D es xs:=
 h.casesOn (motive_3:=λv x _=>F5.I w D v x) rfl (λk a b c=>⟨_,_,rfl,k,a,b,c⟩)
variable {v:Value}
theorem VR.noneI(h:VR w D v .none):v= .none:=h.inv
theorem VR.boolI{b:Bool}(h:VR w D v (.bool b)):v= .bool b:=h.inv
theorem VR.biI{n:String}(h:VR w D v (.bi n)):v= .builtin n:=h.inv
theorem VR.typeI{n:String}(h:VR w D v (.type n)):v= .type n:=h.inv
theorem VR.refI{a:Addr}(h:VR w D v (.ref a)):v= .ref a:=h.inv
theorem VR.intI{n:Int}(h:VR w D v (.int n)):∃t,v= .int n t:=h.inv
theorem VR.strI{n:Str}(h:VR w D v (.str n)):∃t,v= .str n t:=h.inv
theorem A6.nilI{vs:List Value}(h:A6 w D vs []):vs=[]:=h.inv
theorem A6.consI{vs:List Value}{X:V}{xs:List V}(h:A6 w D vs (X::xs)):∃y r,vs=y::r/\VR w D y X/\A6 w D r xs:=h.inv
theorem VR.tupI{xs:List V}(h:VR w D v (.tup xs)):∃a o vs n,v= .ref a/\D a=some o/\o.cls= .type "tuple"/\o.data= .seq (List.toArray vs) n/\A6 w D vs xs:=h.inv
theorem VR.lstI{xs:List V}(h:VR w D v (.lst xs)):∃a vs n,v= .ref a/\D a=some (z0q (List.toArray vs) n)/\A6 w D vs xs:=h.inv
theorem F5.nilI{es:List DictEntry}(h:F5 w D es []):es=[]:=h.inv
theorem F5.consI{es:List DictEntry}{p:V×V}{xs:List (V×V)}(h:F5 w D es (p::xs)):∃e r,es=e::r/\KH w p.1 e.hash/\VR w D e.key p.1/\VR w D e.val p.2/\F5 w D r xs:=h.inv
theorem VR.dctI{xs:List (V×V)}(h:VR w D v (.dct xs)):∃a es n,v= .ref a/\D a=some (z1G (List.toArray es) n)/\F5 w D es xs:=h.inv
theorem VR.rngI{x y z:Int}(h:VR w D v (.rng x y z)):∃a t u r,v= .ref a/\D a=some {cls:= .type "range",dict:=Option.none,data:= .fields #[.int x t,.int y u,.int z r],slots:= #[]}:=h.inv
theorem VR.slcI{L U S:V}(h:VR w D v (.slc L U S)):∃a l u st,v= .ref a/\D a=some {cls:= .type "slice",data:= .fields #[l,u,st]}/\VR w D l L/\VR w D u U/\VR w D st S:=h.inv
end
theorem z0X{α β:Type}{f:α->β}{l:List α}{y:β}{P:β->Prop}(h:y∈l.map f)(k:∀x,x∈l->P (f x)):P y:=by obtain⟨x,hx,rfl⟩:=Ah.mp h;exact k x hx
theorem z0Z{α β:Type}{f:α->β}{o:Option α}{y:β}{P:β->Prop}(h:o.map f=some y)(k:∀x,o=some x->P (f x)):P y:=by obtain⟨x,hx,rfl⟩:=Bw.mp h;exact k x hx
theorem ff{P:Prop}(h:false=true):P:=nomatch h
theorem z7c{n:Nat}(h:n<=sizeLine):(n:Int)<2^63:=Int.lt_of_le_of_lt (Bk.mpr h) (by decide)
theorem nG{P:Prop}(h:(P->False)->False):P:=Classical.byContradiction h
theorem tf{P:Prop}(h:true=false):P:=nomatch h
section
variable {w:World} {D:Gh} {v:Value} {vs:List Value} {P:Value->Prop} {Ps:List Value->Prop}
theorem VR.noneE(h:VR w D v .none)(k:P .none):P v:=h.noneI▸k
theorem VR.boolE{b:Bool}(h:VR w D v (.bool b))(k:P (.bool b)):P v:=h.boolI▸k
theorem VR.biE{n:String}(h:VR w D v (.bi n))(k:P (.builtin n)):P v:=h.biI▸k
theorem VR.typeE{n:String}(h:VR w D v (.type n))(k:P (.type n)):P v:=h.typeI▸k
theorem VR.refE{a:Addr}(h:VR w D v (.ref a))(k:P (.ref a)):P v:=h.refI▸k
theorem VR.intE{n:Int}(h:VR w D v (.int n))(k:∀t,P (.int n t)):P v:=by obtain⟨t,e⟩:=h.intI;rw[e];exact k t
theorem VR.strE{n:Str}(h:VR w D v (.str n))(k:∀t,P (.str n t)):P v:=by obtain⟨t,e⟩:=h.strI;rw[e];exact k t
theorem A6.nilE(h:A6 w D vs [])(k:Ps []):Ps vs:=h.nilI▸k
theorem A6.consE{X:V}{xs:List V}(h:A6 w D vs (X::xs))(k:∀y r,VR w D y X->A6 w D r xs->Ps (y::r)):Ps vs:=by obtain⟨y,r,e,a,b⟩:=h.consI;rw[e];exact k y r a b
end
def Sub(D D':Gh):Prop:=∀a o,D a=some o->D' a=some o
theorem Sub.refl(D:Gh):Sub D D:=λ_ _ e=>e
theorem Sub.trans{D D' D'':Gh}(h:Sub D D')(h':Sub D' D''):Sub D D'':=λa o e=>h' a o (h a o e)
section
variable {w:World} {D D':Gh}
theorem VR.mono(h:Sub D D'){v:Value}{x:V}(r:VR w D v x):VR w D' v x:=
 VR.rec (motive_1:=λv x _=>VR w D' v x) (motive_2:=λv x _=>A6 w D' v x) (motive_3:=λv x _=>F5 w D' v x)
  .none .bool .int .str .ref .type .bi (λe c q _ ih=> .tup (h _ _ e) c q ih) (λe _ ih=> .lst (h _ _ e) ih) (λe=> .rng (h _ _ e)) (λe _ _ _ a b c=> .slc (h _ _ e) a b c) (λe _ ih=> .dct (h _ _ e) ih)
  .nil (λ_ _ a b=> .cons a b) .nil (λk _ _ _ a b c=> .cons k a b c) r
theorem A6.mono(h:Sub D D'):∀{x:List V} {v:List Value},A6 w D v x->A6 w D' v x:=λ{x}=>by
 induction x with
 |nil=>intro v r;rw[A6.nilI r];exact .nil
 |cons X xs ih=>intro v r;obtain⟨_,_,rfl,a,b⟩:=A6.consI r;exact .cons (a.mono h) (ih b)
theorem F5.mono(h:Sub D D'){v:List DictEntry}{x:List (V×V)}(r:F5 w D v x):F5 w D' v x:=
 F5.rec (motive_1:=λv x _=>VR w D' v x) (motive_2:=λv x _=>A6 w D' v x) (motive_3:=λv x _=>F5 w D' v x)
  .none .bool .int .str .ref .type .bi (λe c q _ ih=> .tup (h _ _ e) c q ih) (λe _ ih=> .lst (h _ _ e) ih) (λe=> .rng (h _ _ e)) (λe _ _ _ a b c=> .slc (h _ _ e) a b c) (λe _ ih=> .dct (h _ _ e) ih)
  .nil (λ_ _ a b=> .cons a b) .nil (λk _ _ _ a b c=> .cons k a b c) r
theorem A6.length:∀{x:List V} {v:List Value},A6 w D v x->v.length=x.length:=λ{x}=>by
 induction x with
 |nil=>intro v r;rw[A6.nilI r];rfl
 |cons X xs ih=>intro v r;obtain⟨_,_,rfl,a,b⟩:=A6.consI r;exact congrArg (·+1) (ih b)
theorem A6.append{v v':List Value}{x x':List V}(r:A6 w D v x)(h':A6 w D v' x'):A6 w D (v++v') (x++x'):=by
 induction x generalizing v with
 |nil=>rw[A6.nilI r];exact h'
 |cons X xs ih=>obtain⟨_,_,rfl,a,b⟩:=A6.consI r;exact .cons a (ih b)
theorem A6.get:∀{x:List V} {v:List Value},A6 w D v x->∀{i:Nat} {X:V},x[i]? =some X->∃u,v[i]? =some u/\VR w D u X:=λ{x}=>by
 induction x with
 |nil=>intro v r i X h;cases h
 |cons Y xs ih=>
  intro v r i X h
  obtain⟨u,_,rfl,a,b⟩:=A6.consI r
  cases i with
  |zero=>cases h;exact⟨u,rfl,a⟩
  |succ i=>exact ih b h
theorem A6.get':∀{x:List V} {v:List Value},A6 w D v x->∀{i:Nat} {u:Value},v[i]? =some u->∃X,x[i]? =some X/\VR w D u X:=λ{x}=>by
 induction x with
 |nil=>intro v r i u h;rw[A6.nilI r] at h;cases h
 |cons Y xs ih=>
  intro v r i u h
  obtain⟨_,_,rfl,a,b⟩:=A6.consI r
  cases i with
  |zero=>cases h;exact⟨Y,rfl,a⟩
  |succ i=>exact ih b h
end
noncomputable def z0z(a:Addr):AO->List Addr
 | .inst _ dx _=>[a,dx]
 |_=>[a]
noncomputable def A5:Sto->List Addr
 |[]=>[]
 |(a,_,o)::r=>z0z a o++A5 r
theorem z06{σ:Sto}{a:Addr}{ob:Obj}{o:AO}(h:(a,ob,o)∈σ):∀b∈z0z a o,b∈A5 σ:=by
 induction σ with
 |nil=>cases h
 |cons p r ih=>
  intro b hb
  obtain⟨c,q,z⟩:=p
  rcases Ae.mp h with e|h
  ·cases e;exact Ai _ hb
  ·exact Aj _ (ih h b hb)
theorem z0C(a:Addr)(o:AO):a∈z0z a o:=by cases o<;>simp[z0z]
theorem z3h{σ:Sto}{a:Addr}{ob:Obj}{o:AO}(h:(a,ob,o)∈σ):a∈A5 σ:=z06 h a (z0C a o)
noncomputable def FR(w:World)(D:Gh):List DictEntry->LV->Prop
 |[],[]=>True
 |e::es,(n,x)::fs=>(∃t,e.key= .str n t)/\e.hash=hashStr w n/\VR w D e.val x/\FR w D es fs
 |_,_=>False
theorem FR.mono{w:World}{D D':Gh}(h:Sub D D'):∀{es:List DictEntry} {fs:LV},FR w D es fs->FR w D' es fs
 |[],[],_=>trivial
 |e::es,(n,x)::fs,⟨a,b,c,d⟩=>⟨a,b,VR.mono h c,FR.mono h d⟩
 |[],_::_,h=>h.elim
 |_::_,[],h=>h.elim
noncomputable def HR(w:World)(D:Gh)(o:Obj):AO->Prop
 | .list xs=>∃vs n,o=z0q vs n/\A6 w D vs.toList xs
 | .dict xs=>∃es n,o=z1G es n/\F5 w D es.toList xs
 | .inst _ _ fs=>∃es n,o=z1G es n/\FR w D es.toList fs
theorem HR.mono{w:World}{D D':Gh}{o:Obj}(hs:Sub D D'):∀{x:AO},HR w D o x->HR w D' o x
 | .list _,⟨vs,n,e,r⟩=>⟨vs,n,e,r.mono hs⟩
 | .dict _,⟨vs,n,e,r⟩=>⟨vs,n,e,r.mono hs⟩
 | .inst _ _ _,⟨vs,n,e,r⟩=>⟨vs,n,e,FR.mono hs r⟩
noncomputable def PR(h:Heap)(a:Addr)(o:Obj):AO->Prop
 | .inst c dx _=>h.get? a=some (z84 c dx)/\h.get? dx=some o
 |_=>h.get? a=some o
theorem PR.at{h h':Heap}{a:Addr}{o:Obj}:∀{x:AO},(∀b∈z0z a x,∀ob,h.get? b=some ob->h'.get? b=some ob)->PR h a o x->PR h' a o x
 | .list _,k,e=>k a (by simp[z0z]) _ e
 | .dict _,k,e=>k a (by simp[z0z]) _ e
 | .inst _ _ _,k,⟨e,e'⟩=>⟨k _ (by simp[z0z]) _ e,k _ (by simp[z0z]) _ e'⟩
theorem PR.lives{h:Heap}{a:Addr}{o:Obj}:∀{x:AO},PR h a o x->∀b∈z0z a x,∃ob,h.get? b=some ob
 | .list _,e,b,hb=>by simp[z0z] at hb;subst hb;exact⟨_,e⟩
 | .dict _,e,b,hb=>by simp[z0z] at hb;subst hb;exact⟨_,e⟩
 | .inst _ _ _,⟨e,e'⟩,b,hb=>by
  simp[z0z] at hb
  rcases hb with rfl|rfl
  ·exact⟨_,e⟩
  ·exact⟨_,e'⟩
set_option genInjectivity false in
structure Cx where
 prog:Program
 w:World
 base:Heap
 s₀:Shared
 mg:Str->Option Value
 mb:Str->Option Value
 hg:base.Ns mainGlobals mg
 hb:base.Ns builtinsNs mb
 lim:base.NoLimit
 hm:Option (Option Addr)
 fs:Option (List Env)
class HM (C:Cx):Prop where
 h:C.hm=some Option.none
class NF (C:Cx):Prop where
 h:C.fs=Option.none
noncomputable abbrev Cx.M(C:Cx):Model:=model C.prog C.w
def frk(o:Obj):Prop:=o.cls= .type "#frame"
noncomputable def mkF(o:Obj):Obj:={o with cls:= .type "#frame"}
def Eqs(o o':Obj):Prop:=o'.data=o.data/\(¬frk o->o'=o)
theorem Eqs.refl(o:Obj):Eqs o o:=⟨rfl,λ_=>rfl⟩
theorem Eqs.mk(o:Obj):Eqs (mkF o) o:=⟨rfl,λn=>absurd rfl n⟩
theorem Eqs.trans{o o' o'':Obj}(h:Eqs o o')(h':Eqs o' o''):Eqs o o'':=⟨h'.1.trans h.1,λn=>(h'.2 (h.2 n▸n)).trans (h.2 n)⟩
theorem Eqs.eq{o o':Obj}(h:Eqs o o')(n:¬frk o):o'=o:=h.2 n
theorem frN{n:String}(h:(n=="#frame")=false):Value.type n≠ .type "#frame":=λe=>by
 injection e with e
 rw[e] at h;exact nomatch h
theorem nfC{o:Obj}(h:o.cls≠ .type "#frame"):¬frk o:=λq=>h q
structure RelC(C:Cx)(G D:Gh)(σ:Sto)(s:Shared):Prop where
 same:∃h tk,s={C.s₀ with heap:=h,toks:=tk}
 bs:∀a o,C.base.get? a=some o->s.heap.get? a=some o
 g:∀a o,G a=some o->∃o',s.heap.get? a=some o'/\Eqs o o'
 d:∀a o,D a=some o->s.heap.get? a=some o
 base:∀a o,C.base.get? a=some o->G a=some o
 nd:(A5 σ).Nodup
 offG:∀a∈A5 σ,G a=none
 offD:∀a∈A5 σ,D a=none
 pl:∀p∈σ,PR s.heap p.1 p.2.1 p.2.2
 sto:∀p∈σ,HR C.w D p.2.1 p.2.2
theorem RelC.ge{C:Cx}{G D:Gh}{σ:Sto}{s:Shared}(R:RelC C G D σ s){a:Addr}{o:Obj}(h:G a=some o)(n:¬frk o):s.heap.get? a=some o:=by
 obtain⟨o',h1,h2⟩:=R.g a o h
 rw[h1,h2.eq n]
theorem PR.nf{w:World}{D:Gh}{h:Heap}{a:Addr}{o:Obj}:∀{x:AO},PR h a o x->HR w D o x->∀b∈z0z a x,∀ob,h.get? b=some ob->¬frk ob
 | .list _,e,⟨_,_,q,_⟩,b,hb,ob,hob,n=>by
  rw[Af.mp hb,e] at hob
  rw[<-Bs hob,q] at n;exact frN (by decide) n
 | .dict _,e,⟨_,_,q,_⟩,b,hb,ob,hob,n=>by
  rw[Af.mp hb,e] at hob
  rw[<-Bs hob,q] at n;exact frN (by decide) n
 | .inst _ _ _,⟨e,e'⟩,⟨_,_,q,_⟩,b,hb,ob,hob,n=>by
  rcases Ae.mp hb with rfl|hb
  ·rw[e] at hob;rw[<-Bs hob] at n;exact nomatch n
  ·rw[Af.mp hb,e'] at hob
   rw[<-Bs hob,q] at n;exact frN (by decide) n
theorem RelC.g'{C:Cx}{G D:Gh}{σ:Sto}{s:Shared}(R:RelC C G D σ s){h':Heap}{a:Addr}{o:Obj}(e:G a=some o)(k:∀o',s.heap.get? a=some o'->h'.get? a=some o'):∃o',h'.get? a=some o'/\Eqs o o':=by
 obtain⟨o',h1,h2⟩:=R.g a o e
 exact⟨o',k o' h1,h2⟩
theorem RelC.noG{C:Cx}{G D:Gh}{σ:Sto}{s:Shared}(R:RelC C G D σ s){a:Addr}(h:∀o,s.heap.get? a≠some o):G a=Option.none:=Option.eq_none_iff_forall_not_mem.mpr λo e=>by
 obtain⟨o',h1,_⟩:=R.g a o e
 exact h o' h1
structure DX(G D D':Gh):Prop where
 sub:Sub D D'
 off:∀a,D a=none->G a≠none->D' a=none
theorem DX.refl(G D:Gh):DX G D D:=⟨Sub.refl D,λ_ h _=>h⟩
theorem DX.trans{G D D' D'':Gh}(h:DX G D D')(h':DX G D' D''):DX G D D'':=⟨h.sub.trans h'.sub,λa e g=>h'.off a (h.off a e g) g⟩
theorem DX.less{G G' D D':Gh}(h:DX G' D D')(hg:∀a,G a≠none->G' a≠none):DX G D D':=⟨h.sub,λa e g=>h.off a e (hg a g)⟩
structure C9(C:Cx)(A:Around)(d:Nat):Prop where
 h:∀x,C.hm=some x->A.handled=x.map .ref
 fr:∀l,C.fs=some l->A.frames=some l
 depth:A.depth+d<1000
 units:A.units+8*d<9000
theorem C9.hh{C:Cx}[HM C]{A:Around}{d:Nat}(h:C9 C A d):A.handled= .none:=h.h _ HM.h
inductive A0(C:Cx)(G D:Gh)(Q:VP)(v:Value)(s':Shared):Prop
 |mk (x:V) (D':Gh) (σ':Sto):DX G D D'->VR C.w D' v x->RelC C G D' σ' s'->Q x σ'->A0 C G D Q v s'
def CW(C:Cx)(d:Nat)(f:Value)(xs:List V)(σ:Sto)(Q:VP):Prop:=
 ∀A G D s vs,C9 C A d->RelC C G D σ s->A6 C.w D vs xs->
  codeAny C.M A (.call f ⟨vs,[]⟩) (λr s'=>match r with| .ok (.ret v)=>A0 C G D Q v s'|_=>False) s
def z04(C:Cx)(x:Str)(X:V):Prop:=∃v,VR C.w (λ_=> .none) v X/\(C.mg x=some v∨(C.mg x= .none/\C.mb x=some v))
structure H0(C:Cx)(η:Env)(ν:List Str)(gl:LV)(own:Bool):Prop where
 fn:η.scope.kind= .function
 nd:ν.Nodup
 vk:∀x∈ν,(x==("__debug__":Str))=false/\(η.kindOf x=some .local∨(η.kindOf x=some .cell/\∃c,η.cells.lookup x=some c))
 ap:η.cells.Pairwise λx y=>x.2≠y.2
 gk:∀p∈gl,(p.1==("__debug__":Str))=false/\η.kindOf p.1=some .globalImplicit/\z04 C p.1 p.2
 gg:η.globals=mainGlobals
 gb:η.builtins=builtinsNs
structure A3(C:Cx)(η:Env)(ν:List Str)(gl:LV)(own:Bool)(G D:Gh)(m:Loc)(σ:Sto)(s:Shared):Prop extends RelC C G D σ s where
 ok:H0 C η ν gl own
 offL:G η.locals=none/\D η.locals=none/\η.locals∉A5 σ
 ns:∃mm,s.heap.Ns η.locals mm/\∀(i:Nat) x X,ν[i]? =some x->η.kindOf x=some .local->m[i]? =some (some X)->∃v,mm x=some v/\VR C.w D v X
 cl:∀(i:Nat) x c,ν[i]? =some x->η.kindOf x=some .cell->η.cells.lookup x=some c->
  c≠η.locals/\(∃ov,s.heap.IsCell c ov/\∀X,m[i]? =some (some X)->∃v,ov=some v/\VR C.w D v X)/\
  (if own then G c=none/\D c=none/\c∉A5 σ else∃o,G c=some o)
def z2y(η:Env)(ν:List Str)(a:Addr):Prop:=a=η.locals∨∃(i:Nat) (x:Str),ν[i]? =some x/\η.kindOf x=some .cell/\η.cells.lookup x=some a
open Classical in
noncomputable def z2g(η:Env)(ν:List Str)(G:Gh)(s:Shared):Gh:=λa=>if a=η.locals then(s.heap.get? a).map mkF else if z2y η ν a then s.heap.get? a else G a
section
variable {C:Cx} {η:Env} {ν:List Str} {gl:LV} {own:Bool} {G D D':Gh} {m:Loc} {σ σ':Sto} {s s':Shared}
theorem lift_loc:z2g η ν G s η.locals=(s.heap.get? η.locals).map mkF:=by unfold z2g;rw[if_pos rfl]
theorem z1y{a:Addr}(h:z2y η ν a)(n:a≠η.locals):z2g η ν G s a=s.heap.get? a:=by unfold z2g;rw[if_neg n,if_pos h]
theorem z1H{a:Addr}(h:¬z2y η ν a):z2g η ν G s a=G a:=by unfold z2g;rw[if_neg λe=>h (Or.inl e),if_neg h]
theorem z4g{a:Addr}{o:Obj}(h:z2y η ν a)(e:s.heap.get? a=some o):∃o',z2g η ν G s a=some o'/\Eqs o' o:=by
 by_cases n:a=η.locals
 ·subst n;rw[lift_loc,e];exact⟨_,rfl,.mk o⟩
 ·rw[z1y h n,e];exact⟨_,rfl,.refl o⟩
theorem A3.over(R:A3 C η ν gl own G D m σ s){a:Addr}{o:Obj}(h:G a=some o):∃o',z2g η ν G s a=some o'/\Eqs o o':=by
 by_cases hm:z2y η ν a
 ·have n:a≠η.locals:=λe=>by rw[e,R.offL.1] at h;cases h
  rw[z1y hm n];exact R.g a o h
 ·rw[z1H hm];exact⟨o,h,.refl o⟩
theorem A3.overN(R:A3 C η ν gl own G D m σ s){a:Addr}(h:z2g η ν G s a=none):G a=none:=by
 cases e:G a with
 |none=>rfl
 |some o=>obtain⟨o',h',_⟩:=R.over e;rw[h] at h';cases h'
theorem A3.mineFoot(R:A3 C η ν gl own G D m σ s){a:Addr}(h:z2y η ν a):a∉A5 σ:=by
 rcases h with rfl|⟨i,x,h1,h2,h3⟩
 ·exact R.offL.2.2
 ·have:=(R.cl i x a h1 h2 h3).2.2
  cases own with
  |true=>exact this.2.2
  |false=>
   obtain⟨o,ho⟩:=this
   intro hf
   rw[R.offG a hf] at ho;cases ho
theorem A3.mineLives(R:A3 C η ν gl own G D m σ s){a:Addr}(h:z2y η ν a):∃o,s.heap.get? a=some o:=by
 rcases h with rfl|⟨i,x,h1,h2,h3⟩
 ·obtain⟨mm,⟨o,_,_,ho,_⟩,_⟩:=R.ns;exact⟨o,ho⟩
 ·obtain⟨_,⟨ov,⟨o,ho,_⟩,_⟩,_⟩:=R.cl i x a h1 h2 h3;exact⟨o,ho⟩
theorem A3.lifted(R:A3 C η ν gl own G D m σ s):RelC C (z2g η ν G s) D σ s where
 same:=R.same
 bs:=R.bs
 g:=λa o h=>by
  by_cases hm:z2y η ν a
  ·by_cases n:a=η.locals
   ·rw[n,lift_loc] at h
    obtain⟨x,hx,e⟩:=Bw.mp h
    rw[n,<-e];exact⟨x,hx,.mk x⟩
   ·rw[z1y hm n] at h;exact⟨o,h,.refl o⟩
  ·rw[z1H hm] at h;exact R.g a o h
 d:=R.d
 base:=λa o h=>by
  have n:a≠η.locals:=λe=>by have:=R.base a o h;rw[e,R.offL.1] at this;cases this
  by_cases hm:z2y η ν a
  ·rw[z1y hm n];exact R.bs a o h
  ·rw[z1H hm];exact R.base a o h
 nd:=R.nd
 offG:=λa h=>by
  by_cases hm:z2y η ν a
  ·exact absurd h (R.mineFoot hm)
  ·rw[z1H hm];exact R.offG a h
 offD:=R.offD
 pl:=R.pl
 sto:=R.sto
theorem A3.dx(R:A3 C η ν gl own G D m σ s)(h:DX (z2g η ν G s) D D'):DX G D D':=
 h.less λa g=>by
  cases e:G a with
  |none=>exact absurd e g
  |some o=>obtain⟨o',h',_⟩:=R.over e;rw[h'];exact nofun
theorem A3.mineD(R:A3 C η ν gl own G D m σ s)(h:DX (z2g η ν G s) D D'){a:Addr}(hm:z2y η ν a)(hd:D a=none):D' a=none:=
 h.off a hd (by obtain⟨o,ho⟩:=R.mineLives hm;obtain⟨o',h',_⟩:=z4g (G:=G) hm ho;rw[h'];exact nofun)
theorem A3.back(R:A3 C η ν gl own G D m σ s)(R':RelC C (z2g η ν G s) D' σ' s')(h:DX (z2g η ν G s) D D'):A3 C η ν gl own G D' m σ' s' where
 same:=R'.same
 bs:=R'.bs
 g:=λa o e=>by
  obtain⟨o1,h1,q1⟩:=R.over e
  obtain⟨o2,h2,q2⟩:=R'.g a o1 h1
  exact⟨o2,h2,q1.trans q2⟩
 d:=R'.d
 base:=R.base
 nd:=R'.nd
 offG:=λa hf=>R.overN (R'.offG a hf)
 offD:=R'.offD
 pl:=R'.pl
 sto:=R'.sto
 ok:=R.ok
 offL:=⟨R.offL.1,R.mineD h (Or.inl rfl) R.offL.2.1,λhf=>by
  obtain⟨o,ho⟩:=R.mineLives (Or.inl rfl)
  obtain⟨o',h',_⟩:=z4g (G:=G) (Or.inl rfl) ho
  exact nomatch (R'.offG _ hf).symm.trans h'⟩
 ns:=by
  obtain⟨mm,⟨o,es,ep,ho,r⟩,hv⟩:=R.ns
  obtain⟨o1,h1,q1⟩:=z4g (G:=G) (Or.inl rfl) ho
  obtain⟨o',ho',q2⟩:=R'.g _ _ h1
  refine⟨mm,⟨o',es,ep,ho',(q2.1.trans q1.1.symm).trans r.1,r.2⟩,λi x X h1 h2 h3=> ?_⟩
  obtain⟨v,e,q⟩:=hv i x X h1 h2 h3
  exact⟨v,e,q.mono h.sub⟩
 cl:=λi x c h1 h2 h3=>by
  have hm:z2y η ν c:=Or.inr ⟨i,x,h1,h2,h3⟩
  obtain⟨hne,⟨ov,⟨o,ho,hd⟩,hx⟩,hw⟩:=R.cl i x c h1 h2 h3
  obtain⟨o',ho',q⟩:=R'.g _ _ ((z1y hm hne).trans ho)
  refine⟨hne,⟨ov,⟨o',ho',q.1.trans hd⟩,λX e=> ?_⟩,?_⟩
  ·obtain⟨v,e1,q⟩:=hx X e
   exact⟨v,e1,q.mono h.sub⟩
  ·cases own with
   |true=>
    refine⟨hw.1,R.mineD h hm hw.2.1,λhf=> ?_⟩
    have:=R'.offG _ hf
    rw[z1y hm hne,ho] at this;cases this
   |false=>exact hw
end
inductive B8(C:Cx)(η:Env)(ν:List Str)(gl:LV)(own:Bool)(G D:Gh)(m:Loc)(Q:VP)(v:Value)(s':Shared):Prop
 |mk (x:V) (D':Gh) (σ':Sto):DX G D D'->VR C.w D' v x->A3 C η ν gl own G D' m σ' s'->Q x σ'->B8 C η ν gl own G D m Q v s'
def AT(C:Cx)(η:Env)(ν:List Str)(gl:LV)(own:Bool)(d:Nat)(t:Sem Value)(m:Loc)(σ:Sto)(Q:VP):Prop:=
 ∀A G D s,C9 C A d->A3 C η ν gl own G D m σ s->wpAny C.M A t (B8 C η ν gl own G D m Q) (λ_ _=>False) s
section
variable {C:Cx} {η:Env} {ν:List Str} {gl:LV} {own:Bool} {d:Nat} {m:Loc} {σ:Sto} {Q Q':VP}
theorem AT.mono{t:Sem Value}(h:AT C η ν gl own d t m σ Q)(hQ:∀x σ',Q x σ'->Q' x σ'):AT C η ν gl own d t m σ Q':=
 λA G D s hA R=>By (h A G D s hA R) (λ_ _ hpp=>by obtain⟨x,D',σ',a,b,c,e⟩:=hpp;exact⟨x,D',σ',a,b,c,hQ _ _ e⟩) λ_ _ e=>e
end
class inductive Lk:List Str->Loc->Str->V->Prop
 |head {x:Str} {ns:List Str} {X:V} {m:Loc}:Lk (x::ns) (some X::m) x X
 |tail {x y:Str} {ns:List Str} {X:V} {o:Option V} {m:Loc}:Lk ns m x X->Lk (y::ns) (o::m) x X
theorem Lk.get{ns:List Str}{m:Loc}{x:Str}{X:V}(h:Lk ns m x X):∃i:Nat,ns[i]? =some x/\m[i]? =some (some X):=by
 induction h with
 |head=>exact⟨0,rfl,rfl⟩
 |tail _ ih=>obtain⟨i,a,b⟩:=ih;exact⟨i+1,by simpa using a,by simpa using b⟩
class inductive F4:List Str->Loc->Str->V->Loc->Prop
 |head {x:Str} {ns:List Str} {X:V} {o:Option V} {m:Loc}:F4 (x::ns) (o::m) x X (some X::m)
 |tail {x y:Str} {ns:List Str} {X:V} {o:Option V} {m m':Loc}:F4 ns m x X m'->F4 (y::ns) (o::m) x X (o::m')
theorem F4.get{ns:List Str}{m m':Loc}{x:Str}{X:V}(h:F4 ns m x X m'):∃i:Nat,ns[i]? =some x/\m'=m.set i (some X):=by
 induction h with
 |head=>exact⟨0,rfl,rfl⟩
 |tail _ ih=>obtain⟨i,a,b⟩:=ih;exact⟨i+1,by simpa using a,by simp[b]⟩
section
variable {C:Cx} {η:Env} {ν:List Str} {gl:LV} {own:Bool} {d:Nat} {m:Loc} {σ:Sto} {Q Q':VP}
variable {A:Around} {G D D₁:Gh} {s:Shared}
theorem AT.run{t:Sem Value}(h:AT C η ν gl own d t m σ Q)(hA:C9 C A d)(R:A3 C η ν gl own G D m σ s){K:Value->Shared->Prop}
  (k:∀v s' x D' σ',DX G D D'->VR C.w D' v x->A3 C η ν gl own G D' m σ' s'->Q x σ'->K v s'):wpAny C.M A t K (λ_ _=>False) s:=
 By (h A G D s hA R) (λv s' hpp=>by obtain⟨x,D',σ',a,b,c,e⟩:=hpp;exact k v s' x D' σ' a b c e) λ_ _ e=>e
theorem B8.weak{v:Value}{s':Shared}(h:DX G D D₁)(p:B8 C η ν gl own G D₁ m Q v s'):B8 C η ν gl own G D m Q v s':=
 by obtain⟨x,D',σ',a,b,c,e⟩:=p;exact⟨x,D',σ',h.trans a,b,c,e⟩
theorem z1e{t:Sem Value}(h:DX G D D₁)(p:wpAny C.M A t (B8 C η ν gl own G D₁ m Q) (λ_ _=>False) s):wpAny C.M A t (B8 C η ν gl own G D m Q) (λ_ _=>False) s:=
 By p (λ_ _ q=>q.weak h) λ_ _ e=>e
theorem RelC.tok(R:RelC C G D σ s)(t:Nat):RelC C G D σ {s with toks:=t}:=
 ⟨let⟨h,_,e⟩:=R.same;⟨h,t,by rw[e]⟩,R.bs,R.g,R.d,R.base,R.nd,R.offG,R.offD,R.pl,R.sto⟩
theorem A3.tok(R:A3 C η ν gl own G D m σ s)(t:Nat):A3 C η ν gl own G D m σ {s with toks:=t}:=
 {R.toRelC.tok t with ok:=R.ok,offL:=R.offL,ns:=R.ns,cl:=R.cl}
theorem B8.now{v:Value}{x:V}(R:A3 C η ν gl own G D m σ s)(hv:VR C.w D v x)(q:Q x σ):B8 C η ν gl own G D m Q v s:=⟨x,D,σ,DX.refl _ _,hv,R,q⟩
theorem A0.now{v:Value}{x:V}(R:RelC C G D σ s)(hv:VR C.w D v x)(q:Q x σ):A0 C G D Q v s:=⟨x,D,σ,DX.refl _ _,hv,R,q⟩
theorem z6W{x:Str}{p:Pos}{X:V}(h:Lk ν m x X)(q:Q X σ):AT C η ν gl own d (eval (.Name x p) η) m σ Q:=λA G D s hA R=>by
 obtain⟨i,h1,h2⟩:=h.get
 have hv:=R.ok.vk x (Ak h1)
 rcases hv.2 with hl|⟨hc,c,hcc⟩
 ·obtain⟨mm,hn,hmm⟩:=R.ns
  obtain⟨v,e,r⟩:=hmm i x X h1 hl h2
  exact wpAny_Name (wpAny_loadName_local R.ok.fn hl hn e (B8.now R r q)) hv.1
 ·obtain⟨_,⟨ov,hcell,hx⟩,_⟩:=R.cl i x c h1 hc hcc
  obtain⟨v,rfl,r⟩:=hx X h2
  exact wpAny_Name (wpAny_loadName_cell R.ok.fn hc hcc hcell (B8.now R r q)) hv.1
theorem VR.any{w:World}{v:Value}{x:V}(h:VR w (λ_=>Option.none) v x)(D:Gh):VR w D v x:=h.mono λ_ _ e=>by cases e
theorem z1j{x:Str}{p:Pos}{X:V}(h:(x,X)∈gl)(q:Q X σ):AT C η ν gl own d (eval (.Name x p) η) m σ Q:=λA G D s hA R=>by
 obtain⟨h1,h2,v,hv,h3⟩:=R.ok.gk _ h
 have keep:∀b o,C.base.get? b=some o->s.heap.get? b=some o:=R.bs
 have ng:s.heap.Ns η.globals C.mg:=by rw[R.ok.gg];exact C.hg.keeps keep
 have nb:s.heap.Ns η.builtins C.mb:=by rw[R.ok.gb];exact C.hb.keeps keep
 have fin:B8 C η ν gl own G D m Q v s:=B8.now R (hv.any D) q
 refine Calls.Name_function_global R.ok.fn h2 ?_ h1
 rcases h3 with h3|⟨h3,h4⟩
 ·exact Calls.loadGlobal_global ng h3 fin
 ·exact Calls.loadGlobal_builtin ng h3 nb h4 fin
theorem z0n{i:Int}{k:Nat}{p:Pos}(q:Q (.int i) σ):AT C η ν gl own d (eval (.Constant (.int i) k p) η) m σ Q:=λA G D s hA R=>
 wpAny_Constant_int (B8.now (R.tok _) (.int i _) q)
theorem z0r{x:Str}{k:Nat}{p:Pos}(q:Q (.str x) σ):AT C η ν gl own d (eval (.Constant (.str x) k p) η) m σ Q:=λA G D s hA R=>
 wpAny_Constant_str (B8.now (R.tok _) (.str x _) q)
theorem z6j{b:Bool}{k:Nat}{p:Pos}(q:Q (.bool b) σ):AT C η ν gl own d (eval (.Constant (.bool b) k p) η) m σ Q:=λA G D s hA R=>
 wpAny_Constant_bool (B8.now R (.bool b) q)
theorem z8v{k:Nat}{p:Pos}(q:Q .none σ):AT C η ν gl own d (eval (.Constant .none k p) η) m σ Q:=λA G D s hA R=>
 wpAny_Constant_none (B8.now R .none q)
end
def AC1(C:Cx)(d:Nat)(f:Value->Sem Value)(x:V)(σ:Sto)(Q:VP):Prop:=
 ∀A G D s v,C9 C A d->RelC C G D σ s->VR C.w D v x->wpAny C.M A (f v) (A0 C G D Q) (λ_ _=>False) s
def AC2(C:Cx)(d:Nat)(f:Value->Value->Sem Value)(x y:V)(σ:Sto)(Q:VP):Prop:=
 ∀A G D s v u,C9 C A d->RelC C G D σ s->VR C.w D v x->VR C.w D u y->wpAny C.M A (f v u) (A0 C G D Q) (λ_ _=>False) s
def TR(C:Cx)(d:Nat)(x:V)(σ:Sto)(b:Bool):Prop:=
 ∀A G D s v,C9 C A d->RelC C G D σ s->VR C.w D v x->∀(K:Bool->Shared->Prop),(∀tk,K b {s with toks:=tk})->wpAny C.M A (truthy v) K (λ_ _=>False) s
section
variable {C:Cx} {η:Env} {ν:List Str} {gl:LV} {own:Bool} {d:Nat} {m:Loc} {σ:Sto} {Q Q':VP}
variable {A:Around} {G D D₁:Gh} {s:Shared}
theorem AC1.inF{f:Value->Sem Value}{x:V}(h:AC1 C d f x σ Q){v:Value}(hA:C9 C A d)(R:A3 C η ν gl own G D m σ s)(hv:VR C.w D v x):
  wpAny C.M A (f v) (B8 C η ν gl own G D m Q) (λ_ _=>False) s:=
 By (h A _ D s v hA R.lifted hv) (λ_ _ hpp=>by obtain⟨x,D',σ',a,b,c,e⟩:=hpp;exact⟨x,D',σ',R.dx a,b,R.back c a,e⟩) λ_ _ e=>e
theorem AC2.inF{f:Value->Value->Sem Value}{x y:V}(h:AC2 C d f x y σ Q){v u:Value}(hA:C9 C A d)(R:A3 C η ν gl own G D m σ s)(hv:VR C.w D v x)(hu:VR C.w D u y):
  wpAny C.M A (f v u) (B8 C η ν gl own G D m Q) (λ_ _=>False) s:=
 By (h A _ D s v u hA R.lifted hv hu) (λ_ _ hpp=>by obtain⟨x,D',σ',a,b,c,e⟩:=hpp;exact⟨x,D',σ',R.dx a,b,R.back c a,e⟩) λ_ _ e=>e
theorem z0O{l r:Expr}{op:Operator}{p:Pos}(h:AT C η ν gl own d (eval l η) m σ λX σ₁=>AT C η ν gl own d (eval r η) m σ₁ λY σ₂=>AC2 C d (binaryOp op) X Y σ₂ Q):
  AT C η ν gl own d (eval (.BinOp l op r p) η) m σ Q:=λA G D s hA R=>
 wpAny_BinOp (h.run hA R λv s₁ X D₁ σ₁ a b c e=>By (By (e A G D₁ s₁ hA c) (λu s₂ hpp=>by obtain⟨Y,D₂,σ₂,a',b',c',e'⟩:=hpp;exact z1e (a.trans a') (e'.inF hA c' (b.mono a'.sub) b')) λ_ _ x=>x) (λ_ _ x=>x) λ_ _ x=>x)
theorem z6i{l r:Expr}{op:CmpOp}{p:Pos}(h:AT C η ν gl own d (eval l η) m σ λX σ₁=>AT C η ν gl own d (eval r η) m σ₁ λY σ₂=>AC2 C d (compareOp op) X Y σ₂ Q)
  (hm:autoParam (behindInMarks op r=false) auR):
  AT C η ν gl own d (eval (.Compare l [op] [r] p) η) m σ Q:=λA G D s hA R=>
 wpAny_Compare1 (h.run hA R λv s₁ X D₁ σ₁ a b c e=>By (e A G D₁ s₁ hA c) (λu s₂ hpp=>by obtain⟨Y,D₂,σ₂,a',b',c',e'⟩:=hpp;exact z1e (a.trans a') (e'.inF hA c' (b.mono a'.sub) b')) λ_ _ x=>x) hm
theorem z90{x:Expr}{op:UnaryOp}{p:Pos}(h:AT C η ν gl own d (eval x η) m σ λX σ₁=>AC1 C d (unaryOp op) X σ₁ Q):AT C η ν gl own d (eval (.UnaryOp op x p) η) m σ Q:=λA G D s hA R=>
 wpAny_UnaryOp (h.run hA R λv s₁ X D₁ σ₁ a b c e=>z1e a (e.inF hA c b))
theorem z6h{X:V}{b:Bool}(t:TR C d X σ b)(q:Q (.bool (!b)) σ):AC1 C d (unaryOp .Not) X σ Q:=λA G D s v hA R hv=>
 not_value (t A G D s v hA R hv _ λtk=>A0.now (R.tok tk) (.bool _) q)
inductive F6(C:Cx)(η:Env)(ν:List Str)(gl:LV)(own:Bool)(G D:Gh)(m:Loc)(Q:Bool->Sto->Prop)(b:Bool)(s':Shared):Prop
 |mk (D':Gh) (σ':Sto):DX G D D'->A3 C η ν gl own G D' m σ' s'->Q b σ'->F6 C η ν gl own G D m Q b s'
def AB(C:Cx)(η:Env)(ν:List Str)(gl:LV)(own:Bool)(d:Nat)(t:Sem Bool)(m:Loc)(σ:Sto)(Q:Bool->Sto->Prop):Prop:=
 ∀A G D s,C9 C A d->A3 C η ν gl own G D m σ s->wpAny C.M A t (F6 C η ν gl own G D m Q) (λ_ _=>False) s
variable {P:Bool->Sto->Prop}
theorem F6.weak{b:Bool}{s':Shared}(h:DX G D D₁)(p:F6 C η ν gl own G D₁ m P b s'):F6 C η ν gl own G D m P b s':=
 by obtain⟨D',σ',a,c,e⟩:=p;exact⟨D',σ',h.trans a,c,e⟩
theorem z7V{t:Sem Bool}(h:DX G D D₁)(p:wpAny C.M A t (F6 C η ν gl own G D₁ m P) (λ_ _=>False) s):wpAny C.M A t (F6 C η ν gl own G D m P) (λ_ _=>False) s:=
 By p (λ_ _ q=>q.weak h) λ_ _ e=>e
theorem AB.run{t:Sem Bool}(h:AB C η ν gl own d t m σ P)(hA:C9 C A d)(R:A3 C η ν gl own G D m σ s){K:Bool->Shared->Prop}
  (k:∀b s' D' σ',DX G D D'->A3 C η ν gl own G D' m σ' s'->P b σ'->K b s'):wpAny C.M A t K (λ_ _=>False) s:=
 By (h A G D s hA R) (λv s' hpp=>by obtain⟨D',σ',a,c,e⟩:=hpp;exact k v s' D' σ' a c e) λ_ _ e=>e
theorem TR.inF{x:V}{b:Bool}(t:TR C d x σ b){v:Value}(hA:C9 C A d)(R:A3 C η ν gl own G D m σ s)(hv:VR C.w D v x){K:Bool->Shared->Prop}(k:∀tk,K b {s with toks:=tk}):
  wpAny C.M A (truthy v) K (λ_ _=>False) s:=t A _ D s v hA R.lifted hv K k
def TRX(C:Cx)(d:Nat)(x:V)(σ:Sto)(P:Bool->Sto->Prop):Prop:=∃b,TR C d x σ b/\P b σ
theorem z3s{e:Expr}(h:AT C η ν gl own d (eval e η) m σ λX σ₁=>TRX C d X σ₁ P)
  (he:∀whole,isTrue e η whole=(do let v <-whole;standAt e.pos;holding [v] (truthy v)):=by intro;with_unfolding_all exact rfl):AB C η ν gl own d (isTrue e η (eval e η)) m σ P:=λA G D s hA R=>
 wpAny_isTrue_value (h.run hA R λv s₁ X D₁ σ₁ a b c hpp=>by obtain⟨t,ht,hp⟩:=hpp;exact ht.inF hA c b λtk=>⟨D₁,σ₁,a,c.tok tk,hp⟩) (he _)
theorem z34{x:Expr}{p:Pos}{whole:Sem Value}(h:AB C η ν gl own d (isTrue x η (eval x η)) m σ λb σ₁=>P (!b) σ₁):AB C η ν gl own d (isTrue (.UnaryOp .Not x p) η whole) m σ P:=λA G D s hA R=>
 wpAny_isTrue_Not (h.run hA R λb s₁ D₁ σ₁ a c e=>⟨D₁,σ₁,a,c,e⟩)
theorem z0D{l r:Expr}{op:CmpOp}{p:Pos}{whole:Sem Value}(h:AT C η ν gl own d (eval l η) m σ λX σ₁=>AT C η ν gl own d (eval r η) m σ₁ λY σ₂=>AC2 C d (compareOp op) X Y σ₂ λZ σ₃=>TRX C d Z σ₃ P)
  (hm:autoParam (behindInMarks op r=false) auR):AB C η ν gl own d (isTrue (.Compare l [op] [r] p) η whole) m σ P:=λA G D s hA R=>
 wpAny_isTrue_Compare1 (h.run hA R λv s₁ X D₁ σ₁ a b c e=>By (e A G D₁ s₁ hA c) (λu s₂ hpp=>by obtain⟨Y,D₂,σ₂,a',b',c',e'⟩:=hpp;exact By (e'.inF hA c' (b.mono a'.sub) b') (λz s₃ hpp=>by obtain⟨Z,D₃,σ₃,a'',b'',c'',t,ht,hp⟩:=hpp;exact ht.inF hA c'' b'' λtk=>⟨D₃,σ₃,(a.trans a').trans a'',c''.tok tk,hp⟩) λ_ _ x=>x) λ_ _ x=>x) hm
theorem z1V{op:BoolOp}{vs:List Expr}{p:Pos}{whole:Sem Value}(h:AB C η ν gl own d (allTrue op vs η) m σ P):AB C η ν gl own d (isTrue (.BoolOp op vs p) η whole) m σ P:=λA G D s hA R=>
 wpAny_isTrue_BoolOp (h A G D s hA R)
theorem z5L(q:P true σ):AB C η ν gl own d (allTrue .And [] η) m σ P:=λA G D s hA R=>wpAny_allTrue_And_nil ⟨D,σ,DX.refl _ _,R,q⟩
theorem z4X(q:P false σ):AB C η ν gl own d (allTrue .Or [] η) m σ P:=λA G D s hA R=>wpAny_allTrue_Or_nil ⟨D,σ,DX.refl _ _,R,q⟩
theorem z7Y{x:Expr}{rest:List Expr}(h:AB C η ν gl own d (isTrue x η (eval x η)) m σ λb σ₁=>(b=true->AB C η ν gl own d (allTrue .And rest η) m σ₁ P)/\(b=false->P false σ₁)):
  AB C η ν gl own d (allTrue .And (x::rest) η) m σ P:=λA G D s hA R=>
 wpAny_allTrue_And_cons (h.run hA R λb s₁ D₁ σ₁ a c e=>by
  cases b with
  |true=>exact z7V a (e.1 rfl A G D₁ s₁ hA c)
  |false=>exact⟨D₁,σ₁,a,c,e.2 rfl⟩)
theorem z3D{x:Expr}{rest:List Expr}(h:AB C η ν gl own d (isTrue x η (eval x η)) m σ λb σ₁=>(b=true->P true σ₁)/\(b=false->AB C η ν gl own d (allTrue .Or rest η) m σ₁ P)):
  AB C η ν gl own d (allTrue .Or (x::rest) η) m σ P:=λA G D s hA R=>
 wpAny_allTrue_Or_cons (h.run hA R λb s₁ D₁ σ₁ a c e=>by
  cases b with
  |false=>exact z7V a (e.2 rfl A G D₁ s₁ hA c)
  |true=>exact⟨D₁,σ₁,a,c,e.1 rfl⟩)
theorem y3s{x y:Sem Value}{r:List (Sem Value)}{p:Pos}(h:AT C η ν gl own d x m σ λX σ₁=>∃b,TR C d X σ₁ b/\(b=true->AT C η ν gl own d (boolOp p .And (y::r)) m σ₁ Q)/\(b=false->Q X σ₁)):
  AT C η ν gl own d (boolOp p .And (x::y::r)) m σ Q:=λA G D s hA R=>by
 show wpAny C.M A (do
  let v <-x
  standAt p
  let t <-holding [v] (truthy v)
  match BoolOp.And,t with
  | .And,false| .Or,true=>pure v
  |_,_=>boolOp p .And (y::r)) _ _ s
 refine Bx (h.run hA R λv s₁ X D₁ σ₁ a b c hpp=> ?_)
 obtain⟨t,ht,h1,h2⟩:=hpp
 refine Bx (wpAny_standAt (Bx (wpAny_holding (ht.inF hA c b λtk=> ?_))))
 cases t with
 |false=>exact wpAny_pure ⟨X,D₁,σ₁,a,b,c.tok tk,h2 rfl⟩
 |true=>exact z1e a (h1 rfl A G D₁ _ hA (c.tok tk))
theorem y4w{x y:Sem Value}{r:List (Sem Value)}{p:Pos}(h:AT C η ν gl own d x m σ λX σ₁=>∃b,TR C d X σ₁ b/\(b=true->Q X σ₁)/\(b=false->AT C η ν gl own d (boolOp p .Or (y::r)) m σ₁ Q)):
  AT C η ν gl own d (boolOp p .Or (x::y::r)) m σ Q:=λA G D s hA R=>by
 show wpAny C.M A (do
  let v <-x
  standAt p
  let t <-holding [v] (truthy v)
  match BoolOp.Or,t with
  | .And,false| .Or,true=>pure v
  |_,_=>boolOp p .Or (y::r)) _ _ s
 refine Bx (h.run hA R λv s₁ X D₁ σ₁ a b c hpp=> ?_)
 obtain⟨t,ht,h1,h2⟩:=hpp
 refine Bx (wpAny_standAt (Bx (wpAny_holding (ht.inF hA c b λtk=> ?_))))
 cases t with
 |true=>exact wpAny_pure ⟨X,D₁,σ₁,a,b,c.tok tk,h1 rfl⟩
 |false=>exact z1e a (h2 rfl A G D₁ _ hA (c.tok tk))
theorem z9p{op:BoolOp}{vs:List Expr}{p:Pos}(h:AT C η ν gl own d (boolOp p op (evalEach vs η)) m σ Q):AT C η ν gl own d (eval (.BoolOp op vs p) η) m σ Q:=λA G D s hA R=>by
 rw[arm_eval_BoolOp]
 exact h A G D s hA R
end
section
variable {C:Cx} {η:Env} {ν:List Str} {gl:LV} {own:Bool} {d:Nat} {m:Loc} {σ σ':Sto}
variable {A:Around} {G D D₁:Gh} {s:Shared}
theorem RelC.footLives(R:RelC C G D σ s){a:Addr}(h:a∈A5 σ):∃o,s.heap.get? a=some o:=by
 have key:∀(τ:Sto),(∀p∈τ,PR s.heap p.1 p.2.1 p.2.2)->a∈A5 τ->∃o,s.heap.get? a=some o:=by
  intro τ
  induction τ with
  |nil=>intro _ h;simp[A5] at h
  |cons p r ih=>
   obtain⟨b,o,x⟩:=p
   intro hp h
   rcases Ad.mp h with h|h
   ·exact(hp _ (.head _)).lives a h
   ·exact ih (λq hq=>hp q (.tail _ hq)) h
 exact key σ R.pl h
theorem RelC.footLt(R:RelC C G D σ s){a:Addr}(h:a∈A5 σ):a<s.heap.objs.size:=let⟨_,e⟩:=R.footLives h;Heap.lt_size e
theorem RelC.new_notFoot(R:RelC C G D σ s):s.heap.objs.size∉A5 σ:=λh=>Nat.lt_irrefl _ (R.footLt h)
theorem RelC.new_G(R:RelC C G D σ s):G s.heap.objs.size=none:=by
 cases e:G s.heap.objs.size with
 |none=>rfl
 |some o=>obtain⟨_,h,_⟩:=R.g _ _ e;exact absurd (Heap.lt_size h) (Nat.lt_irrefl _)
theorem RelC.new_D(R:RelC C G D σ s):D s.heap.objs.size=none:=by
 cases e:D s.heap.objs.size with
 |none=>rfl
 |some o=>exact absurd (Heap.lt_size (R.d _ _ e)) (Nat.lt_irrefl _)
theorem RelC.keep(R:RelC C G D σ s){h':Heap}(t:Nat)(k:∀b o,s.heap.get? b=some o->h'.get? b=some o):RelC C G D σ {s with heap:=h',toks:=t} where
 same:=let⟨h,_,e⟩:=R.same;⟨h',t,by rw[e]⟩
 bs:=λa o e=>k _ _ (R.bs a o e)
 g:=λa o e=>R.g' e λ_=>k _ _
 d:=λa o e=>k _ _ (R.d a o e)
 base:=R.base
 nd:=R.nd
 offG:=R.offG
 offD:=R.offD
 pl:=λp hp=>(R.pl p hp).at λb _ ob e=>k _ _ e
 sto:=R.sto
theorem RelC.keepBut(R:RelC C G D σ s){h':Heap}(t:Nat)(wr:List Addr)(hw:∀a∈wr,G a=none/\D a=none/\a∉A5 σ)(k:∀b o,b∉wr->s.heap.get? b=some o->h'.get? b=some o):
  RelC C G D σ {s with heap:=h',toks:=t} where
 same:=let⟨h,_,e⟩:=R.same;⟨h',t,by rw[e]⟩
 bs:=λa o e=>k _ _ (λm=>nomatch (hw a m).1.symm.trans (R.base a o e)) (R.bs a o e)
 g:=λa o e=>R.g' e λ_=>k _ _ (λm=>nomatch (hw a m).1.symm.trans e)
 d:=λa o e=>k _ _ (λm=>by rw[(hw a m).2.1] at e;cases e) (R.d a o e)
 base:=R.base
 nd:=R.nd
 offG:=R.offG
 offD:=R.offD
 pl:=λp hp=>(R.pl p hp).at λb hb ob e=>k _ _ (λm=>(hw b m).2.2 (z06 (ob:=p.2.1) hp b hb)) e
 sto:=R.sto
theorem RelC.push(R:RelC C G D σ s)(o:Obj):RelC C G D σ {s with heap:=s.heap.push o}:=by
 have:=R.keep (h':=s.heap.push o) s.toks λb x e=>Heap.get?_push_of_some _ e
 exact this
noncomputable def z2s(D:Gh)(a:Addr)(o:Obj):Gh:=λb=>if b=a then some o else D b
theorem z0T(D:Gh)(a:Addr)(o:Obj):z2s D a o a=some o:=by simp[z2s]
theorem z1k{D:Gh}{a b:Addr}(o:Obj)(h:b≠a):z2s D a o b=D b:=by simp[z2s,h]
theorem z3S{D:Gh}{a:Addr}(o:Obj)(h:D a=none):Sub D (z2s D a o):=λb x e=>by
 rw[z1k];exact e
 rintro rfl;rw[h] at e;cases e
theorem RelC.newF(R:RelC C G D σ s)(o:Obj)(hf:autoParam (o.isFreed=false) auR):RelC C G (z2s D s.heap.objs.size o) σ {s with heap:=s.heap.push o}/\DX G D (z2s D s.heap.objs.size o):=by
 have R':=R.push o
 refine⟨⟨R'.same,R'.bs,R'.g,λa x e=> ?_,R'.base,R'.nd,R'.offG,λa ha=> ?_,R'.pl,λp hp=>(R'.sto p hp).mono (z3S o R.new_D)⟩,z3S o R.new_D,λa e g=> ?_⟩
 ·by_cases h:a=s.heap.objs.size
  ·subst h;rw[z0T] at e;cases e;exact Heap.get?_push_size _ hf
  ·rw[z1k o h] at e;exact R'.d a x e
 ·rw[z1k];exact R.offD a ha
  rintro rfl;exact R.new_notFoot ha
 ·rw[z1k];exact e
  rintro rfl;exact g R.new_G
theorem RelC.newM(R:RelC C G D σ s)(o:Obj)(x:AO)(hr:HR C.w D o x)(hx:z0z s.heap.objs.size x=[s.heap.objs.size])(hp:∀h a,PR h a o x=(h.get? a=some o))(hf:autoParam (o.isFreed=false) auR):
  RelC C G D ((s.heap.objs.size,o,x)::σ) {s with heap:=s.heap.push o}:=by
 have R':=R.push o
 refine⟨R'.same,R'.bs,R'.g,R'.d,R'.base,?_,λa ha=> ?_,λa ha=> ?_,λp hp'=> ?_,λp hp'=> ?_⟩
 ·show(z0z _ _++A5 σ).Nodup
  rw[hx]
  exact Au.mpr ⟨R.new_notFoot,R.nd⟩
 ·have:a∈z0z s.heap.objs.size x++A5 σ:=ha
  rw[hx] at this
  rcases Ae.mp this with rfl|h
  ·exact R.new_G
  ·exact R.offG a h
 ·have:a∈z0z s.heap.objs.size x++A5 σ:=ha
  rw[hx] at this
  rcases Ae.mp this with rfl|h
  ·exact R.new_D
  ·exact R.offD a h
 ·rcases Ae.mp hp' with rfl|h
  ·show PR _ _ _ _
   rw[hp];exact Heap.get?_push_size _ hf
  ·exact R'.pl p h
 ·rcases Ae.mp hp' with rfl|h
  ·exact hr
  ·exact R'.sto p h
class inductive F9 (a:Addr) (o:Obj) (x:AO) (o':Obj) (x':AO):Sto->Sto->Prop
 |head {r:Sto}:F9 a o x o' x' ((a,o,x)::r) ((a,o',x')::r)
 |tail {p:Addr×Obj×AO} {r r':Sto}:F9 a o x o' x' r r'->F9 a o x o' x' (p::r) (p::r')
theorem z0s(σ τ:Sto):A5 (σ++τ)=A5 σ++A5 τ:=by
 induction σ with
 |nil=>rfl
 |cons p r ih=>obtain⟨a,o,x⟩:=p;show z0z a x++A5 (r++τ)=z0z a x++A5 r++A5 τ;rw[ih,Ao]
theorem F9.app{a:Addr}{o o':Obj}{x x':AO}{r r':Sto}(τ:Sto)(h:F9 a o x o' x' r r'):F9 a o x o' x' (τ++r) (τ++r'):=by
 induction τ with
 |nil=>exact h
 |cons p t ih=>exact .tail ih
theorem F9.split{a:Addr}{o o':Obj}{x x':AO}{r r':Sto}(h:F9 a o x o' x' r r'):∃u v,r=u++(a,o,x)::v/\r'=u++(a,o',x')::v:=by
 induction h with
 |head=>exact⟨[],_,rfl,rfl⟩
 |tail _ ih=>obtain⟨u,v,rfl,rfl⟩:=ih;exact⟨_::u,v,rfl,rfl⟩
theorem F9.mem{a:Addr}{o o':Obj}{x x':AO}{r r':Sto}(h:F9 a o x o' x' r r'):(a,o,x)∈r:=by
 obtain⟨u,v,rfl,rfl⟩:=h.split;simp
theorem RelC.upd(R:RelC C G D σ s){a b:Addr}{o o':Obj}{x x':AO}(U:F9 a o x o' x' σ σ'){h':Heap}(t:Nat)(hb:b∈z0z a x)(hs:Heap.SameBut b s.heap h')(hx:z0z a x'=z0z a x)
  (hp:PR h' a o' x') (hr:HR C.w D o' x'):RelC C G D σ' {s with heap:=h',toks:=t}:=by
 obtain⟨u,v,rfl,rfl⟩:=U.split
 have hmem:(a,o,x)∈u++(a,o,x)::v:=by simp
 have hbf:b∈A5 (u++(a,o,x)::v):=z06 hmem b hb
 have ft:A5 (u++(a,o',x')::v)=A5 (u++(a,o,x)::v):=by rw[z0s,z0s];show A5 u++(z0z a x'++A5 v)=A5 u++(z0z a x++A5 v);rw[hx]
 have nd:=R.nd
 rw[z0s] at nd
 have nd':(A5 u++(z0z a x++A5 v)).Nodup:=nd
 have off:∀q,q∈u∨q∈v->b∉z0z q.1 q.2.2:=by
  intro q hq hbq
  have h1:=List.nodup_append.mp nd'
  rcases hq with hq|hq
  ·exact h1.2.2 b (z06 (a:=q.1) (ob:=q.2.1) (o:=q.2.2) hq b hbq) b (Ai _ hb) rfl
  ·exact(List.nodup_append.mp h1.2.1).2.2 b hb b (z06 (a:=q.1) (ob:=q.2.1) (o:=q.2.2) hq b hbq) rfl
 refine⟨let⟨h,_,e⟩:=R.same;⟨h',t,by rw[e]⟩,λc oc e=>hs.extBut c oc (by rintro rfl;exact nomatch (R.offG _ hbf).symm.trans (R.base _ _ e)) (R.bs c oc e),λc oc e=>R.g' e λo'=>hs.extBut c o' (by rintro rfl;exact nomatch (R.offG _ hbf).symm.trans e),λc oc e=> ?_,R.base,by rw[ft];exact R.nd,λc hc=>R.offG c (by rw[ft] at hc;exact hc),λc hc=>R.offD c (by rw[ft] at hc;exact hc),λq hq=> ?_,λq hq=> ?_⟩
 ·exact hs.extBut c oc (by rintro rfl;rw[R.offD _ hbf] at e;cases e) (R.d c oc e)
 ·have keep:(q∈u∨q∈v)->PR h' q.1 q.2.1 q.2.2:=λhq'=>(R.pl q (by rcases hq' with h|h<;>simp[h])).at λc hc ob e=>hs.extBut c ob (by rintro rfl;exact off q hq' hc) e
  rcases Ad.mp hq with h|h
  ·exact keep (.inl h)
  ·rcases Ae.mp h with rfl|h
   ·exact hp
   ·exact keep (.inr h)
 ·rcases Ad.mp hq with h|h
  ·exact R.sto q (by simp[h])
  ·rcases Ae.mp h with rfl|h
   ·exact hr
   ·exact R.sto q (by simp[h])
theorem RelC.drop(R:RelC C G D σ s){τ:Sto}(hs:τ.Sublist σ):RelC C G D τ s:=by
 have fs:(A5 τ).Sublist (A5 σ):=by
  have key:∀{a b:Sto},a.Sublist b->(A5 a).Sublist (A5 b):=by
   intro a b h
   induction h with
   |slnil=>exact .slnil
   |cons p _ ih=>obtain⟨c,o,x⟩:=p;exact ih.trans (List.sublist_append_right _ _)
   |cons_cons p _ ih=>obtain⟨c,o,x⟩:=p;exact List.Sublist.append (List.Sublist.refl _) ih
  exact key hs
 exact⟨R.same,R.bs,R.g,R.d,R.base,fs.nodup R.nd,λa h=>R.offG a (fs.subset h),λa h=>R.offD a (fs.subset h),λp h=>R.pl p (hs.subset h),λp h=>R.sto p (hs.subset h)⟩
theorem RelC.freezeL(R:RelC C G D σ s){a:Addr}{o:Obj}{xs:List V}{u v:Sto}(e:σ=u++(a,o,.list xs)::v):
  RelC C G (z2s D a o) (u++v) s/\DX G D (z2s D a o)/\VR C.w (z2s D a o) (.ref a) (.lst xs):=by
 have hmem:(a,o,AO.list xs)∈σ:=by rw[e];simp
 have haf:a∈A5 σ:=z3h hmem
 have hD:=R.offD a haf
 have hsub:=z3S o hD
 have R':=R.drop (τ:=u++v) (by rw[e];exact List.Sublist.append (List.Sublist.refl _) (As _ _))
 have hno:a∉A5 (u++v):=by
  have nd:=R.nd
  rw[e,z0s] at nd
  have nd':(A5 u++(a::A5 v)).Nodup:=nd
  rw[z0s]
  intro h
  have h1:=List.nodup_append.mp nd'
  rcases Ad.mp h with h|h
  ·exact h1.2.2 a h a (.head _) rfl
  ·exact(Au.mp h1.2.1).1 h
 have hpl:s.heap.get? a=some o:=R.pl _ hmem
 obtain⟨vs,n,ho,hr⟩:=R.sto _ hmem
 refine⟨⟨R'.same,R'.bs,R'.g,λb x eb=> ?_,R'.base,R'.nd,R'.offG,λb hb=> ?_,R'.pl,λp hp=>(R'.sto p hp).mono hsub⟩,⟨hsub,λb eb g=> ?_⟩,?_⟩
 ·by_cases h:b=a
  ·subst h;rw[z0T] at eb;cases eb;exact hpl
  ·rw[z1k o h] at eb;exact R'.d b x eb
 ·rw[z1k];exact R'.offD b hb
  rintro rfl;exact hno hb
 ·rw[z1k];exact eb
  rintro rfl;exact g (R.offG _ haf)
 ·have ho':o=z0q vs n:=ho
  refine VR.lst (vs:=vs.toList) (n:=n) ?_ (hr.mono hsub)
  rw[z0T,ho']
end
section
variable {C:Cx} {η:Env} {ν:List Str} {gl:LV} {own:Bool} {d:Nat} {m m':Loc} {σ σ':Sto}
variable {A:Around} {G D D₁:Gh} {s:Shared}
theorem y2H{m:Loc}{i j:Nat}{X Y:V}(h:(m.set i (some X))[j]? =some (some Y)):(j=i/\Y=X)∨(j≠i/\m[j]? =some (some Y)):=by
 rw[List.getElem?_set] at h
 by_cases e:i=j
 ·subst e
  rw[if_pos rfl] at h
  split at h
  ·simp at h;exact .inl ⟨rfl,h.symm⟩
  ·cases h
 ·rw[if_neg e] at h;exact .inr ⟨λq=>e q.symm,h⟩
theorem z5Y{l:List Str}(hn:l.Nodup){i j:Nat}{x:Str}(h1:l[i]? =some x)(h2:l[j]? =some x):i=j:=by
 have hi:=(An.mp h1)
 have hj:=(An.mp h2)
 exact(List.getElem_inj (h₀:=hi.1) (h₁:=hj.1) hn).mp (hi.2.trans hj.2.symm)
theorem y1t{l:List Str}{m:Loc}{i j:Nat}{x y:Str}{X Y:V}{Z:Str->V->Prop}(nd:l.Nodup)(h1:l[i]? =some x)(e1:l[j]? =some y)(e3:(m.set i (some X))[j]? =some (some Y))(hx:Z x X)(hy:y≠x->m[j]? =some (some Y)->Z y Y):Z y Y:=by
 rcases y2H e3 with⟨e,rfl⟩|⟨hne,e⟩
 ·rw[e,h1] at e1
  exact Bs e1▸hx
 ·exact hy (λq=>hne (z5Y nd (q▸e1) h1)) e
theorem A3.storeL{s':Shared}{i:Nat}{x:Str}{X:V}{v:Value}{mm:Str->Option Value}(R:A3 C η ν gl own G D m σ s)(RC:RelC C G D σ s')(h1:ν[i]? =some x)(hl:η.kindOf x=some .local)(hv:VR C.w D v X)(hn':s'.heap.Ns η.locals (λy=>if y=x then some v else mm y))
  (hmm:∀(i:Nat) x X,ν[i]? =some x->η.kindOf x=some .local->m[i]? =some (some X)->∃v,mm x=some v/\VR C.w D v X) (hs:Heap.SameBut η.locals s.heap s'.heap):A3 C η ν gl own G D (m.set i (some X)) σ s' where
 toRelC:=RC
 ok:=R.ok
 offL:=R.offL
 ns:=⟨_,hn',λj y Y e1 e2 e3=>y1t (Z:=λy Y=>∃u,(if y=x then some v else mm y)=some u/\VR C.w D u Y) R.ok.nd h1 e1 e3 ⟨v,if_pos rfl,hv⟩ λhne e3=>by rw[if_neg hne];exact hmm j y Y e1 e2 e3⟩
 cl:=λj y c e1 e2 e3=>by
  obtain⟨q1,⟨ov,q2,q3⟩,q4⟩:=R.cl j y c e1 e2 e3
  exact⟨q1,⟨ov,q2.sameBut hs q1,λY e=>y1t (Z:=λy Y=>η.kindOf y=some .cell->∃v,ov=some v/\VR C.w D v Y) R.ok.nd h1 e1 e (λe2=>nomatch hl.symm.trans e2) (λ_ e _=>q3 Y e) e2⟩,q4⟩
theorem A3.storeC{s':Shared}{i:Nat}{x:Str}{X:V}{v:Value}{c:Addr}(R:A3 C η ν gl own G D m σ s)(RC:RelC C G D σ s')(h1:ν[i]? =some x)(hc:η.kindOf x=some .cell)(hcc:η.cells.lookup x=some c)(hv:VR C.w D v X)(hne:c≠η.locals)(hn':s'.heap.IsCell c (some v))
  (hs:Heap.SameBut c s.heap s'.heap):A3 C η ν gl own G D (m.set i (some X)) σ s' where
 toRelC:=RC
 ok:=R.ok
 offL:=R.offL
 ns:=by
  obtain⟨mm,hn,hmm⟩:=R.ns
  exact⟨mm,hn.sameBut hs (Ne.symm hne),λj y Y e1 e2 e3=>y1t (Z:=λy Y=>η.kindOf y=some .local->∃u,mm y=some u/\VR C.w D u Y) R.ok.nd h1 e1 e3 (λe2=>nomatch hc.symm.trans e2) (λ_ e3 e2=>hmm j y Y e1 e2 e3) e2⟩
 cl:=λj y c₂ e1 e2 e3=>by
  obtain⟨p1,⟨ov,p2,p3⟩,p4⟩:=R.cl j y c₂ e1 e2 e3
  by_cases hy:y=x
  ·subst hy
   obtain rfl:=Bs (hcc.symm.trans e3)
   exact⟨p1,⟨_,hn',λY e=>y1t (Z:=λ_ Y=>∃u,some v=some u/\VR C.w D u Y) R.ok.nd h1 e1 e ⟨v,rfl,hv⟩ λhne _=>absurd rfl hne⟩,p4⟩
  ·exact⟨p1,⟨ov,p2.sameBut hs λe=>hy (name_of_addr R.ok.ap (mem_of_lookup e3) (e▸mem_of_lookup hcc)),λY e=>y1t (Z:=λz Y=>z=y->∃u,ov=some u/\VR C.w D u Y) R.ok.nd h1 e1 e (λe=>absurd e.symm hy) (λ_ e _=>p3 Y e) rfl⟩,p4⟩
theorem A3.store(R:A3 C η ν gl own G D m σ s){x:Str}{X:V}{v:Value}(hP:F4 ν m x X m')(hv:VR C.w D v X)(hk:own=true∨η.kindOf x=some .local){K:Unit->Shared->Prop}
  (k:∀s',A3 C η ν gl own G D m' σ s'->K () s'):wpAny C.M A (storeName η x v) K (λ_ _=>False) s:=by
 obtain⟨i,h1,rfl⟩:=hP.get
 rcases(R.ok.vk x (Ak h1)).2 with hl|⟨hc,c,hcc⟩
 ·obtain⟨mm,hn,hmm⟩:=R.ns
  exact wpAny_storeName_local hl hn (λh' hn' hs'=>k _ (R.storeL (R.toRelC.keepBut _ [η.locals] (λa ha=>Af.mp ha▸R.offL) λb o hb e=>hs'.extBut b o (λq=>hb (Af.mpr q)) e) h1 hl hv hn' hmm hs')) (by rw[R.ok.fn];rfl)
 ·have hown:own=true:=hk.resolve_right (by rw[hc];exactλe=>nomatch e)
  subst hown
  obtain⟨q1,⟨ov,q2,q3⟩,q4⟩:=R.cl i x c h1 hc hcc
  exact wpAny_storeName_cell R.ok.fn hc hcc q2 λh' hc' hs'=>k _ (R.storeC (R.toRelC.keepBut s.toks [c] (λa ha=>Af.mp ha▸q4) λb o hb e=>hs'.extBut b o (λq=>hb (Af.mpr q)) e) h1 hc hcc hv q1 hc' hs')
inductive G8(C:Cx)(η:Env)(ν:List Str)(gl:LV)(own:Bool)(G D:Gh)(K:Loc->Sto->Prop)(u:Unit)(s':Shared):Prop
 |mk (m':Loc) (D':Gh) (σ':Sto):DX G D D'->A3 C η ν gl own G D' m' σ' s'->K m' σ'->G8 C η ν gl own G D K u s'
def AA(C:Cx)(η:Env)(ν:List Str)(gl:LV)(own:Bool)(d:Nat)(t:Value->Sem Unit)(x:V)(m:Loc)(σ:Sto)(K:Loc->Sto->Prop):Prop:=
 ∀A G D s v,C9 C A d->A3 C η ν gl own G D m σ s->VR C.w D v x->wpAny C.M A (t v) (G8 C η ν gl own G D K) (λ_ _=>False) s
variable {K:Loc->Sto->Prop}
theorem G8.weak{u:Unit}{s':Shared}(h:DX G D D₁)(p:G8 C η ν gl own G D₁ K u s'):G8 C η ν gl own G D K u s':=
 by obtain⟨m',D',σ',a,c,e⟩:=p;exact⟨m',D',σ',h.trans a,c,e⟩
theorem z0w{x:Str}{p:Pos}{X:V}(hP:F4 ν m x X m')(k:K m' σ)(hk:own=true∨η.kindOf x=some .local:=by exact .inl rfl):AA C η ν gl own d (assign (.Name x p) η) X m σ K:=λA G D s v hA R hv=>by
 show wpAny C.M A (do standAt p;bindName η x v) _ _ s
 exact Bx (wpAny_standAt (wpAny_bindName (R.store hP hv hk λs' R'=>⟨m',D,σ,DX.refl _ _,R',k⟩)))
inductive Fl where
 |next
 |brk
 |cont
 |ret (x:V)
abbrev FP:=Fl->Loc->Sto->Prop
noncomputable def FlR(w:World)(D:Gh):Flow->Fl->Prop
 | .next,.next=>True
 | .brk,.brk=>True
 | .cont,.cont=>True
 | .ret v,.ret x=>VR w D v x
 |_,_=>False
inductive D1(C:Cx)(η:Env)(ν:List Str)(gl:LV)(own:Bool)(G D:Gh)(Q:FP)(f:Flow)(s':Shared):Prop
 |mk (fl:Fl) (m':Loc) (D':Gh) (σ':Sto):DX G D D'->FlR C.w D' f fl->A3 C η ν gl own G D' m' σ' s'->Q fl m' σ'->D1 C η ν gl own G D Q f s'
def AS(C:Cx)(η:Env)(ν:List Str)(gl:LV)(own:Bool)(d:Nat)(t:Sem Flow)(m:Loc)(σ:Sto)(Q:FP):Prop:=
 ∀A G D s,C9 C A d->A3 C η ν gl own G D m σ s->wpAny C.M A t (D1 C η ν gl own G D Q) (λ_ _=>False) s
variable {Q:FP}
theorem D1.weak{u:Flow}{s':Shared}(h:DX G D D₁)(p:D1 C η ν gl own G D₁ Q u s'):D1 C η ν gl own G D Q u s':=
 by obtain⟨fl,m',D',σ',a,b,c,e⟩:=p;exact⟨fl,m',D',σ',h.trans a,b,c,e⟩
theorem z5y{t:Sem Flow}(h:DX G D D₁)(p:wpAny C.M A t (D1 C η ν gl own G D₁ Q) (λ_ _=>False) s):wpAny C.M A t (D1 C η ν gl own G D Q) (λ_ _=>False) s:=
 By p (λ_ _ q=>q.weak h) λ_ _ e=>e
theorem AS.run{t:Sem Flow}(h:AS C η ν gl own d t m σ Q)(hA:C9 C A d)(R:A3 C η ν gl own G D m σ s){K:Flow->Shared->Prop}
  (k:∀f s' fl m' D' σ',DX G D D'->FlR C.w D' f fl->A3 C η ν gl own G D' m' σ' s'->Q fl m' σ'->K f s'):wpAny C.M A t K (λ_ _=>False) s:=
 By (h A G D s hA R) (λv s' hpp=>by obtain⟨fl,m',D',σ',a,b,c,e⟩:=hpp;exact k v s' fl m' D' σ' a b c e) λ_ _ e=>e
theorem AS.mono{t:Sem Flow}{Q':FP}(h:AS C η ν gl own d t m σ Q)(hQ:∀f m σ,Q f m σ->Q' f m σ):AS C η ν gl own d t m σ Q':=λA G D s hA R=>
 h.run hA R λf s' fl m' D' σ' a b c e=>⟨fl,m',D',σ',a,b,c,hQ _ _ _ e⟩
theorem y24(q:Q .next m σ):AS C η ν gl own d (execs [] η) m σ Q:=λA G D s hA R=>wpAny_execs_nil ⟨.next,m,D,σ,DX.refl _ _,trivial,R,q⟩
noncomputable def y4I(C:Cx)(η:Env)(ν:List Str)(gl:LV)(own:Bool)(d:Nat)(rest:List Stmt)(Q:FP):FP
 | .next,m,σ=>AS C η ν gl own d (execs rest η) m σ Q
 |f,m,σ=>Q f m σ
theorem z2W{st:Stmt}{rest:List Stmt}(h:AS C η ν gl own d (exec st η) m σ (y4I C η ν gl own d rest Q)):AS C η ν gl own d (execs (st::rest) η) m σ Q:=λA G D s hA R=>by
 refine wpAny_execs_cons (h.run hA R λf s' fl m' D' σ' a b c e=> ?_)
 cases f<;>cases fl<;>first|exact b.elim|skip
 ·exact z5y a (e A G D' s' hA c)
 ·exact⟨.brk,m',D',σ',a,b,c,e⟩
 ·exact⟨.cont,m',D',σ',a,b,c,e⟩
 ·exact⟨.ret _,m',D',σ',a,b,c,e⟩
theorem z1F{x:Str}{p' p:Pos}{e:Expr}(h:AT C η ν gl own d (eval e η) m σ λX σ₁=>∃m',F4 ν m x X m'/\Q .next m' σ₁)
  (hk:autoParam (own=true) auR) (hs:autoParam (swapsWith e (some (.Name x p')) p.line η=pure false) auR):AS C η ν gl own d (exec (.Assign [.Name x p'] e p) η) m σ Q:=λA G D s hA R=>
 wpAny_Assign_Name (h.run hA R λv s₁ X D₁ σ₁ a b c hpp=>by obtain⟨m',hP,q⟩:=hpp;exact c.store hP b (.inl hk) λs' R'=>⟨.next,m',D₁,σ₁,a,trivial,R',q⟩) hs
theorem z1r{e:Expr}{p:Pos}(h:AT C η ν gl own d (eval e η) m σ λX σ₁=>Q (.ret X) m σ₁):AS C η ν gl own d (exec (.Return (some e) p) η) m σ Q:=λA G D s hA R=>
 wpAny_Return_some (h.run hA R λv s₁ X D₁ σ₁ a b c q=>⟨.ret X,m,D₁,σ₁,a,b,c,q⟩)
theorem y5a{t:Expr}{b o:List Stmt}{p:Pos}(h:AB C η ν gl own d (isTrue t η (eval t η)) m σ λc σ₁=>(c=true->AS C η ν gl own d (execs b η) m σ₁ Q)/\(c=false->AS C η ν gl own d (execs o η) m σ₁ Q)):
  AS C η ν gl own d (exec (.If t b o p) η) m σ Q:=λA G D s hA R=>
 wpAny_If (h.run hA R λb s₁ D₁ σ₁ a c e=>by
  cases b with
  |true=>exact z5y a (e.1 rfl A G D₁ s₁ hA c)
  |false=>exact z5y a (e.2 rfl A G D₁ s₁ hA c))
theorem y3O{e:Expr}{p:Pos}(h:AT C η ν gl own d (eval e η) m σ λ_ σ₁=>Q .next m σ₁)
  (hs:autoParam (swapsWith e none p.line η=pure false) auR):AS C η ν gl own d (exec (.Expr e p) η) m σ Q:=λA G D s hA R=>by
 have hi:interactive η=false:=by unfold interactive;rw[R.ok.fn];rfl
 rw[exec_Expr η e p hi hs]
 refine Bx (wpAny_standAt (Bx (h.run hA R λv s₁ X D₁ σ₁ a b c q=> ?_)))
 have fin:D1 C η ν gl own G D Q .next s₁:=⟨.next,m,D₁,σ₁,a,trivial,c,q⟩
 exact wpAny_dropValue fin
inductive PostL(C:Cx)(η:Env)(ν:List Str)(gl:LV)(own:Bool)(G D:Gh)(m:Loc)(Q:List V->Sto->Prop)(v:List Value)(s':Shared):Prop
 |mk (x:List V) (D':Gh) (σ':Sto):DX G D D'->A6 C.w D' v x->A3 C η ν gl own G D' m σ' s'->Q x σ'->PostL C η ν gl own G D m Q v s'
def AL(C:Cx)(η:Env)(ν:List Str)(gl:LV)(own:Bool)(d:Nat)(t:Sem (List Value))(m:Loc)(σ:Sto)(Q:List V->Sto->Prop):Prop:=
 ∀A G D s,C9 C A d->A3 C η ν gl own G D m σ s->wpAny C.M A t (PostL C η ν gl own G D m Q) (λ_ _=>False) s
variable {L:List V->Sto->Prop}
theorem AL.run{t:Sem (List Value)}(h:AL C η ν gl own d t m σ L)(hA:C9 C A d)(R:A3 C η ν gl own G D m σ s){K:List Value->Shared->Prop}
  (k:∀v s' x D' σ',DX G D D'->A6 C.w D' v x->A3 C η ν gl own G D' m σ' s'->L x σ'->K v s'):wpAny C.M A t K (λ_ _=>False) s:=
 By (h A G D s hA R) (λv s' hpp=>by obtain⟨x,D',σ',a,b,c,e⟩:=hpp;exact k v s' x D' σ' a b c e) λ_ _ e=>e
theorem z0e{p:Pos}(q:L [] σ):AL C η ν gl own d (spliced (backTo p (starEach [] η))) m σ L:=λA G D s hA R=>wpAny_items_nil ⟨[],D,σ,DX.refl _ _,.nil,R,q⟩
theorem z0c{p:Pos}{e:Expr}{rest:List Expr}(h:AT C η ν gl own d (eval e η) m σ λX σ₁=>AL C η ν gl own d (spliced (backTo p (starEach rest η))) m σ₁ λXs σ₂=>L (X::Xs) σ₂)
  (he:autoParam (starEach (e::rest) η=(false,eval e η)::starEach rest η) auR):AL C η ν gl own d (spliced (backTo p (starEach (e::rest) η))) m σ L:=λA G D s hA R=>
 wpAny_items_cons (h.run hA R λv s₁ X D₁ σ₁ a b c e=>e.run hA c λvs s₂ Xs D₂ σ₂ a' b' c' q=>⟨X::Xs,D₂,σ₂,a.trans a',.cons (b.mono a'.sub) b',c',q⟩) he
variable {P:VP}
theorem A3.newF(R:A3 C η ν gl own G D m σ s)(o:Obj)(hf:autoParam (o.isFreed=false) auR):
  A3 C η ν gl own G (z2s D s.heap.objs.size o) m σ {s with heap:=s.heap.push o}/\DX G D (z2s D s.heap.objs.size o):=by
 obtain⟨a,b⟩:=R.lifted.newF o hf
 exact⟨R.back a b,R.dx b⟩
theorem z2j{es:List Expr}{k:Nat}{p:Pos}(h:AL C η ν gl own d (spliced (backTo p (starEach es η))) m σ λXs σ₁=>Xs.length<=sizeLine/\P (.tup Xs) σ₁):
  AT C η ν gl own d (eval (.Tuple es k p) η) m σ P:=λA G D s hA R=>
 wpAny_Tuple (h.run hA R λvs s₁ Xs D₁ σ₁ a b c hpp=>by obtain⟨hl,q⟩:=hpp;exact⟨by rw[b.length];exact hl,by
  obtain⟨R',dx⟩:=c.newF (y5g vs.toArray 0)
  exact⟨.tup Xs,_,σ₁,a.trans dx,.tup (z0T ..) rfl rfl (b.mono dx.sub),R',q⟩⟩)
theorem z1C{es:List Expr}{p:Pos}(h:AL C η ν gl own d (spliced (backTo p (starEach es η))) m σ λXs σ₁=>Xs.length<=sizeLine/\P (.lst Xs) σ₁):
  AT C η ν gl own d (eval (.List es p) η) m σ P:=λA G D s hA R=>
 wpAny_List (h.run hA R λvs s₁ Xs D₁ σ₁ a b c hpp=>by obtain⟨hl,q⟩:=hpp;exact⟨by rw[b.length];exact hl,by
  obtain⟨R',dx⟩:=c.newF (z0q vs.toArray 0)
  exact⟨.lst Xs,_,σ₁,a.trans dx,.lst (z0T ..) (b.mono dx.sub),R',q⟩⟩)
theorem A3.newL(R:A3 C η ν gl own G D m σ s){vs:List Value}{xs:List V}(h:A6 C.w D vs xs):
  A3 C η ν gl own G D m ((s.heap.objs.size,z0q vs.toArray 0,.list xs)::σ) {s with heap:=s.heap.push (z0q vs.toArray 0)}:=
 R.back (R.lifted.newM (z0q vs.toArray 0) (.list xs) ⟨vs.toArray,0,rfl,by simpa using h⟩ rfl (λ_ _=>rfl)) (DX.refl _ _)
def C2(C:Cx)(d:Nat)(x i:V)(σ:Sto)(P:VP):Prop:=
 ∀A G D s o v,C9 C A d->RelC C G D σ s->VR C.w D o x->VR C.w D v i->∃T id,s.TypeIs o T/\typeLookup (.type T) "__getitem__"=pure (some (.builtin id))/\wpAny C.M A (getItem o v) (A0 C G D P) (λ_ _=>False) s
set_option tactic.hygienic true in
theorem z5o(slice:Expr)(o i:Value):∃ops,subscripted slice false o i=operate ops (getItem o i):=by
 cases slice<;>first|exact⟨_,rfl⟩|(rename_i a b c p;cases c<;>exact⟨_,rfl⟩)
theorem z0u{e i:Expr}{p:Pos}(h:AT C η ν gl own d (eval e η) m σ λX σ₁=>AT C η ν gl own d (eval i η) m σ₁ λI σ₂=>C2 C d X I σ₂ P):
  AT C η ν gl own d (eval (.Subscript e i p) η) m σ P:=λA G D s hA R=>
 PyProof.Rows.Subscript_ (h.run hA R λv s₁ X D₁ σ₁ a b c e₁=>e₁.run hA c λu s₂ I D₂ σ₂ a' b' c' q=>by
  obtain⟨T,id,hT,hl,hw⟩:=q A _ D₂ s₂ v u hA c'.lifted (b.mono a'.sub) b'
  obtain⟨ops,ho⟩:=z5o i v u
  exact PyProof.Rows.tail_any hT hl (By hw (λ_ _ hpp=>by obtain⟨x,D',σ',a₂,b₂,c₂,q₂⟩:=hpp;exact⟨x,D',σ',(a.trans a').trans (c'.dx a₂),b₂,c'.back c₂ a₂,q₂⟩) λ_ _ x=>x) ho)
end
section
variable {C:Cx} {η:Env} {ν:List Str} {gl:LV} {own:Bool} {d:Nat} {m m':Loc} {σ σ':Sto}
variable {A:Around} {G D D₁:Gh} {s:Shared} {P:VP}
def KW(C:Cx)(d:Nat)(f:V)(xs:List V)(σ:Sto)(P:VP):Prop:=
 ∀A G D s v vs,C9 C A d->RelC C G D σ s->VR C.w D v f->A6 C.w D vs xs->wpAny C.M A (call v vs) (A0 C G D P) (λ_ _=>False) s
theorem KW.mono{P':VP}{f:V}{xs:List V}(h:KW C d f xs σ P)(hp:∀x σ,P x σ->P' x σ):KW C d f xs σ P':=λA G D s v vs hA R hv hs=>
 By (h A G D s v vs hA R hv hs) (λ_ _ hpp=>by obtain⟨x,D',σ',a,b,c,e⟩:=hpp;exact⟨x,D',σ',a,b,c,hp _ _ e⟩) λ_ _ e=>e
theorem z61{a:Addr}{xs:List V}(h:CW C d (.ref a) xs σ P):KW C d (.ref a) xs σ P:=λA G D s v vs hA R hv hs=>by
 apply VR.refE hv
 exact wpAny_call (codeAny_mono (h A G D s vs hA R hs) λr s' q=>by
  cases r with
  |error e=>exact q.elim
  |ok f=>cases f<;>exact q)
noncomputable def z1g(C:Cx):V->Prop
 | .bi _=>True
 | .type _=>True
 | .ref a=>∃o fd,C.base.get? a=some o/\o.data= .func fd
 |_=>False
theorem z0K{F:V}(hF:z1g C F){f:Value}{pos:Pos}{first:List Value}{args:List (Bool×Sem Value)}{K:Value->Shared->Prop}{E:Value->Shared->Prop}(hf:VR C.w D f F)(hplain:args.any (·.1)=false)
  (h:wpAny C.M A (evalArgs f true args []) (λx s₁=>(∀b o,C.base.get? b=some o->s₁.heap.get? b=some o)/\wpAny C.M A (call f (first++x.pos) x.kw) K E s₁) E s):
  wpAny C.M A (callWith pos f first args []) K E s:=by
 cases hf with
 |bi n=>exact Calls.callWith_builtin hplain (By h (λ_ _ x=>x.2) λ_ _ x=>x)
 |type n=>exact callWith_type hplain (By h (λ_ _ x=>x.2) λ_ _ x=>x)
 |ref a=>
  obtain⟨o,fd,ho,hd⟩:=hF
  exact Calls.callWith_function (By h (λ_ _ x=>⟨⟨x.1 _ _ ho,hd⟩,x.2⟩) λ_ _ x=>x)
 |_=>exact hF.elim
theorem RelC.baseIn(R:RelC C G D σ s):∀b o,C.base.get? b=some o->s.heap.get? b=some o:=R.bs
theorem KW.inF{f:V}{xs:List V}(h:KW C d f xs σ P){v:Value}{vs:List Value}(hA:C9 C A d)(R:A3 C η ν gl own G D m σ s)(hv:VR C.w D v f)(hs:A6 C.w D vs xs):
  wpAny C.M A (call v vs) (B8 C η ν gl own G D m P) (λ_ _=>False) s:=
 By (h A _ D s v vs hA R.lifted hv hs) (λ_ _ hpp=>by obtain⟨x,D',σ',a,b,c,e⟩:=hpp;exact⟨x,D',σ',R.dx a,b,R.back c a,e⟩) λ_ _ e=>e
theorem z9U{x:Str}{np p:Pos}(h:AT C η ν gl own d (eval (.Name x np) η) m σ λF σ₁=>z1g C F/\KW C d F [] σ₁ P):
  AT C η ν gl own d (eval (.Call (.Name x np) [] [] p) η) m σ P:=λA G D s hA R=>
 wpAny_Call_ofName (h.run hA R λv s₁ F D₁ σ₁ a b c hpp=>by obtain⟨hF,hk⟩:=hpp;exact z0K hF b rfl (evalArgs_none ⟨c.toRelC.baseIn,z1e a (hk.inF hA c b .nil)⟩))
theorem z2x{x:Str}{np p:Pos}{e:Expr}{rest:List Expr}(h:AT C η ν gl own d (eval (.Name x np) η) m σ λF σ₁=>z1g C F/\AL C η ν gl own d (spliced (backTo p (starEach (e::rest) η))) m σ₁ λXs σ₂=>KW C d F Xs σ₂ P)
  (he:autoParam (starEach (e::rest) η=(false,eval e η)::starEach rest η) auR) (hplain:autoParam ((backTo p (starEach rest η)).any (·.1)=false) auR):
  AT C η ν gl own d (eval (.Call (.Name x np) (e::rest) [] p) η) m σ P:=λA G D s hA R=>
 wpAny_Call_ofName (h.run hA R λv s₁ F D₁ σ₁ a b c hpp=>by obtain⟨hF,hk⟩:=hpp;exact z0K hF b (by rw[he];exact hplain) (by
  rw[he] at hk⊢
  exact Calls.evalArgs_plain (AL.run hk hA c λvs s₂ Xs D₂ σ₂ a' b' c' q=>⟨c'.toRelC.baseIn,z1e (a.trans a') (q.inF hA c' (b.mono a'.sub) b')⟩)))
noncomputable def y1W(Q:VP):FP
 | .ret x,_,σ=>Q x σ
 | .next,_,σ=>Q .none σ
 |_,_,_=>False
noncomputable def nodupB:List Str->Bool
 |[]=>true
 |x::r=> !r.contains x&&nodupB r
theorem F3:∀{l:List Str},nodupB l=true->l.Nodup
 |[],_=> .nil
 |x::r,h=>by
  simp only[nodupB,AC,Bool.not_eq_true'] at h
  exact Au.mpr ⟨λhm=>by have:=List.contains_iff_mem.mpr hm;rw[this] at h;exact absurd h.1 (by decide),F3 h.2⟩
noncomputable def z3T(sc:Scope)(ν:List Str)(gl:List Str):Bool:=
 sc.kind== .function&& !sc.isCoroutine&& !sc.isGenerator&&nodupB ν&&
 ν.all (λx=> !(x==("__debug__":Str))&&(sc.names.lookup x==some .local||sc.names.lookup x==some .cell))&&
 gl.all λx=> !(x==("__debug__":Str))&&sc.names.lookup x==some .globalImplicit
theorem z1A{x:Str}:∀(names:List (Str×NameKind)) (n:Nat) (acc:LA),names.lookup x=some .cell∨(∃c,acc.lookup x=some c)->∃c,(cellsFrom n names acc).lookup x=some c
 |[],_,_,h=>h.elim (λe=>by cases e) id
 |(y,k)::r,n,acc,h=>by
  unfold cellsFrom
  by_cases hk:(k== .cell)=true
  ·rw[if_pos hk]
   refine z1A r (n+1) ((y,n)::acc) ?_
   by_cases hy:(x==y)=true
   ·exact .inr ⟨n,by rw[List.lookup_cons,hy]⟩
   ·refine h.imp (λe=> ?_) λ⟨c,e⟩=>⟨c,?_⟩
    ·rw[List.lookup_cons] at e;simpa only[hy] using e
    ·rw[List.lookup_cons];simpa only[hy] using e
  ·rw[if_neg hk]
   refine z1A r n acc ?_
   by_cases hy:(x==y)=true
   ·refine .inr (h.elim (λe=> ?_) id)
    rw[List.lookup_cons,hy] at e
    exact absurd (by rw[Bs e];rfl) hk
   ·refine h.imp (λe=> ?_) id
    rw[List.lookup_cons] at e;simpa only[hy] using e
theorem z5Q{kf:Str->Option NameKind}{x:Str}:∀{b:List (Str×Value)} {mm:Str->Option Value},x∉b.map (·.1)->bindL kf b mm x=mm x
 |[],_,_=>rfl
 |(n,v)::r,mm,h=>by
  simp only[Ap,Ae,not_or] at h
  unfold bindL
  rw[z5Q h.2]
  split
  ·simp[h.1]
  ·rfl
theorem z5P{kf:Str->Option NameKind}{x:Str}:∀{b:List (Str×Value)} {mm:Str->Option Value},x∉b.map (·.1)->bindC kf b mm x=mm x
 |[],_,_=>rfl
 |(n,v)::r,mm,h=>by
  simp only[Ap,Ae,not_or] at h
  unfold bindC
  rw[z5P h.2]
  split
  ·rfl
  ·simp[h.1]
theorem z67{kf:Str->Option NameKind}{x:Str}{v:Value}:∀{b:List (Str×Value)} {mm:Str->Option Value},(b.map (·.1)).Nodup->(x,v)∈b->kf x=some .local->bindL kf b mm x=some v
 |(n,u)::r,mm,hn,hm,hk=>by
  have hn':=Au.mp hn
  unfold bindL
  rcases Ae.mp hm with e|hm
  ·cases e
   rw[z5Q hn'.1,if_pos hk];simp
  ·exact z67 hn'.2 hm hk
theorem z66{kf:Str->Option NameKind}{x:Str}{v:Value}:∀{b:List (Str×Value)} {mm:Str->Option Value},(b.map (·.1)).Nodup->(x,v)∈b->kf x≠some .local->bindC kf b mm x=some v
 |(n,u)::r,mm,hn,hm,hk=>by
  have hn':=Au.mp hn
  unfold bindC
  rcases Ae.mp hm with e|hm
  ·cases e
   rw[z5P hn'.1,if_neg hk];simp
  ·exact z66 hn'.2 hm hk
theorem C9.deeper{C:Cx}[NF C]{A:Around}{d:Nat}{η:Env}(h:C9 C A (d+1)):C9 C (A.deeper η) d:=
 ⟨h.h,λl e=>(nomatch (NF.h (C:=C)).symm.trans e),AG (Bp (Nat.add_right_comm A.depth 1 d)) h.depth,AG (Bp (Nat.add_right_comm A.units 3 (8*d))) (AG (Be (show 3<=8 by decide) (A.units+8*d)) h.units)⟩
structure FnIs(C:Cx)(a:Addr)(fd:FuncData)(body:List Stmt)(params:List Str):Prop where
 ob:∃o,C.base.get? a=some o/\o.data= .func fd
 body:fd.body= .stmts body
 clo:fd.closure=[]
 code:C.base.CodeRec fd.code fd.qualname
 gl:fd.globals=mainGlobals
 bi:fd.builtins=builtinsNs
 bind:∀vs:List Value,vs.length=params.length->bindArgs fd ⟨vs,[]⟩=pure (params.zip vs)
theorem z9o{α β:Type}:∀{l:List α} {r:List β} {i:Nat} {x:α} {y:β},l[i]? =some x->r[i]? =some y->(x,y)∈l.zip r
 |a::l,b::r,0,x,y,h1,h2=>by simp at h1 h2;subst h1 h2;simp
 |a::l,b::r,i+1,x,y,h1,h2=>by
  have:=z9o (l:=l) (r:=r) (i:=i) (by simpa using h1) (by simpa using h2)
  simp[this]
 |[],_,i,_,_,h1,_=>by simp at h1
 |_::_,[],i,_,_,_,h2=>by simp at h2
open Classical in
theorem y0U{a:Addr}{fd:FuncData}{body:List Stmt}{params others:List Str}{gl:LV}{xs:List V}{A:Around}{G D:Gh}{s:Shared}{vs:List Value}{RR:Result->Shared->Prop}(F:FnIs C a fd body params)(hlen:xs.length=params.length)
  (hst:z3T fd.scope (params++others) (gl.map (·.1))=true) (hgl:∀p∈gl,z04 C p.1 p.2) (hA:C9 C A (d+1)) (R:RelC C G D σ s) (hv:A6 C.w D vs xs)
  (h:∀(E:Env) (Gc:Gh) (s₁:Shared),E.scope=fd.scope->E.frame=some E.locals->s.heap.objs.size<=E.locals->(∀b o,G b=some o->frk o->Gc b=some o)->(∀b o,G b=some o->∃o',Gc b=some o'/\Eqs o o')->A3 C E (params++others) gl true Gc D (xs.map some++others.map λ_=>none) σ s₁->
   wpAny C.M (A.deeper E) (execs body E) (λf s'=>RR (.ok (.ret (match f with| .ret v=>v|_=> .none))) s') (λe s'=>wpAny C.M (A.deeper E) (leaving E e) (λ_ s''=>RR (.error e) s'') (λe' s''=>RR (.error e') s'') s') s₁):
  codeAny C.M A (.call (.ref a) ⟨vs,[]⟩) RR s:=by
 obtain⟨o,ho,hd⟩:=F.ob
 have hvl:vs.length=params.length:=hv.length.trans hlen
 have keepB:=R.baseIn
 simp only[z3T,AC,Bool.not_eq_true',beq_iff_eq] at hst
 obtain⟨⟨⟨⟨⟨k1,k2⟩,k3⟩,k4⟩,k5⟩,k6⟩:=hst
 have nd:(params++others).Nodup:=F3 k4
 have vk:∀x∈params++others,(x==("__debug__":Str))=false/\(fd.scope.names.lookup x=some .local∨fd.scope.names.lookup x=some .cell):=λx hx=>by
  have:=AK.mp k5 x hx
  simp only[AC,Bool.not_eq_true',AV,beq_iff_eq] at this
  exact this
 have zn:(params.zip vs).map (·.1)=params:=by
  rw[List.map_fst_zip];exact Bp hvl.symm
 refine codeAny_call_cells (fd:=fd) (AG (Bn _ _) hA.depth) (keepB _ _ ho) hd (C.lim.keeps keepB) (F.code.keeps keepB) F.body (F.bind vs hvl) F.clo (λx hx=> ?_) (λs₁ x=> ?_) k2 k3 k1
 ·have hm:x.1∈params:=zn▸List.mem_map_of_mem hx
  rcases(vk x.1 (Ai _ hm)).2 with e|e
  ·exact .inl e
  ·obtain⟨c,hc⟩:=z1A (x:=x.1) fd.scope.names (s.heap.objs.size+1) [] (.inl e)
   exact .inr ⟨e,by rw[hc];rfl⟩
 ·generalize hE:callEnvC fd s.heap.objs.size a=E at x⊢
  have eL:E.locals=s.heap.objs.size:=by rw[<-hE];rfl
  have eK:∀y,E.kindOf y=fd.scope.names.lookup y:=λy=>by rw[<-hE];rfl
  have eC:E.cells=cellsFrom (s.heap.objs.size+1) fd.scope.names []:=by rw[<-hE];rfl
  obtain⟨h₁,tk,hs₁,kp⟩:=x.done
  let Gc:Gh:=λb=>if b∈A5 σ then none else if∃o,G b=some o/\frk o then G b else s.heap.get? b
  have gcI:∀{b},b∈A5 σ->Gc b=none:=λ{b} hb=>if_pos hb
  have gcF:∀b o,G b=some o->frk o->Gc b=some o:=λb o e n=>by
   show(if b∈A5 σ then none else if∃o,G b=some o/\frk o then G b else s.heap.get? b)=some o
   rw[if_neg λhb=>(nomatch (R.offG b hb).symm.trans e),if_pos ⟨o,e,n⟩];exact e
  have gcH:∀b,b∉A5 σ->(¬∃o,G b=some o/\frk o)->Gc b=s.heap.get? b:=λb hb hn=>by
   show(if b∈A5 σ then none else if∃o,G b=some o/\frk o then G b else s.heap.get? b)=_
   rw[if_neg hb,if_neg hn]
  have gc1:∀b o,Gc b=some o->∃o',s.heap.get? b=some o'/\Eqs o o':=λb o e=>by
   by_cases hb:b∈A5 σ
   ·exact nomatch (gcI hb).symm.trans e
   ·by_cases hn:∃o,G b=some o/\frk o
    ·obtain⟨o2,h1,h2⟩:=hn
     rw[gcF b o2 h1 h2] at e
     rw[<-Bs e];exact R.g b o2 h1
    ·rw[gcH b hb hn] at e;exact⟨o,e,.refl o⟩
  have gG:∀b o,G b=some o->∃o',Gc b=some o'/\Eqs o o':=λb o e=>by
   by_cases n:frk o
   ·exact⟨o,gcF b o e n,.refl o⟩
   ·obtain⟨o',h1,h2⟩:=R.g b o e
    refine⟨o',(gcH b (λhb=>nomatch (R.offG b hb).symm.trans e) λhn=> ?_).trans h1,h2⟩
    obtain⟨o2,k1,k2⟩:=hn
    rw[e] at k1;exact n (Bs k1▸k2)
  have new:∀c,s.heap.objs.size<=c->Gc c=none/\D c=none/\c∉A5 σ:=λc hc=>⟨by
    cases e:Gc c with
    |none=>rfl
    |some o=>obtain⟨o',h',_⟩:=gc1 c o e;exact absurd (Heap.lt_size h') (BC.mpr hc),by
    cases e:D c with
    |none=>rfl
    |some o=>exact absurd (Heap.lt_size (R.d c o e)) (BC.mpr hc),λhf=>absurd (R.footLt hf) (BC.mpr hc)⟩
  have hkeep:∀b o,s.heap.get? b=some o->s₁.heap.get? b=some o:=by rw[hs₁];exact kp
  have RC:RelC C Gc D σ s₁:=by
   refine⟨?_,λb o e=>hkeep b o (R.bs b o e),(λb o e=>by obtain⟨o',h1,h2⟩:=gc1 b o e;exact⟨o',hkeep b o' h1,h2⟩),λb o e=>hkeep b o (R.d b o e),(λb o e=>by
    by_cases n:frk o
    ·exact gcF b o (R.base b o e) n
    ·refine(gcH b (λhb=>nomatch (R.offG b hb).symm.trans (R.base b o e)) λhn=> ?_).trans (R.bs b o e)
     obtain⟨o2,k1,k2⟩:=hn
     rw[R.base b o e] at k1;exact n (Bs k1▸k2)),R.nd,λb hb=> ?_,R.offD,λp hp=>(R.pl p hp).at λb _ ob e=>hkeep _ _ e,R.sto⟩
   ·obtain⟨h₂,t₂,e⟩:=R.same
    exact⟨h₁,tk,by rw[hs₁,e]⟩
   ·exact gcI hb
  have ndz:((params.zip vs).map (·.1)).Nodup:=by rw[zn];exact(List.nodup_append.mp nd).1
  have locs:∀(i:Nat) y X,(params++others)[i]? =some y->(xs.map some++others.map λ_=>none)[i]? =some (some X)->∃v,(y,v)∈params.zip vs/\VR C.w D v X:=by
   intro i y X e1 e2
   rw[List.getElem?_append] at e1 e2
   rw[Ab] at e2
   by_cases hi:i<xs.length
   ·rw[if_pos hi] at e2
    rw[if_pos (hlen▸hi)] at e1
    rw[Al] at e2
    obtain⟨Y,hY,e3⟩:=Bw.mp e2
    cases e3
    obtain⟨u,hu,ru⟩:=hv.get hY
    exact⟨u,z9o e1 hu,ru⟩
   ·rw[if_neg hi] at e2
    rw[Al] at e2
    obtain⟨Y,hY,e3⟩:=Bw.mp e2
    cases e3
  have RF:A3 C E (params++others) gl true Gc D (xs.map some++others.map λ_=>none) σ s₁:=
   {RC with
    ok:=⟨by rw[<-hE];exact k1,nd,λy hy=>⟨(vk y hy).1,(vk y hy).2.imp (λe=>by rw[eK];exact e) λe=>⟨by rw[eK];exact e,by rw[eC];exact z1A _ _ _ (.inl e)⟩⟩,x.apart,
     λp hp=>by
      have:=AK.mp k6 p.1 (List.mem_map_of_mem hp)
      simp only[AC,Bool.not_eq_true',beq_iff_eq] at this
      exact⟨this.1,by rw[eK];exact this.2,hgl p hp⟩,
     by rw[<-hE];exact F.gl,by rw[<-hE];exact F.bi⟩
    offL:=by rw[eL];exact new _ (AN _)
    ns:=⟨_,x.toInCall.ns,λi y X e1 e2 e3=>by
     obtain⟨v,hv1,hv2⟩:=locs i y X e1 e3
     exact⟨v,z67 ndz hv1 e2,hv2⟩⟩
    cl:=λi y c e1 e2 e3=>by
     have hab:=x.above y c (mem_of_lookup e3)
     rw[eL] at hab
     refine⟨by rw[eL];exact Nat.ne_of_gt hab,⟨_,x.cell y c e3,λX e4=> ?_⟩,new c (AZ hab)⟩
     obtain⟨v,hv1,hv2⟩:=locs i y X e1 e4
     exact⟨v,z66 ndz hv1 (by rw[e2];intro q;cases q),hv2⟩}
  exact h E Gc s₁ (by rw[<-hE];rfl) (by rw[<-hE];rfl) (eL▸AN _) gcF gG RF
theorem y4z [NF C]{a:Addr}{fd:FuncData}{body:List Stmt}{params others:List Str}{gl:LV}{xs:List V}(F:FnIs C a fd body params)(hlen:xs.length=params.length)
  (hst:z3T fd.scope (params++others) (gl.map (·.1))=true) (hgl:∀p∈gl,z04 C p.1 p.2)
  (h:∀η,η.scope=fd.scope->AS C η (params++others) gl true d (execs body η) (xs.map some++others.map λ_=>none) σ (y1W P)):CW C (d+1) (.ref a) xs σ P:=by
 intro A G D s vs hA R hv
 refine y0U F hlen hst hgl hA R hv λE Gc s₁ hsc _ _ _ gG RF=> ?_
 refine By ((h E hsc).run hA.deeper RF λf s' fl m' D' σ' a b c q=> ?_) (λ_ _ e=>e) (λ_ _ e=>e.elim)
 have dx:DX G D D':=a.less λb hb=>by
  cases e:G b with
  |none=>exact absurd e hb
  |some o=>obtain⟨o',h1,_⟩:=gG b o e;rw[h1];exact nofun
 have RC':RelC C G D' σ' s':=⟨c.same,c.bs,(λb o e=>by
   obtain⟨o',h1,h2⟩:=gG b o e
   obtain⟨o2,h3,h4⟩:=c.g b o' h1
   exact⟨o2,h3,h2.trans h4⟩),c.d,R.base,c.nd,(λb hb=>by
   cases e:G b with
   |none=>rfl
   |some o=>obtain⟨o',h1,_⟩:=gG b o e;exact nomatch (c.offG b hb).symm.trans h1),c.offD,c.pl,c.sto⟩
 cases f<;>cases fl<;>first|exact b.elim|exact q.elim|skip
 ·exact⟨.none,D',σ',dx,.none,RC',q⟩
 ·exact⟨_,D',σ',dx,b,RC',q⟩
end
def y22(w:World)(D:Gh)(h h':Heap)(v:Value)(X:V):Prop:=
 VR w D v X∨∃T o vals n Xs,v= .ref T/\X= .tup Xs/\A6 w D vals Xs/\h.objs.size<=T/\h'.get? T=some o/\o.cls= .type "tuple"/\o.data= .seq vals.toArray n
def z4M(wr:List Addr)(h h':Heap):Prop:=∀b o,b∉wr->h.get? b=some o->h'.get? b=some o
structure IW(C:Cx)(A:Around)(tgt:Expr)(I:Addr)(fp wr:List Addr)(D:Gh)(xs:List V)(St:Nat->Heap->Prop):Prop where
 live:∀i h,St i h->∀a∈wr,∃o,h.get? a=some o/\¬frk o
 sub:∀b∈wr,b∈fp
 old:∀b∈fp,b∉wr->∀h:Heap,St 0 h->h.get? b=none->False
 frame:∀i h h',St i h->(∀b∈fp,∀o,h.get? b=some o->h'.get? b=some o)->St i h'
 item:∀(i:Nat) X (s:Shared) (K:Option Value->Shared->Prop),xs[i]? =some X->St i s.heap->
  (∀v s₁,(∀Q':Unit->Shared->Prop,(∀h' tk,y22 C.w D s.heap h' v X->St (i+1) h'->z4M wr s.heap h'->Q' () {s with heap:=h',toks:=tk})->
   wpAny C.M A (letOwnedTupleGo tgt (.ref I) v) Q' (λ_ _=>False) s₁)->K (some v) s₁)->wpAny C.M A (pyNext (.ref I)) K (λ_ _=>False) s
 self:∀(i:Nat) (s:Shared) (K:Value->Shared->Prop),St i s.heap->K (.ref I) s->wpAny C.M A (pyIter (.ref I)) K (λ_ _=>False) s
 done:∀(s:Shared) (K:Option Value->Shared->Prop),St xs.length s.heap->(∀h' tk,z4M wr s.heap h'->K none {s with heap:=h',toks:=tk})->wpAny C.M A (pyNext (.ref I)) K (λ_ _=>False) s
section
variable {C:Cx} {η:Env} {ν:List Str} {gl:LV} {own:Bool} {d:Nat} {m m':Loc} {σ σ':Sto}
variable {A:Around} {G D D₀ D₁:Gh} {s:Shared}
def Off(η:Env)(ν:List Str)(G D:Gh)(σ:Sto)(wr:List Addr):Prop:=∀a∈wr,G a=none/\D a=none/\a∉A5 σ/\¬z2y η ν a
theorem A3.keepBut(R:A3 C η ν gl own G D m σ s){h':Heap}(t:Nat){wr:List Addr}(hw:Off η ν G D σ wr)(k:z4M wr s.heap h'):A3 C η ν gl own G D m σ {s with heap:=h',toks:=t}:=by
 have R':=R.lifted.keepBut (h':=h') t wr (λa ha=>⟨by rw[z1H (hw a ha).2.2.2];exact(hw a ha).1,(hw a ha).2.1,(hw a ha).2.2.1⟩) k
 exact R.back R' (DX.refl _ _)
theorem y03{s':Shared}(R:A3 C η ν gl own G D m σ s)(R₁:A3 C η ν gl own G D m σ s'){T:Addr}{o:Obj}(nT:∀ob,s.heap.get? T≠some ob)(ho:s'.heap.get? T=some o):D T=none/\DX G D (z2s D T o)/\A3 C η ν gl own G (z2s D T o) m σ s':=by
 have no:∀{x:Option Obj},(∀ob,x=some ob->s.heap.get? T=some ob)->x=none:=λ{x} h=>Option.eq_none_iff_forall_not_mem.mpr λob e=>nT ob (h ob e)
 have hD:D T=none:=no (R.d T)
 have hf:∀b∈A5 σ,b≠T:=λb h q=>by obtain⟨ob,e⟩:=R.toRelC.footLives h;exact nT ob (q▸e)
 have hl:z2g η ν G s' T=none:=by
  by_cases hm:z2y η ν T
  ·obtain⟨ob,e⟩:=R.mineLives hm;exact absurd e (nT ob)
  ·rw[z1H hm];exact R.noG nT
 have hsub:=z3S o hD
 have RC:=R₁.lifted
 have dx:DX (z2g η ν G s') D (z2s D T o):=⟨hsub,λb eb g=>by rw[z1k];exact eb;rintro rfl;exact g hl⟩
 refine⟨hD,R₁.dx dx,R₁.back {RC with d:=λb ob e=> ?_,offD:=λb hb=> ?_,sto:=λp hp=>(RC.sto p hp).mono hsub} dx⟩
 ·by_cases hb:b=T
  ·rw[hb,z0T] at e;rw[hb];exact ho.trans e
  ·rw[z1k o hb] at e;exact RC.d b ob e
 ·rw[z1k o (hf b hb)];exact RC.offD b hb
theorem z86(R:A3 C η ν gl own G D m σ s)(hs:Sub D₀ D){h':Heap}{t:Nat}{wr:List Addr}(hw:Off η ν G D σ wr)(k:z4M wr s.heap h'){v:Value}{X:V}(hi:y22 C.w D₀ s.heap h' v X):
  ∃D',DX G D D'/\A3 C η ν gl own G D' m σ {s with heap:=h',toks:=t}/\VR C.w D' v X/\∀w2:List Addr,(∀a∈w2,∃o,s.heap.get? a=some o)->Off η ν G D σ w2->Off η ν G D' σ w2:=by
 have R₁:=R.keepBut t hw k
 rcases hi with hv|⟨T,o,vals,n,Xs,rfl,rfl,hvs,hT,ho,hc,hd⟩
 ·exact⟨D,DX.refl _ _,R₁,hv.mono hs,λ_ _ h=>h⟩
 ·have nT:∀ob,s.heap.get? T≠some ob:=λob e=>absurd (Heap.lt_size e) (BC.mpr hT)
  obtain⟨hD,dx,R₂⟩:=y03 R R₁ nT ho
  refine⟨z2s D T o,dx,R₂,.tup (z0T ..) hc hd ((hvs.mono hs).mono dx.sub),λw2 hl2 hw2 a ha=>⟨(hw2 a ha).1,?_,(hw2 a ha).2.2⟩⟩
  obtain⟨ob,e⟩:=hl2 a ha
  rw[z1k o (show a≠T fromλq=>nT ob (q▸e))];exact(hw2 a ha).2.1
noncomputable def z6n(C:Cx)(η:Env)(ν:List Str)(gl:LV)(own:Bool)(d:Nat)(tgt:Expr)(body:List Stmt)(P:Sto->Prop)(Q:FP):List V->Loc->Sto->Prop
 |[],m,σ=>Q .next m σ
 |X::xs,m,σ=>AA C η ν gl own d (assign tgt η) X m σ λm₁ σ₁=>AS C η ν gl own d (execs body η) m₁ σ₁ λfl m₂ σ₂=>match fl with
  | .next=>P σ₂/\z6n C η ν gl own d tgt body P Q xs m₂ σ₂
  | .cont=>P σ₂/\z6n C η ν gl own d tgt body P Q xs m₂ σ₂
  | .brk=>Q .next m₂ σ₂
  | .ret v=>Q (.ret v) m₂ σ₂
def y0y(C:Cx)(D:Gh)(P:Sto->Prop)(h:Heap)(fp wr:List Addr):Prop:=
 ∀G' D' σ' (s':Shared),RelC C G' D' σ' s'->Sub D D'->P σ'->∀b∈fp,b∉wr->∀o,h.get? b=some o->s'.heap.get? b=some o
inductive Ready(C:Cx)(A:Around)(η:Env)(ν:List Str)(gl:LV)(own:Bool)(tgt:Expr)(G D:Gh)(m:Loc)(σ:Sto)(it:Value)(s:Shared)(xs:List V)(P:Sto->Prop):Prop
 |mk (I:Addr) (fp wr:List Addr) (St:Nat->Heap->Prop):it= .ref I->IW C A tgt I fp wr D xs St->St 0 s.heap->A3 C η ν gl own G D m σ s->Off η ν G D σ wr->P σ->y0y C D P s.heap fp wr->Ready C A η ν gl own tgt G D m σ it s xs P
inductive PostI(C:Cx)(A:Around)(η:Env)(ν:List Str)(gl:LV)(own:Bool)(tgt:Expr)(G D:Gh)(m:Loc)(Q:List V->(Sto->Prop)->Sto->Prop)(it:Value)(s₂:Shared):Prop
 |mk (D':Gh) (σ':Sto) (xs:List V) (P:Sto->Prop):DX G D D'->Ready C A η ν gl own tgt G D' m σ' it s₂ xs P->Q xs P σ'->PostI C A η ν gl own tgt G D m Q it s₂
def AI(C:Cx)(η:Env)(ν:List Str)(gl:LV)(own:Bool)(d:Nat)(iter tgt:Expr)(m:Loc)(σ:Sto)(Q:List V->(Sto->Prop)->Sto->Prop):Prop:=
 ∀A G D s,C9 C A d->A3 C η ν gl own G D m σ s->wpAny C.M A (eval iter η) (λx s₁=>wpAny C.M A (pyIter x) (PostI C A η ν gl own tgt G D m Q) (λ_ _=>False) s₁) (λ_ _=>False) s
open Classical in
noncomputable def z2w(G:Gh)(wr:List Addr)(h:Heap):Gh:=λa=>if a∈wr then h.get? a else G a
theorem z1K{wr:List Addr}{h:Heap}{a:Addr}(e:a∈wr):z2w G wr h a=h.get? a:=by unfold z2w;rw[if_pos e]
theorem z0V{wr:List Addr}{h:Heap}{a:Addr}(e:a∉wr):z2w G wr h a=G a:=by unfold z2w;rw[if_neg e]
theorem A3.withW(R:A3 C η ν gl own G D m σ s){wr:List Addr}(hw:Off η ν G D σ wr):A3 C η ν gl own (z2w G wr s.heap) D m σ s where
 same:=R.same
 bs:=R.bs
 g:=λa o e=>by
  by_cases h:a∈wr
  ·rw[z1K h] at e;exact⟨o,e,.refl o⟩
  ·rw[z0V h] at e;exact R.g a o e
 d:=R.d
 base:=λa o e=>by
  by_cases h:a∈wr
  ·have:=R.base a o e;rw[(hw a h).1] at this;cases this
  ·rw[z0V h];exact R.base a o e
 nd:=R.nd
 offG:=λa ha=>by
  by_cases h:a∈wr
  ·exact absurd ha (hw a h).2.2.1
  ·rw[z0V h];exact R.offG a ha
 offD:=R.offD
 pl:=R.pl
 sto:=R.sto
 ok:=R.ok
 offL:=⟨by
  by_cases h:η.locals∈wr
  ·exact absurd (Or.inl rfl) (hw _ h).2.2.2
  ·rw[z0V h];exact R.offL.1,R.offL.2⟩
 ns:=R.ns
 cl:=λi x c h1 h2 h3=>by
  obtain⟨q1,q2,q3⟩:=R.cl i x c h1 h2 h3
  refine⟨q1,q2,?_⟩
  have hc:c∉wr:=λh=>(hw _ h).2.2.2 (Or.inr ⟨i,x,h1,h2,h3⟩)
  rw[z0V hc];exact q3
theorem A3.lessW{wr:List Addr}{h:Heap}{σ₀:Sto}{D₀:Gh}(R:A3 C η ν gl own (Mine.z2w G wr h) D m σ s)(hw:Off η ν G D₀ σ₀ wr)(hb:∀a o,C.base.get? a=some o->G a=some o)(hdx:DX (Mine.z2w G wr h) D₀ D)
  (hlive:∀a∈wr,∃o,h.get? a=some o):A3 C η ν gl own G D m σ s/\DX G D₀ D/\Off η ν G D σ wr:=by
 have up:∀a o,G a=some o->Mine.z2w G wr h a=some o:=λa o e=>by
  by_cases h':a∈wr
  ·rw[(hw a h').1] at e;cases e
  ·rw[z0V h'];exact e
 have none_of:∀a,Mine.z2w G wr h a=none->G a=none:=λa e=>by
  cases q:G a with
  |none=>rfl
  |some o=>rw[up a o q] at e;cases e
 refine⟨⟨⟨R.same,R.bs,λa o e=>R.g a o (up a o e),R.d,hb,R.nd,λa ha=>none_of a (R.offG a ha),R.offD,R.pl,R.sto⟩,R.ok,⟨none_of _ R.offL.1,R.offL.2⟩,R.ns,λi x c h1 h2 h3=> ?_⟩,hdx.less λa g=> ?_,λa ha=> ?_⟩
 ·obtain⟨q1,q2,q3⟩:=R.cl i x c h1 h2 h3
  refine⟨q1,q2,?_⟩
  have hc:c∉wr:=λh=>(hw _ h).2.2.2 (Or.inr ⟨i,x,h1,h2,h3⟩)
  rw[z0V hc] at q3;exact q3
 ·cases q:G a with
  |none=>exact absurd q g
  |some o=>rw[up a o q];exact nofun
 ·obtain⟨o,ho⟩:=hlive a ha
  have hg:Mine.z2w G wr h a=some o:=by rw[z1K ha];exact ho
  refine⟨(hw a ha).1,hdx.off a (hw a ha).2.1 (by rw[hg];exact nofun),λhf=> ?_,(hw a ha).2.2.2⟩
  have:=R.offG a hf;rw[hg] at this;cases this
inductive LoopI(C:Cx)(η:Env)(ν:List Str)(gl:LV)(own:Bool)(Lp:List V->Loc->Sto->Prop)(P:Sto->Prop)(G D₁:Gh)(St:Nat->Heap->Prop)(wr:List Addr)(xs:List V)(k:Nat)(s':Shared):Prop
 |mk (i:Nat) (m':Loc) (D':Gh) (σ':Sto):k=xs.length-i->i<=xs.length->DX G D₁ D'->St i s'.heap->A3 C η ν gl own G D' m' σ' s'->Off η ν G D' σ' wr->P σ'->Lp (xs.drop i) m' σ'->LoopI C η ν gl own Lp P G D₁ St wr xs k s'
theorem AA.mono{X:V}{f:Value->Sem Unit}{K K':Loc->Sto->Prop}(h:AA C η ν gl own d f X m σ K)(hk:∀m σ,K m σ->K' m σ):AA C η ν gl own d f X m σ K':=λA G D s v hA R hv=>
 By (h A G D s v hA R hv) (λ_ _ q=>by obtain⟨m',D',σ',a,b,c⟩:=q;exact⟨m',D',σ',a,b,hk _ _ c⟩) λ_ _ e=>e
theorem IW.lives{tgt:Expr}{I:Addr}{fp wr:List Addr}{D₀:Gh}{xs:List V}{St:Nat->Heap->Prop}(W:IW C A tgt I fp wr D₀ xs St){i:Nat}{h:Heap}(st:St i h):∀a∈wr,∃o,h.get? a=some o:=λa ha=>by
 obtain⟨o,h,_⟩:=W.live i h st a ha
 exact⟨o,h⟩
theorem IW.nf{tgt:Expr}{I:Addr}{fp wr:List Addr}{D₀:Gh}{xs:List V}{St:Nat->Heap->Prop}(W:IW C A tgt I fp wr D₀ xs St){i:Nat}{h:Heap}(st:St i h){a:Addr}{o:Obj}(ha:a∈wr)(e:h.get? a=some o):¬frk o:=by
 obtain⟨o',h',n⟩:=W.live i h st a ha
 rw[e] at h'
 rw[Bs h'];exact n
theorem IW.go{tgt:Expr}{I:Addr}{fp wr:List Addr}{D₀:Gh}{xs:List V}{St:Nat->Heap->Prop}(W:IW C A tgt I fp wr D₀ xs St){i:Nat}{h₀:Heap}{s₂ s₄:Shared}{P:Sto->Prop}{G₂ D₂ G₄ D₄:Gh}{σ₂ σ₄:Sto}(st₂:St i s₂.heap)(st₀:St 0 h₀)(stay:y0y C D₀ P h₀ fp wr)(R₂:RelC C G₂ D₂ σ₂ s₂)(h₂:Sub D₀ D₂)(p₂:P σ₂)(R₄:RelC C G₄ D₄ σ₄ s₄)(h₄:Sub D₀ D₄)(p₄:P σ₄)(hw:∀b o,b∈wr->s₂.heap.get? b=some o->s₄.heap.get? b=some o):St i s₄.heap:=by
 refine W.frame _ _ _ st₂ λb hb o e=> ?_
 by_cases hbw:b∈wr
 ·exact hw b o hbw e
 ·cases q:h₀.get? b with
  |none=>exact(W.old b hb hbw _ st₀ q).elim
  |some o0=>exact stay _ _ _ _ R₄ h₄ p₄ b hb hbw o (q.trans ((stay _ _ _ _ R₂ h₂ p₂ b hb hbw o0 q).symm.trans e))
theorem y20{tgt iter:Expr}{body:List Stmt}{p:Pos}{Q:FP}{A:Around}{E:Value->Shared->Prop}(Lp:(Sto->Prop)->List V->Loc->Sto->Prop)(U:Gh->Gh->Prop)(EB:Gh->Gh->Value->Shared->Prop)(hA:C9 C A d)(R:A3 C η ν gl own G D m σ s)(h:AI C η ν gl own d iter tgt m σ λxs P σ₁=>Lp P xs m σ₁)(hs:∀x,foldedSetIterable iter η x=pure x)(h0:∀P m σ,Lp P [] m σ->Q .next m σ)
  (h1:∀P X xs m σ,Lp P (X::xs) m σ->AA C η ν gl own d (assign tgt η) X m σ λm₁ σ₁=>∀G D s,U G D->A3 C η ν gl own G D m₁ σ₁ s->wpAny C.M A (execs body η) (D1 C η ν gl own G D λfl m₂ σ₂=>match fl with
   | .next=>P σ₂/\Lp P xs m₂ σ₂
   | .cont=>P σ₂/\Lp P xs m₂ σ₂
   | .brk=>Q .next m₂ σ₂
   | .ret v=>Q (.ret v) m₂ σ₂) (EB G D) s)
  (hU:∀{wr h σ' D' D''},DX G D D'->Off η ν G D' σ' wr->DX (z2w G wr h) D' D''->U (z2w G wr h) D''/\∀e s,(∀a∈wr,∃o,h.get? a=some o)->EB (z2w G wr h) D'' e s->notedBy C.M A η (λe s'=>cameBackBy C.M A η E e s') e s):wpAny C.M A (exec (.For tgt iter body [] p) η) (D1 C η ν gl own G D Q) E s:=by
 refine wpAny_For (By (h A G D s hA R) (λx s₁ h₁=>By h₁ (λit s₂ h₂=> ?_) λ_ _ e=>e.elim) λ_ _ e=>e.elim) hs
 refine nG λhG=> ?_
 obtain⟨D₁,σ₁,xs,P,dx₁,⟨I,fp,wr,St,rfl,W,st₀,R₁,off₁,hP₁,stay⟩,hL⟩:=h₂
 refine hG ?_
 have hb:=R.base
 refine codeAny_forLoop_any (LoopI C η ν gl own (Lp P) P G D₁ St wr xs) ?_ (xs.length-0) ⟨0,m,D₁,σ₁,rfl,Nat.zero_le _,DX.refl _ _,st₀,R₁,off₁,hP₁,hL⟩
 rintro k s' ⟨i,m',D',σ',rfl,hi,dx',st',R',off',hP',hL'⟩
 by_cases hlt:i<xs.length
 ·have hX:xs[i]? =some xs[i]:=Ar hlt
  rw[List.drop_eq_getElem_cons hlt] at hL'
  refine By (W.item i _ s' _ hX st' λv s₁ hgo=> ?_) (λ_ _ e=>e) λ_ _ e=>e.elim
  refine By (hgo _ λh' tk hitem st₂ kept=> ?_) (λ_ _ e=>e) λ_ _ e=>e.elim
  refine nG λhG=> ?_
  obtain⟨D₂,dx₂,R₂,hv,offS⟩:=z86 (t:=tk) R' dx'.sub off' kept hitem
  refine hG ?_
  have off₂:=offS wr (W.lives st') off'
  have dx₅:=dx'.trans dx₂
  have dxa:=dx₁.trans dx₅
  refine By (h1 _ _ _ _ _ hL' A _ D₂ _ v hA (R₂.withW off₂) hv) (λ_ s₃ q₃=> ?_) λ_ _ e=>e.elim
  refine nG λhG=> ?_
  obtain⟨m₃,D₃,σ₃,dx₃,R₄,hbody⟩:=q₃
  refine hG ?_
  have u:=hU (h:=h') dxa off₂ dx₃
  refine By (hbody _ D₃ s₃ u.1 R₄) (λf s₄ q=> ?_) λe s₄ q=>u.2 e s₄ (W.lives st₂) q
  refine nG λhG=> ?_
  obtain⟨fl,m₄,D₄,σ₄,dx₄,hfl,R₅,q⟩:=q
  obtain⟨R₆,dx₆,off₆⟩:=R₅.lessW off₂ hb (dx₃.trans dx₄) (W.lives st₂)
  refine hG ?_
  have cont:(P σ₄/\Lp P (xs.drop (i+1)) m₄ σ₄)->∃k',k'<xs.length-i/\LoopI C η ν gl own (Lp P) P G D₁ St wr xs k' s₄:=λh=>⟨xs.length-(i+1),Nat.sub_lt_sub_left hlt (Nat.lt_succ_self i),i+1,m₄,D₄,σ₄,rfl,hlt,dx₅.trans dx₆,W.go st₂ st₀ stay R₂.toRelC dx₅.sub hP' R₆.toRelC (dx₅.trans dx₆).sub h.1 λb o hb e=>R₅.ge ((z1K hb).trans e) (W.nf st₂ hb e),R₆,off₆,h.1,h.2⟩
  cases f<;>cases fl<;>first|exact hfl.elim|skip
  ·exact cont q
  ·exact⟨.next,m₄,D₄,σ₄,dxa.trans dx₆,trivial,R₆,q⟩
  ·exact cont q
  ·exact⟨.ret _,m₄,D₄,σ₄,dxa.trans dx₆,hfl,R₆,q⟩
 ·have hie:i=xs.length:=Nat.le_antisymm hi (BC.mp hlt)
  subst hie
  rw[List.drop_length] at hL'
  refine By (W.done s' _ st' λh' tk kept=> ?_) (λ_ _ e=>e) λ_ _ e=>e.elim
  exact wpAny_execs_nil ⟨.next,m',D',σ',dx₁.trans dx',trivial,R'.keepBut tk off' kept,h0 _ _ _ hL'⟩
theorem z4q{tgt iter:Expr}{body:List Stmt}{p:Pos}{Q:FP}(h:AI C η ν gl own d iter tgt m σ λxs P σ₁=>z6n C η ν gl own d tgt body P Q xs m σ₁)
  (hs:autoParam (∀x,foldedSetIterable iter η x=pure x) auF):AS C η ν gl own d (exec (.For tgt iter body [] p) η) m σ Q:=λA G D s hA R=>
 y20 (λP=>z6n C η ν gl own d tgt body P Q) (λ_ _=>True) (λ_ _ _ _=>False) hA R h hs (λ_ _ _ q=>q) (λ_ _ _ _ _ q=>AA.mono q λ_ _ q G D s _ R=>q A G D s hA R) λ_ _ _=>⟨trivial,λ_ _ _ q=>q.elim⟩
end
noncomputable def E1:List String:=["enumerate","zip","dict_itemiterator","dict_reverseitemiterator","odict_iterator","itertools.zip_longest","itertools.pairwise"]
theorem z5h{M:Model}{A:Around}{E:Value->Shared->Prop}{s:Shared}{tgt:Expr}{I:Addr}{v:Value}{o:Obj}{n:String}{Q:Unit->Shared->Prop}
  (ho:s.heap.get? I=some o) (hc:o.cls= .type n) (hn:E1.contains n=false) (h:Q () s):wpAny M A (letOwnedTupleGo tgt (.ref I) v) Q E s:=by
 unfold letOwnedTupleGo
 have key:wpAny M A (match v with
   | .ref a=>(do
    let o <-load I
    match o.cls,o.data with
    | .type n,.fields vs=>
     if(E1.contains n&&vs[0]? ==some (rawInt a))=true then do
      rule "for.unpacks-the-owned-tuple"
      updateField I 0 .none
     else pure ()
    |_,_=>pure ():Sem Unit)
   |_=>pure ()) Q E s:=by
  cases v with
  |ref a=>
   refine Bx (wpAny_load ho ?_)
   rw[hc]
   cases o.data<;>dsimp only<;>first|exact wpAny_pure h|(rw[hn];exact wpAny_pure h)
  |_=>exact wpAny_pure h
 cases tgt<;>first|exact wpAny_pure h|(cases v<;>first|exact wpAny_pure h|exact key)
section
variable {C:Cx} {η:Env} {ν:List Str} {gl:LV} {own:Bool} {d:Nat} {m m':Loc} {σ σ':Sto}
variable {A:Around} {G D D₀ D₁:Gh} {s:Shared} {Q:List V->(Sto->Prop)->Sto->Prop}
theorem IW.ofWalks{tgt:Expr}{I:Addr}{fp wr:List Addr}{n:Nat}{Pw:Nat->Value->Prop}{St:Nat->Heap->Prop}{xs:List V}(W:Walks C.prog C.w A I fp wr n Pw St)(hn:n=xs.length)
  (hx:∀(i:Nat) v X,Pw i v->xs[i]? =some X->VR C.w D v X) (hl:∀i h,St i h->∀a∈wr,∃o,h.get? a=some o/\¬frk o)
  (hold:∀b∈fp,b∉wr->∀h:Heap,St 0 h->h.get? b=none->False)
  (hc:∀i h,St i h->∃o n,h.get? I=some o/\o.cls= .type n/\E1.contains n=false):IW C A tgt I fp wr D xs St where
 live:=hl
 sub:=W.sub
 old:=hold
 frame:=W.frame
 item:=λi X s K hX st h=>W.item i s K _ (by rw[hn];exact(An.mp hX).1) st λv h' tk hP st' hk=>h v _ λQ' q=>by
  obtain⟨o,nm,ho,hcl,hno⟩:=hc _ _ st'
  exact z5h ho hcl hno (q h' tk (.inl (hx i v X hP hX)) st' hk)
 self:=λi s K st h=>W.self i s K _ st h
 done:=λs K st h=>W.done s K _ (by rw[hn];exact st) λh' tk hk=>h h' tk hk
inductive A8(σ:Sto):V->AO->(Sto->Prop)->Prop
 |lst (xs:List V):A8 σ (.lst xs) (.list xs) (λ_=>True)
 |dct (es:List (V×V)):A8 σ (.dct es) (.dict es) (λ_=>True)
 |refL {a:Addr} {o:Obj} {xs:List V}:(a,o,AO.list xs)∈σ->A8 σ (.ref a) (.list xs) (λσ'=>(a,o,AO.list xs)∈σ')
 |refD {a:Addr} {o:Obj} {es:List (V×V)}:(a,o,AO.dict es)∈σ->A8 σ (.ref a) (.dict es) (λσ'=>(a,o,AO.dict es)∈σ')
theorem A8.run{x:V}{ao:AO}{P:Sto->Prop}(h:A8 σ x ao P)(R:RelC C G D σ s){v:Value}(hv:VR C.w D v x):
  ∃a o,v= .ref a/\s.heap.get? a=some o/\HR C.w D o ao/\P σ/\∀G' D' σ' (s':Shared),RelC C G' D' σ' s'->Sub D D'->P σ'->s'.heap.get? a=some o:=by
 cases h with
 |lst xs=>obtain⟨_,_,_,rfl,e,r⟩:=VR.lstI hv;exact⟨_,_,rfl,R.d _ _ e,⟨_,_,rfl,by simpa using r⟩,trivial,λG' D' σ' s' R' hs _=>R'.d _ _ (hs _ _ e)⟩
 |dct xs=>obtain⟨_,_,_,rfl,e,r⟩:=VR.dctI hv;exact⟨_,_,rfl,R.d _ _ e,⟨_,_,rfl,by simpa using r⟩,trivial,λG' D' σ' s' R' hs _=>R'.d _ _ (hs _ _ e)⟩
 |refL hm=>apply VR.refE hv;exact⟨_,_,rfl,R.pl _ hm,R.sto _ hm,hm,λG' D' σ' s' R' hs hm'=>R'.pl _ hm'⟩
 |refD hm=>apply VR.refE hv;exact⟨_,_,rfl,R.pl _ hm,R.sto _ hm,hm,λG' D' σ' s' R' hs hm'=>R'.pl _ hm'⟩
theorem A8.isList{x:V}{xs:List V}{P:Sto->Prop}(h:A8 σ x (.list xs) P)(R:RelC C G D σ s){v:Value}(hv:VR C.w D v x):
  ∃a vs n,v= .ref a/\s.heap.get? a=some (z0q vs n)/\A6 C.w D vs.toList xs:=by
 obtain⟨a,o,rfl,ho,⟨vs,n,rfl,hr⟩,_⟩:=h.run R hv
 exact⟨a,vs,n,rfl,ho,hr⟩
theorem A8.runLE{x:V}{xs:List V}{P:Sto->Prop}{Z:Value->Prop}(h:A8 σ x (.list xs) P)(R:RelC C G D σ s){v:Value}(hv:VR C.w D v x)
  (k:∀a vs n,s.heap.get? a=some (z0q vs n)->A6 C.w D vs.toList xs->P σ->(∀G' D' σ' (s':Shared),RelC C G' D' σ' s'->Sub D D'->P σ'->s'.heap.get? a=some (z0q vs n))->Z (.ref a)):Z v:=by
 obtain⟨a,o,rfl,ho,⟨vs,n,rfl,hr⟩,hP,hst⟩:=h.run R hv
 exact k a vs n ho hr hP hst
theorem A8.isListE{x:V}{xs:List V}{P:Sto->Prop}{Z:Value->Prop}(h:A8 σ x (.list xs) P)(R:RelC C G D σ s){v:Value}(hv:VR C.w D v x)(k:∀a vs n,s.heap.get? a=some (z0q vs n)->A6 C.w D vs.toList xs->Z (.ref a)):Z v:=by
 obtain⟨a,vs,n,rfl,ho,hr⟩:=h.isList R hv
 exact k a vs n ho hr
theorem A8.isDictE{x:V}{xs:List (V×V)}{P:Sto->Prop}{Z:Value->Prop}(h:A8 σ x (.dict xs) P)(R:RelC C G D σ s){v:Value}(hv:VR C.w D v x)(k:∀a vs n,s.heap.get? a=some (z1G vs n)->Z (.ref a)):Z v:=by
 obtain⟨a,o,rfl,ho,⟨vs,n,rfl,hr⟩,_⟩:=h.run R hv
 exact k a vs n ho
theorem A3.offNew(R:A3 C η ν gl own G D m σ s)(o:Obj):Off η ν G D σ [s.heap.objs.size]:=λa ha=>by
 simp at ha;subst ha
 refine⟨?_,R.toRelC.new_D,R.toRelC.new_notFoot,λhm=> ?_⟩
 ·exact R.toRelC.new_G
 ·obtain⟨o,e⟩:=R.mineLives hm;exact Nat.lt_irrefl _ (Heap.lt_size e)
theorem A3.push(R:A3 C η ν gl own G D m σ s)(o:Obj):A3 C η ν gl own G D m σ {s with heap:=s.heap.push o}:=R.back (R.lifted.push o) (DX.refl _ _)
theorem IW.two{tgt:Expr}{I ax:Addr}{n:Nat}{Pw:Nat->Value->Prop}{St:Nat->Heap->Prop}{xs:List V}(W:Walks C.prog C.w A I [I,ax] [I] n Pw St)(hn:n=xs.length)(hx:∀(i:Nat) v X,Pw i v->xs[i]? =some X->VR C.w D v X)
  (hI:∀i h,St i h->∃o n,h.get? I=some o/\o.cls= .type n/\(E1.contains n||n=="#frame")=false) (ha:∀h:Heap,St 0 h->∃o,h.get? ax=some o):IW C A tgt I [I,ax] [I] D xs St:=
 IW.ofWalks W hn hx (λi h st a ha=>by rw[Af.mp ha];obtain⟨o,n,ho,hc,hn⟩:=hI i h st;exact⟨o,ho,nfC (hc▸frN (Bool.or_eq_false_iff.mp hn).2)⟩) (λb hb hbw h st e=>by
  rcases Ae.mp hb with rfl|hb
  ·exact hbw (.head _)
  ·rw[Af.mp hb] at e;obtain⟨o,ho⟩:=ha h st;rw[ho] at e;cases e) λi h st=>by obtain⟨o,n,a,b,c⟩:=hI i h st;exact⟨o,n,a,b,(Bool.or_eq_false_iff.mp c).1⟩
theorem y05{P:Sto->Prop}{ax I:Addr}{o x:Obj}(ho:s.heap.get? ax=some o)(hst:∀G' D' σ' (s':Shared),RelC C G' D' σ' s'->Sub D D'->P σ'->s'.heap.get? ax=some o):
  ∀G' D' σ' (s':Shared),RelC C G' D' σ' s'->Sub D D'->P σ'->∀b∈[I,ax],b∉[I]->∀o',(s.heap.push x).get? b=some o'->s'.heap.get? b=some o':=λG' D' σ' s' R' hs hP b hb hbw o' e=>by
 rcases Ae.mp hb with rfl|hb
 ·exact absurd (.head _) hbw
 ·rw[Af.mp hb] at e⊢
  rw[Heap.get?_push_of_some _ ho] at e;cases e;exact hst G' D' σ' s' R' hs hP
theorem z0W [HM C]{iter tgt:Expr}(h:AT C η ν gl own d (eval iter η) m σ λX σ₁=>∃xs P,A8 σ₁ X (.list xs) P/\Q xs P σ₁):AI C η ν gl own d iter tgt m σ Q:=λA G D s hA R=>
 h.run hA R λv s₁ X D₁ σ₁ a b c hpp=>by
  obtain⟨xs,P,hH,q⟩:=hpp
  apply A8.runLE hH c.toRelC b;intro ax vs n ho hr hP hst
  have hl:s₁.heap.IsList ax vs:=⟨_,ho,rfl,n,rfl⟩
  have hne:ax≠s₁.heap.objs.size:=Bq (Heap.lt_size ho)
  refine wpAny_pyIter_list hl ⟨D₁,σ₁,xs,P,a,⟨s₁.heap.objs.size,_,_,_,rfl,IW.two (Walks.list hA.hh s₁.heap.objs.size ax hne vs) (by rw[<-hr.length];simp) ?_ (λi h st=>by obtain⟨⟨o,ho,hc,_⟩,_⟩:=st;exact⟨o,_,ho,hc,by decide⟩) (λh st=>by obtain⟨_,o,ho,_⟩:=st;exact⟨o,ho⟩),⟨⟨_,Heap.get?_push_size _ rfl,rfl,rfl⟩,hl.push _⟩,c.push _,c.offNew (z0q #[] 0),hP,y05 ho hst⟩,q⟩
  ·intro i u X e hX
   obtain⟨u',e',r⟩:=hr.get hX
   rw[Array.getElem?_toList,e] at e';cases e';exact r
noncomputable def z07(a c:Int)(n:Nat):List V:=(List.range n).map λ(i:Nat)=>V.int (a+(i:Int)*c)
theorem z1p [HM C]{iter tgt:Expr}(h:AT C η ν gl own d (eval iter η) m σ λX σ₁=>∃(a b c:Int) (n:Nat),X= .rng a b c/\Builtin.Range.small a b c=true/\Builtin.Range.rangeSize a b c=(n:Int)/\Q (z07 a c n) (λ_=>True) σ₁):
  AI C η ν gl own d iter tgt m σ Q:=λA G D s hA R=>
 h.run hA R λv s₁ X D₁ σ₁ dx b c hpp=>by
  obtain⟨x,y,z,n,hX,hsm,hsz,q⟩:=hpp
  subst hX
  obtain⟨_,_,_,_,rfl,e⟩:=VR.rngI b
  ·skip
   have ho:=c.d _ _ e
   refine wpAny_pyIter_range ho hsm ⟨D₁,σ₁,_,λ_=>True,dx,⟨s₁.heap.objs.size,_,_,_,rfl,IW.ofWalks (Walks.range hA.hh s₁.heap.objs.size x z n) (by simp[z07]) ?_ ?_ ?_ ?_,?_,c.push _,c.offNew (z0q #[] 0),trivial,?_⟩,q⟩
   ·rintro i u X ⟨t,rfl⟩ hX
    have hlt:i<n:=by simpa[z07] using(An.mp hX).1
    simp[z07,hlt] at hX
    subst hX
    exact .int _ _
   ·rintro i h st a ha;simp at ha;subst ha;exact⟨_,st,nfC (frN (by decide))⟩
   ·rintro b hb hbw h _ e;exact hbw hb
   ·rintro i h st;exact⟨_,_,st,rfl,by decide⟩
   ·show IsRangeIter _ _ _ _ _
    rw[hsz];simpa using Heap.get?_push_size _ rfl
   ·intro G' D' σ' s' R' hs hP' b hb hbw o' e'
    exact absurd hb hbw
end
noncomputable def z20(η:Env):List (Str×NameKind)->LA->LA
 |[],acc=>acc
 |(n,k)::r,acc=>if k== .free then(match η.cells.lookup n with
   |some c=>z20 η r ((n,c)::acc)
   |none=>z20 η r acc) else z20 η r acc
theorem z5D{sc:Scope}{η:Env}(h:∀x∈sc.names,x.2= .free->∃c,η.cells.lookup x.1=some c):closureFor sc η=pure (z20 η sc.names []):=by
 have key:∀(names:List (Str×NameKind)) (acc:LA) (f:Str×NameKind->LA->Sem (ForInStep (LA))),
   (∀n k a,f (n,k) a=if k== .free then(do let c <-cellOf η n;pure (.yield ((n,c)::a))) else pure (.yield a))->(∀x∈names,x.2= .free->∃c,η.cells.lookup x.1=some c)->
   forIn names acc f=pure (z20 η names acc):=by
  intro names
  induction names with
  |nil=>intro acc f _ _;rw[List.forIn_nil];rfl
  |cons p r ih=>
   obtain⟨n,k⟩:=p
   intro acc f hf hx
   rw[List.forIn_cons,hf]
   unfold z20
   cases hk:(k==NameKind.free) with
   |false=>
    simp only[Bool.false_eq_true,if_false,pure_bind]
    exact ih acc f hf λx h=>hx x (.tail _ h)
   |true=>
    obtain⟨c,hc⟩:=hx (n,k) (.head _) (beq_iff_eq.mp hk)
    simp only[if_true,cellOf,hc,pure_bind]
    exact ih _ f hf λx h=>hx x (.tail _ h)
 unfold closureFor
 show(forIn sc.names ([]:LA) _>>=λcs=>pure cs)=_
 rw[key sc.names [] _ (λn k a=>by cases hk:(k==NameKind.free)<;>simp[hk]) h]
 rfl
theorem z3K{η:Env}{n:Str}{c:Addr}:∀{names:List (Str×NameKind)} {acc:LA},(n,c)∈z20 η names acc->(n,c)∈acc∨((n,NameKind.free)∈names/\η.cells.lookup n=some c)
 |[],_,h=> .inl h
 |(y,k)::r,acc,h=>by
  unfold z20 at h
  cases hk:(k==NameKind.free) with
  |false=>
   rw[hk] at h
   simp only[Bool.false_eq_true,if_false] at h
   exact(z3K h).imp id λq=>⟨.tail _ q.1,q.2⟩
  |true=>
   rw[hk] at h
   simp only[if_true] at h
   cases hc:η.cells.lookup y with
   |none=>rw[hc] at h;exact(z3K h).imp id λq=>⟨.tail _ q.1,q.2⟩
   |some c'=>
    rw[hc] at h
    rcases z3K h with q|q
    ·rcases Ae.mp q with e|q
     ·cases e;rw[<-beq_iff_eq.mp hk];exact .inr ⟨.head _,hc⟩
     ·exact .inl q
    ·exact .inr ⟨.tail _ q.1,q.2⟩
theorem z3d{η:Env}:∀{names:List (Str×NameKind)} {acc:LA},(names.map (·.1)).Nodup->(acc.map (·.1)).Nodup->(∀n∈acc.map (·.1),n∉names.map (·.1))->((z20 η names acc).map (·.1)).Nodup
 |[],_,_,h,_=>h
 |(y,k)::r,acc,h1,h2,h3=>by
  have h1':=Au.mp h1
  have h3':∀n∈acc.map (·.1),n∉r.map (·.1):=λn hn q=>h3 n hn (.tail _ q)
  have hy:y∉acc.map (·.1):=λq=>h3 y q (.head _)
  unfold z20
  split
  ·split
   ·refine z3d h1'.2 (Au.mpr ⟨hy,h2⟩) λn hn=> ?_
    rcases Ae.mp hn with rfl|hn
    ·exact h1'.1
    ·exact h3' n hn
   ·exact z3d h1'.2 h2 h3'
  ·exact z3d h1'.2 h2 h3'
theorem z4H{l:LA}(hn:(l.map (·.1)).Nodup){n:Str}{c:Addr}(h:(n,c)∈l):l.lookup n=some c:=by
 induction l with
 |nil=>cases h
 |cons p r ih=>
  obtain⟨y,b⟩:=p
  have hn':=Au.mp hn
  rcases Ae.mp h with e|h
  ·cases e;simp[List.lookup_cons]
  ·have hne:n≠y:=λe=>hn'.1 (e▸Ah.mpr ⟨(n,c),h,rfl⟩)
   rw[List.lookup_cons]
   have hb:(n==y)=false:=beq_eq_false_iff_ne.mpr hne
   rw[hb];exact ih hn'.2 h
theorem z3J{η:Env}{n:Str}{c:Addr}:∀{names:List (Str×NameKind)} {acc:LA},((n,NameKind.free)∈names/\η.cells.lookup n=some c)∨(n,c)∈acc->(n,c)∈z20 η names acc
 |[],_,h=>h.elim (λq=>by cases q.1) id
 |(y,k)::r,acc,h=>by
  unfold z20
  cases hk:(k==NameKind.free) with
  |false=>
   simp only[Bool.false_eq_true,if_false]
   refine z3J (h.imp (λq=>⟨?_,q.2⟩) id)
   rcases Ae.mp q.1 with e|e
   ·cases e;exact absurd hk (by decide)
   ·exact e
  |true=>
   simp only[if_true]
   cases hc:η.cells.lookup y with
   |none=>
    refine z3J (h.imp (λq=>⟨?_,q.2⟩) id)
    rcases Ae.mp q.1 with e|e
    ·cases e;rw[hc] at q;cases q.2
    ·exact e
   |some c'=>
    refine z3J ?_
    rcases h with q|q
    ·rcases Ae.mp q.1 with e|e
     ·cases e;have q2:=q.2;rw[hc] at q2;cases q2;exact .inr (.head _)
     ·exact .inl ⟨e,q.2⟩
    ·exact .inr (.tail _ q)
theorem z25{η:Env}(hf:η.scope.kind= .function):∀{names:List (Str×NameKind)} {x:Str} {k:NameKind},names.lookup x=some k->
  (names.map λ(n,k)=>if(k==NameKind.free&&η.scope.kind== .function&&η.kindOf n==some .cell) then(n,NameKind.cell) else(n,k)).lookup x=some (if k== .free&&η.kindOf x==some .cell then .cell else k)
 |[],_,_,h=>by simp at h
 |(n,k')::r,x,k,h=>by
  rw[List.lookup_cons] at h
  show List.lookup x ((if(k'==NameKind.free&&η.scope.kind== .function&&η.kindOf n==some .cell)=true then(n,NameKind.cell) else(n,k'))::_)=_
  cases hx:x==n with
  |true=>
   rw[hx] at h;cases h
   have e:=beq_iff_eq.mp hx;subst e
   rw[hf]
   by_cases hc:(k'==NameKind.free&&η.kindOf x==some .cell)=true
   ·have hc':(k'==NameKind.free&&(ScopeKind.function==ScopeKind.function)&&η.kindOf x==some .cell)=true:=by simpa using hc
    rw[if_pos hc',if_pos hc];simp
   ·have hc':¬(k'==NameKind.free&&(ScopeKind.function==ScopeKind.function)&&η.kindOf x==some .cell)=true:=by simpa using hc
    rw[if_neg hc',if_neg hc];simp
  |false=>
   rw[hx] at h
   have ih:=z25 hf h
   by_cases hc:(k'==NameKind.free&&η.scope.kind== .function&&η.kindOf n==some .cell)=true
   ·rw[if_pos hc,List.lookup_cons]
    show(match x==n with|true=>_|false=>_)=_
    rw[hx];exact ih
   ·rw[if_neg hc,List.lookup_cons]
    show(match x==n with|true=>_|false=>_)=_
    rw[hx];exact ih
noncomputable def z1x(sc osc:Scope)(ν locals caps gl:List Str):Bool:=
 sc.kind== .function&&nodupB (sc.names.map (·.1))&&nodupB (locals++caps)&&
 sc.names.all (λp=> !(p.2== .cell)&&(!(p.2== .free)||caps.contains p.1))&&
 locals.all (λx=> !(x==("__debug__":Str))&&sc.names.lookup x==some .local)&&
 caps.all (λx=> !(x==("__debug__":Str))&&sc.names.lookup x==some .free&&osc.names.lookup x==some .cell&&ν.contains x)&&
 gl.all λx=> !(x==("__debug__":Str))&&sc.names.lookup x==some .globalImplicit
class inductive D7:List Str->Loc->List Str->Loc->Prop
 |nil {ν:List Str} {m:Loc}:D7 ν m [] []
 |cons {ν:List Str} {m:Loc} {x:Str} {X:V} {cs:List Str} {ms:Loc}:Lk ν m x X->D7 ν m cs ms->D7 ν m (x::cs) (some X::ms)
 |skip {ν:List Str} {m:Loc} {x:Str} {cs:List Str} {ms:Loc}:D7 ν m cs ms->D7 ν m (x::cs) (none::ms)
theorem D7.get{ν:List Str}{m:Loc}{cs:List Str}{ms:Loc}(h:D7 ν m cs ms):∀{i:Nat} {x:Str} {X:V},cs[i]? =some x->ms[i]? =some (some X)->Lk ν m x X:=by
 induction h with
 |nil=>intro i x X h;simp at h
 |cons hl _ ih=>
  intro i x X h1 h2
  cases i with
  |zero=>simp at h1 h2;subst h1 h2;exact hl
  |succ i=>exact ih (by simpa using h1) (by simpa using h2)
 |skip _ ih=>
  intro i x X h1 h2
  cases i with
  |zero=>simp at h2
  |succ i=>exact ih (by simpa using h1) (by simpa using h2)
section
variable {C:Cx} {η:Env} {ν:List Str} {gl gl':LV} {own:Bool} {d:Nat} {m m':Loc} {σ σ':Sto}
variable {A:Around} {G D D₀ D₁:Gh} {s:Shared}
noncomputable def ATs(C:Cx)(η:Env)(ν:List Str)(gl:LV)(own:Bool)(d:Nat):List Expr->Loc->Sto->(Bool->Sto->Prop)->Prop
 |[],m,σ,K=>K true σ
 |[c],m,σ,K=>AB C η ν gl own d (isTrue c η (eval c η)) m σ K
 |_,_,_,_=>False
noncomputable def z0P(C:Cx)(η:Env)(ν:List Str)(gl:LV)(d:Nat)(tgt elt:Expr)(ifs:List Expr)(P:Sto->Prop)(Q:List V->Sto->Prop):List V->List V->Loc->Sto->Prop
 |[],acc,m,σ=>Q acc σ
 |X::xs,acc,m,σ=>AA C η ν gl false d (assign tgt η) X m σ λm₁ σ₁=>ATs C η ν gl false d ifs m₁ σ₁ λb σ₂=>
  (b=true->AT C η ν gl false d (eval elt η) m₁ σ₂ λY σ₃=>P σ₃/\z0P C η ν gl d tgt elt ifs P Q xs (acc++[Y]) m₁ σ₃)/\
  (b=false->P σ₂/\z0P C η ν gl d tgt elt ifs P Q xs acc m₁ σ₂)
theorem ATs.run{ifs:List Expr}{K:Bool->Sto->Prop}(h:ATs C η ν gl own d ifs m σ K)(hA:C9 C A d)(R:A3 C η ν gl own G D m σ s):
  wpAny C.M A (forIn ifs true λc r=>if r=true then do let ok <-isTrue c η (eval c η);pure (ForInStep.yield ok) else pure (ForInStep.yield r)) (F6 C η ν gl own G D m K) (λ_ _=>False) s:=by
 match ifs,h with
 |[],h=>exact wpAny_tests_nil ⟨D,σ,DX.refl _ _,R,h⟩
 |[c],h=>exact wpAny_tests_one (h A G D s hA R)
 |_::_::_,h=>exact h.elim
inductive CompI(C:Cx)(η:Env)(ν:List Str)(gl:LV)(d:Nat)(tgt elt:Expr)(ifs:List Expr)(P:Sto->Prop)(Q:List V->Sto->Prop)(G D:Gh)(St:Nat->Heap->Prop)(acc:Addr)(wr:List Addr)(xs:List V)(k:Nat)(s':Shared):Prop
 |mk (i:Nat) (m':Loc) (D':Gh) (σ':Sto) (ys:List V) (vs:Array Value) (n:Nat):k=xs.length+1-i->i<=xs.length->ys.length<=i->DX G D D'->St i s'.heap->A3 C η ν gl false G D' m' σ' s'->Off η ν G D' σ' (acc::wr)->P σ'->
  s'.heap.get? acc=some (z0q vs n)->A6 C.w D' vs.toList ys->z0P C η ν gl d tgt elt ifs P Q (xs.drop i) ys m' σ'->CompI C η ν gl d tgt elt ifs P Q G D St acc wr xs k s'
theorem z9x{elt tgt iter:Expr}{ifs:List Expr}{scope:Scope}{pos:Pos}{I acc:Addr}{fp wr:List Addr}{xs:List V}{St:Nat->Heap->Prop}{P:Sto->Prop}{Q:List V->Sto->Prop}
  {R':Result->Shared->Prop} (W:IW C A tgt I fp wr D₀ xs St) (hA:C9 C A d) (hsz:xs.length<=sizeLine) (hst:St 0 s.heap) (R:A3 C η ν gl false G D m σ s) (hD:Sub D₀ D)
  (hoff:Off η ν G D σ (acc::wr)) (haw:acc∉wr) (haf:acc∉fp) (hacc:s.heap.get? acc=some (z0q #[] 0)) (hP:P σ) (hstay:y0y C D₀ P s.heap fp wr)
  (hL:z0P C η ν gl d tgt elt ifs P Q xs [] m σ)
  (hQ:∀s' D' σ' m' vs n ys,DX G D D'->A3 C η ν gl false G D' m' σ' s'->Off η ν G D' σ' [acc]->s'.heap.get? acc=some (z0q vs n)->A6 C.w D' vs.toList ys->Q ys σ'->R' (.ok .next) s'):
  codeAny C.M A (.compLoop (.ListComp elt [⟨tgt,iter,ifs,0⟩] scope pos) 0 (.ref I) (.ref acc) η) R' s:=by
 refine codeAny_loop rfl (CompI C η ν gl d tgt elt ifs P Q G D St acc wr xs) ?_ (xs.length+1-0)
  ⟨0,m,D,σ,[],#[],0,rfl,Nat.zero_le _,Nat.zero_le _,DX.refl _ _,hst,R,hoff,hP,hacc,.nil,hL⟩
 rintro k s' ⟨i,m',D',σ',ys,vs,n,rfl,hi,hys,dx',st',R₁,off',hP',hac',hvs',hL'⟩
 show wpAny _ A ((compTurn (.ListComp elt [⟨tgt,iter,ifs,0⟩] scope pos) 0 (.ref I) (.ref acc) η).onRaise (λx=>do noteFrame x η;theTreesLotGoes x)) _ _ s'
 refine wpAny_noted ?_
 rw[compTurn_list]
 refine Bx (wpAny_standAt (Bx ?_))
 have offw:Off η ν G D' σ' wr:=λa ha=>off' a (.tail _ ha)
 by_cases hlt:i<xs.length
 ·have hX:xs[i]? =some xs[i]:=Ar hlt
  rw[List.drop_eq_getElem_cons hlt] at hL'
  refine By (W.item i _ s' _ hX st' λv s₁ hgo=> ?_) (λ_ _ e=>e) λ_ _ e=>e.elim
  refine Bx (By (hgo _ λh' tk hitem st₂ kept=> ?_) (λ_ _ e=>e) λ_ _ e=>e.elim)
  obtain⟨D₂,dx₂,R₂,hv,offS⟩:=z86 (t:=tk) R₁ (hD.trans dx'.sub) offw kept hitem
  have hac₂:h'.get? acc=some (z0q vs n):=kept acc _ haw hac'
  have offa:Off η ν G D₂ σ' (acc::wr):=offS _ (λa ha=>by
   rcases Ae.mp ha with rfl|ha
   ·exact⟨_,hac'⟩
   ·exact W.lives st' a ha) off'
  have R₃:=R₂.withW offa
  have live₂:∀a∈acc::wr,∃o,h'.get? a=some o:=λa ha=>by
   rcases Ae.mp ha with rfl|ha
   ·exact⟨_,hac₂⟩
   ·exact W.lives st₂ a ha
  have stOk:∀{G₅ D₅ σ₅ m₅} {s₅:Shared},A3 C η ν gl false (z2w G (acc::wr) h') D₅ m₅ σ₅ s₅->Sub D₀ D₅->P σ₅->RelC C G₅ D₅ σ₅ s₅->St (i+1) s₅.heap:=λR₅ hs₅ hP₅ RC₅=>W.go st₂ hst hstay R₂.toRelC ((hD.trans dx'.sub).trans dx₂.sub) hP' RC₅ hs₅ hP₅ λb o hb e=>R₅.ge ((z1K (.tail _ hb)).trans e) (W.nf st₂ hb e)
  refine Bx (By (hL' A _ D₂ _ v hA R₃ hv) (λ_ s₃ q₃=> ?_) λ_ _ e=>e.elim)
  obtain⟨m₃,D₃,σ₃,dx₃,R₄,htests⟩:=q₃
  refine Bx (By (htests.run hA R₄) (λok s₄ q₄=> ?_) λ_ _ e=>e.elim)
  obtain⟨D₄,σ₄,dx₄,R₅,q₅⟩:=q₄
  cases ok with
  |false=>
   obtain⟨hP₅,hL₅⟩:=q₅.2 rfl
   obtain⟨R₆,dx₆,off₆⟩:=R₅.lessW offa R.base (dx₃.trans dx₄) live₂
   have hac₅:s₄.heap.get? acc=some (z0q vs n):=R₅.ge ((z1K (.head _)).trans hac₂) (nfC (frN (by decide)))
   have hsub:Sub D' D₄:=(dx₂.trans dx₆).sub
   exact wpAny_pure ⟨rfl,xs.length+1-(i+1),Nat.sub_lt_sub_left (Nat.lt_succ_of_lt hlt) (Nat.lt_succ_self i),i+1,m₃,D₄,σ₄,ys,vs,n,rfl,hlt,Nat.le_succ_of_le hys,(dx'.trans dx₂).trans dx₆,stOk R₅ ((hD.trans dx'.sub).trans hsub) hP₅ R₆.toRelC,R₆,off₆,hP₅,hac₅,hvs'.mono hsub,hL₅⟩
  |true=>
   refine Bx (Bx ((q₅.1 rfl).run hA R₅ λy s₅ Y D₅ σ₅ dx₅ hy R₆ q₆=> ?_) |> λh=>By h (λ_ _ e=>e) λ_ _ e=>e.elim)
   obtain⟨hP₆,hL₆⟩:=q₆
   obtain⟨R₇,dx₇,off₇⟩:=R₆.lessW offa R.base ((dx₃.trans dx₄).trans dx₅) live₂
   have hac₅:s₅.heap.get? acc=some (z0q vs n):=R₆.ge ((z1K (.head _)).trans hac₂) (nfC (frN (by decide)))
   have hsub:Sub D' D₅:=(dx₂.trans dx₇).sub
   have hvs₅:=hvs'.mono hsub
   have hvl:vs.size=ys.length:=by rw[<-hvs₅.length];simp
   refine Bx (wpAny_list_append_plain (hsz:=Ac (Bp hvl) (Ac hys (Ac hi hsz))) ⟨n,hac₅⟩ λh₆ hl₆ hs₆=> ?_)
   obtain⟨n₆,hl₆⟩:=hl₆
   have R₈:A3 C η ν gl false G D₅ m₃ σ₅ {s₅ with heap:=h₆}:=by
    have:=R₇.keepBut (h':=h₆) s₅.toks (wr:=[acc]) (λa ha=>by simp at ha;subst ha;exact off₇ a (.head _)) λb o hb e=>hs₆.extBut b o (by simpa using hb) e
    exact this
   have st₇:=stOk (s₅:=s₅) R₆ ((hD.trans dx'.sub).trans hsub) hP₆ R₇.toRelC
   refine wpAny_pure (wpAny_pure ⟨rfl,xs.length+1-(i+1),Nat.sub_lt_sub_left (Nat.lt_succ_of_lt hlt) (Nat.lt_succ_self i),i+1,m₃,D₅,σ₅,ys++[Y],vs.push y,n₆,rfl,hlt,by rw[Ag];exact Bh hys,(dx'.trans dx₂).trans dx₇,?_,R₈,off₇,hP₆,hl₆,?_,hL₆⟩)
   ·refine W.frame _ _ _ st₇ λb hb o e=>hs₆.extBut b o ?_ e
    rintro rfl
    exact haf hb
   ·rw[Array.toList_push]
    exact hvs₅.append (.cons hy .nil)
 ·have hie:i=xs.length:=Nat.le_antisymm hi (BC.mp hlt)
  subst hie
  rw[List.drop_length] at hL'
  refine By (W.done s' _ st' λh' tk kept=> ?_) (λ_ _ e=>e) λ_ _ e=>e.elim
  refine wpAny_pure (hQ _ D' σ' m' vs n ys dx' (R₁.keepBut tk offw kept) (λa ha=>off' a (by simp at ha;subst ha;exact .head _)) (kept acc _ haw hac') hvs' hL')
theorem RelC.addL(R:RelC C G D σ s){a:Addr}{vs:Array Value}{n:Nat}{ys:List V}(h1:G a=none)(h2:D a=none)(h3:a∉A5 σ)(ho:s.heap.get? a=some (z0q vs n))(hr:A6 C.w D vs.toList ys):
  RelC C G D ((a,z0q vs n,.list ys)::σ) s where
 same:=R.same
 bs:=R.bs
 g:=R.g
 d:=R.d
 base:=R.base
 nd:=Au.mpr ⟨h3,R.nd⟩
 offG:=λb hb=>by
  rcases Ae.mp hb with rfl|hb
  ·exact h1
  ·exact R.offG b hb
 offD:=λb hb=>by
  rcases Ae.mp hb with rfl|hb
  ·exact h2
  ·exact R.offD b hb
 pl:=λp hp=>by
  rcases Ae.mp hp with rfl|hp
  ·exact ho
  ·exact R.pl p hp
 sto:=λp hp=>by
  rcases Ae.mp hp with rfl|hp
  ·exact⟨vs,n,rfl,hr⟩
  ·exact R.sto p hp
inductive CompN(C:Cx)(η:Env)(ν:List Str)(gl':LV)(scope:Scope)(locals caps:List Str):Prop
 |mk:scope.kind= .function->(∀x∈scope.names,x.2≠ .cell)->closureFor scope η=pure (z20 η scope.names [])->(∀x∈scope.names,x.2= .local->scope.names.lookup x.1=some .local)->
  (∀E:Env,E.scope=relabel scope η->E.cells=z20 η scope.names []->E.globals=η.globals->E.builtins=η.builtins->(∀y k,scope.names.lookup y=some k->E.kindOf y=some (if k== .free&&η.kindOf y==some .cell then .cell else k))->
   H0 C E (locals++caps) gl' false/\(∀x∈locals,E.kindOf x=some .local)/\(∀x∈caps,E.kindOf x=some .cell)/\∀x∈caps,∀c,E.cells.lookup x=some c->∃i:Nat,ν[i]? =some x/\η.kindOf x=some .cell/\η.cells.lookup x=some c)->CompN C η ν gl' scope locals caps
theorem z5X{α:Type}{x:Str×α}:∀{l:List (Str×α)},(l.map (·.1)).Nodup->x∈l->l.lookup x.1=some x.2
 |p::r,hn,hm=>by
  have hn':=Au.mp hn
  rcases Ae.mp hm with rfl|hm'
  ·rw[List.lookup_cons,BD]
  ·rw[List.lookup_cons,beq_eq_false_iff_ne.mpr λq=>hn'.1 (Ah.mpr ⟨x,hm',q⟩)];exact z5X hn'.2 hm'
theorem z8c{scope:Scope}{locals caps:List Str}(ok:H0 C η ν gl own)(hok:z1x scope η.scope ν locals caps (gl'.map (·.1))=true)(hgl:∀p∈gl',z04 C p.1 p.2):CompN C η ν gl' scope locals caps:=by
 simp only[z1x,AC,Bool.not_eq_true',beq_iff_eq,AV] at hok
 obtain⟨⟨⟨⟨⟨⟨k1,k2⟩,k3⟩,k4⟩,k5⟩,k6⟩,k7⟩:=hok
 have ndN:(scope.names.map (·.1)).Nodup:=F3 k2
 have hloc:∀x∈locals,(x==("__debug__":Str))=false/\scope.names.lookup x=some .local:=λx hx=>by
  have:=AK.mp k5 x hx
  simpa only[AC,Bool.not_eq_true',beq_iff_eq] using this
 have hcap:∀x∈caps,((x==("__debug__":Str))=false/\scope.names.lookup x=some .free)/\η.kindOf x=some .cell/\∃i c,ν[i]? =some x/\η.cells.lookup x=some c:=λx hx=>by
  have:=AK.mp k6 x hx
  simp only[AC,Bool.not_eq_true',beq_iff_eq,List.contains_iff_mem] at this
  have h3:η.kindOf x=some .cell:=this.1.2
  obtain⟨i,hi⟩:=List.mem_iff_getElem?.mp this.2
  rcases(ok.vk x this.2).2 with e|⟨_,c,hc⟩
  ·exact nomatch h3.symm.trans e
  ·exact⟨this.1.1,h3,i,c,hi,hc⟩
 have clNd:((z20 η scope.names []).map (·.1)).Nodup:=z3d ndN .nil (λn hn=>by cases hn)
 have clM:∀x c,(x,c)∈z20 η scope.names []->η.cells.lookup x=some c:=λx c e=>((z3K e).resolve_left λq=>nomatch q).2
 refine⟨k1,λx hx e=> ?_,z5D λx hx e=> ?_,λx hx e=>by rw[z5X ndN hx,e],λE eS eC eG eB eK=> ?_⟩
 ·have:=AK.mp k4 x hx
  simp[e] at this
 ·have:=AK.mp k4 x hx
  obtain⟨_,_,_,c,_,hc⟩:=hcap x.1 (by simpa[e] using this)
  exact⟨c,hc⟩
 have nl:∀x∈locals,E.kindOf x=some .local:=λx hx=>by rw[eK x _ (hloc x hx).2];rfl
 have nc:∀x∈caps,E.kindOf x=some .cell:=λx hx=>by rw[eK x _ (hcap x hx).1.2,(hcap x hx).2.1];rfl
 refine⟨⟨eS▸k1,F3 k3,λx hx=> ?_,?_,λp hp=> ?_,eG.trans ok.gg,eB.trans ok.gb⟩,nl,nc,λx hx c hc=> ?_⟩
 ·rcases Ad.mp hx with hx|hx
  ·exact⟨(hloc x hx).1,.inl (nl x hx)⟩
  ·obtain⟨h1,_,_,c,_,hc⟩:=hcap x hx
   exact⟨h1.1,.inr ⟨nc x hx,c,by rw[eC];exact z4H clNd (z3J (.inl ⟨mem_of_lookup h1.2,hc⟩))⟩⟩
 ·rw[eC]
  exact(List.pairwise_map.mp clNd).imp_of_mem λ{x y} hx hy hne e=>hne (name_of_addr ok.ap (mem_of_lookup (clM _ _ hx)) (e▸mem_of_lookup (clM _ _ hy)))
 ·have:=AK.mp k7 p.1 (List.mem_map_of_mem hp)
  simp only[AC,Bool.not_eq_true',beq_iff_eq] at this
  exact⟨this.1,by rw[eK _ _ this.2];rfl,hgl p hp⟩
 ·obtain⟨_,h2,i,_,hi,_⟩:=hcap x hx
  exact⟨i,hi,h2,clM x c (mem_of_lookup (eC▸hc))⟩
section
variable {E:Env} {locals caps:List Str} {ms:Loc} {s₂ s':Shared}
theorem y0G(hcaps:D7 ν m caps ms){i:Nat}{x:Str}{X:V}(e1:(locals++caps)[i]? =some x)(e3:((locals.map λ_=>(none:Option V))++ms)[i]? =some (some X)):x∈caps/\Lk ν m x X:=by
 rw[List.getElem?_append] at e1 e3
 rw[Ab] at e3
 by_cases hi:i<locals.length
 ·rw[if_pos hi,Al] at e3
  exact nomatch (Bw.mp e3).choose_spec.2
 ·rw[if_neg hi] at e1 e3
  exact⟨Ak e1,hcaps.get e1 e3⟩
theorem y3d(nl:∀x∈locals,E.kindOf x=some .local){i:Nat}{x:Str}(e1:(locals++caps)[i]? =some x)(e2:E.kindOf x=some .cell):x∈caps:=
 (Ad.mp (Ak e1)).resolve_left λh=>nomatch (nl x h).symm.trans e2
theorem A3.dead(R:A3 C η ν gl own G D m σ s₂){b:Addr}(h:s₂.heap.get? b=none):z2g η ν G s₂ b=none/\D b=none/\b∉A5 σ/\¬z2y η ν b:=
 have no:∀{x:Option Obj},(∀o,x=some o->s₂.heap.get? b=some o)->x=none:=λ{x} k=>Option.eq_none_iff_forall_not_mem.mpr λo e=>nomatch h.symm.trans (k o e)
 ⟨R.lifted.noG (λo e=>(nomatch h.symm.trans e)),no (R.d b),λhf=>by obtain⟨o,e⟩:=R.toRelC.footLives hf;exact(nomatch h.symm.trans e),λhm=>by obtain⟨o,e⟩:=R.mineLives hm;exact nomatch h.symm.trans e⟩
theorem y0M{mm:Str->Option Value}(R:A3 C η ν gl own G D m σ s₂)(ok:H0 C E (locals++caps) gl' false)(hcaps:D7 ν m caps ms)(nl:∀x∈locals,E.kindOf x=some .local)(nc:∀x∈caps,E.kindOf x=some .cell)(ce:∀x∈caps,∀c,E.cells.lookup x=some c->∃i:Nat,ν[i]? =some x/\η.kindOf x=some .cell/\η.cells.lookup x=some c)
  (same:∃h tk,s'={C.s₀ with heap:=h,toks:=tk}) (kp:∀b o,s₂.heap.get? b=some o->s'.heap.get? b=some o) (dead:s₂.heap.get? E.locals=none) (hns:s'.heap.Ns E.locals mm):A3 C E (locals++caps) gl' false (z2g η ν G s₂) D ((locals.map λ_=>none)++ms) σ s' where
 toRelC:=⟨same,λb o e=>kp b o (R.bs b o e),λb o e=>R.lifted.g' e λ_=>kp b _,λb o e=>kp b o (R.d b o e),R.lifted.base,R.nd,R.lifted.offG,R.offD,λp hp=>(R.pl p hp).at λb _ ob e=>kp b ob e,R.sto⟩
 ok:=ok
 offL:=have h:=R.dead dead;⟨h.1,h.2.1,h.2.2.1⟩
 ns:=⟨mm,hns,λi x X e1 e2 e3=>nomatch (nc x (y0G hcaps e1 e3).1).symm.trans e2⟩
 cl:=λi x c e1 e2 e3=>by
  obtain⟨i0,g1,g2,hc⟩:=ce x (y3d nl e1 e2) c e3
  obtain⟨q1,⟨ov,q2,q3⟩,q4⟩:=R.cl i0 x c g1 g2 hc
  obtain⟨oc,hoc,_⟩:=id q2
  exact⟨λe=>(nomatch dead.symm.trans (show s₂.heap.get? E.locals=some oc from e▸hoc)),⟨ov,q2.keeps kp,λX e4=>by obtain⟨j,hj1,hj2⟩:=(y0G hcaps e1 e4).2.get;exact q3 X (z5Y R.ok.nd hj1 g1▸hj2)⟩,oc,by rw[z1y (Or.inr ⟨i0,x,g1,g2,hc⟩) q1];exact hoc⟩
theorem y0L{acc:Addr}{wr:List Addr}(R:A3 C η ν gl own G D m σ s₂)(nl:∀x∈locals,E.kindOf x=some .local)(ce:∀x∈caps,∀c,E.cells.lookup x=some c->∃i:Nat,ν[i]? =some x/\η.kindOf x=some .cell/\η.cells.lookup x=some c)
  (hne:acc≠E.locals) (dead:s₂.heap.get? E.locals=none) (dead':s₂.heap.get? acc=none) (off:Off η ν G D σ wr) (live:∀a∈wr,∃o,s₂.heap.get? a=some o):Off E (locals++caps) (z2g η ν G s₂) D σ (acc::wr):=λa ha=>by
 have key:a≠E.locals->¬z2y η ν a->¬z2y E (locals++caps) a:=λh1 h2 h=>by
  rcases h with e|⟨i,x,e1,e2,e3⟩
  ·exact h1 e
  ·obtain⟨i0,g1,g2,hc⟩:=ce x (y3d nl e1 e2) a e3
   exact h2 (Or.inr ⟨i0,x,g1,g2,hc⟩)
 rcases Ae.mp ha with rfl|ha
 ·have h:=R.dead dead'
  exact⟨h.1,h.2.1,h.2.2.1,key hne h.2.2.2⟩
 ·have q:=off a ha
  refine⟨by rw[z1H q.2.2.2];exact q.1,q.2.1,q.2.2.1,key (λe=> ?_) q.2.2.2⟩
  obtain⟨o,h⟩:=live a ha
  exact nomatch dead.symm.trans (show s₂.heap.get? E.locals=some o from e▸h)
end
theorem y0K{E:Env}{elt tgt iter:Expr}{ifs:List Expr}{scope:Scope}{pos:Pos}{locals caps:List Str}{ms:Loc}{use:Option (Value->Sem Unit)}{K:Value->Shared->Prop}{Q:List V->Sto->Prop}{acc I:Addr}{fp wr:List Addr}{St:Nat->Heap->Prop}{xs:List V}{P:Sto->Prop}{s₂ s':Shared}{mm:Str->Option Value}
  (hA:C9 C A d) (R:A3 C η ν gl own G D m σ s₂) (ok:H0 C E (locals++caps) gl' false) (hcaps:D7 ν m caps ms) (nl:∀x∈locals,E.kindOf x=some .local) (nc:∀x∈caps,E.kindOf x=some .cell) (ce:∀x∈caps,∀c,E.cells.lookup x=some c->∃i:Nat,ν[i]? =some x/\η.kindOf x=some .cell/\η.cells.lookup x=some c)
  (same:∃h tk,s'={C.s₀ with heap:=h,toks:=tk}) (kp:∀b o,s₂.heap.get? b=some o->s'.heap.get? b=some o) (dead:s₂.heap.get? E.locals=none) (dead':s₂.heap.get? acc=none) (hne:acc≠E.locals) (hns:s'.heap.Ns E.locals mm) (hacc:s'.heap.get? acc=some (z0q #[] 0))
  (W:IW C A tgt I fp wr D xs St) (st₀:St 0 s₂.heap) (off:Off η ν G D σ wr) (hP:P σ) (stay:y0y C D P s₂.heap fp wr) (hsz:xs.length<=sizeLine) (hL:z0P C E (locals++caps) gl' d tgt elt ifs P Q xs [] ((locals.map λ_=>none)++ms) σ)
  (hK:∀s' D' σ' vs n ys mm,DX G D D'->A3 C η ν gl own G D' m ((acc,z0q vs n,.list ys)::σ') s'->Off η ν G D' ((acc,z0q vs n,.list ys)::σ') [E.locals]->s'.heap.Ns E.locals mm->Q ys σ'->compPost C.M A (λ_ _=>False) use K (.ref acc) E.locals (.ok .next) s'):
  codeAny C.M A (.compStart (.ListComp elt [⟨tgt,iter,ifs,0⟩] scope pos) 0 (.ref I) (.ref acc) E) (compPost C.M A (λ_ _=>False) use K (.ref acc) E.locals) s':=by
 have stA:St 0 s'.heap:=W.frame _ _ _ st₀ λb _ o e=>kp b o e
 have haw:acc∉wr:=λhw=>by obtain⟨o,e⟩:=W.lives st₀ acc hw;exact nomatch dead'.symm.trans e
 have loop:codeAny C.M A (.compLoop (.ListComp elt [⟨tgt,iter,ifs,0⟩] scope pos) 0 (.ref I) (.ref acc) E) (compPost C.M A (λ_ _=>False) use K (.ref acc) E.locals) s':=by
  refine z9x W hA hsz stA (y0M R ok hcaps nl nc ce same kp dead hns) (Sub.refl _) (y0L R nl ce hne dead dead' off (W.lives st₀)) haw (λhf=>W.old acc hf haw _ st₀ dead') hacc hP (λG' D' σ' s' R' hs' hP' b hb hbw o e=> ?_) hL λs' D' σ' m'' vs n ys dx' RF' off' ho' hvs' hq'=> ?_
  ·cases q:s₂.heap.get? b with
   |none=>exact(W.old b hb hbw _ st₀ q).elim
   |some o0=>exact stay G' D' σ' s' R' hs' hP' b hb hbw o (q.trans ((kp b o0 q).symm.trans e))
  ·have oa:=off' acc (.head _)
   have hl:=RF'.offL
   obtain⟨mm,hmm,_⟩:=RF'.ns
   refine hK s' D' σ' vs n ys mm (R.dx dx') (R.back (RF'.toRelC.addL oa.1 oa.2.1 oa.2.2.1 ho' hvs') dx') (λa ha=> ?_) hmm hq'
   rw[Af.mp ha]
   refine⟨R.overN hl.1,hl.2.1,λhf=> ?_,(R.dead dead).2.2.2⟩
   rcases Ae.mp hf with e|hf
   ·exact hne e.symm
   ·exact hl.2.2 hf
 exact codeAny_compStart_list loop (By (W.self 0 _ _ stA loop) (λ_ _ e=>e) λ_ _ e=>e.elim)
theorem z3w{elt tgt iter:Expr}{ifs:List Expr}{scope:Scope}{pos pos':Pos}{locals caps:List Str}{ms:Loc}{use:Option (Value->Sem Unit)}{K:Value->Shared->Prop}{Q:List V->Sto->Prop}
  (hA:C9 C A d) (R:A3 C η ν gl own G D m σ s) (hok:z1x scope η.scope ν locals caps (gl'.map (·.1))=true) (hgl:∀p∈gl',z04 C p.1 p.2) (hcaps:D7 ν m caps ms)
  (h:AI C η ν gl own d iter tgt m σ λxs P σ₁=>xs.length<=sizeLine/\∀env',env'.scope=relabel scope η->z0P C env' (locals++caps) gl' d tgt elt ifs P Q xs [] ((locals.map λ_=>none)++ms) σ₁)
  (hs:∀x,foldedSetIterable iter η x=pure x)
  (hK:∀s' D' σ' a vs n ys L mm,DX G D D'->A3 C η ν gl own G D' m ((a,z0q vs n,.list ys)::σ') s'->Off η ν G D' ((a,z0q vs n,.list ys)::σ') [L]->s'.heap.Ns L mm->Q ys σ'->compPost C.M A (λ_ _=>False) use K (.ref a) L (.ok .next) s'):
  wpAny C.M A (comprehension (.ListComp elt [⟨tgt,iter,ifs,0⟩] scope pos) scope η pos' (newList []) false (eval iter η) use) K (λ_ _=>False) s:=by
 obtain⟨k1,hnc,hclos,hlk,hE⟩:=z8c R.ok hok hgl
 refine wpAny_comprehension_free (g:=⟨tgt,iter,ifs,0⟩) (gs:=[]) rfl hs hclos k1 hlk (By (h A G D s hA R) (λx s₁ h₁=>By h₁ (λit s₂ h₂=> ?_) λ_ _ e=>e) λ_ _ e=>e)
 obtain⟨D₁,σ₁,xs,P,dx₁,⟨I,fp,wr,St,rfl,W,st₀,R₁,off₁,hP₁,stay⟩,hsz,hL⟩:=h₂
 refine wpAny_newList (items:=[]) (wpAny_newFunctionEnv hnc (λy hy=>nomatch hy) (λh₁ hns hsb=> ?_) k1) (Nat.zero_le _)
 obtain⟨ok,nl,nc,ce⟩:=hE {(newEnv scope (s₂.heap.push (z0q #[] 0)).objs.size η.globals (z20 η scope.names []) η.qual none .none (some η) builtinsNs) with scope:=relabel scope η} rfl rfl rfl (R.ok.gb.symm▸rfl) λy k e=>z25 R.ok.fn e
 have hsz':(s₂.heap.push (z0q #[] 0)).objs.size=s₂.heap.objs.size+1:=Heap.size_push ..
 have dead:∀b,s₂.heap.objs.size<=b->s₂.heap.get? b=none:=λb hb=>Option.eq_none_iff_forall_not_mem.mpr λo e=>absurd (Heap.lt_size e) (BC.mpr hb)
 have kp:∀b o,b<=s₂.heap.objs.size->(s₂.heap.push (z0q #[] 0)).get? b=some o->h₁.get? b=some o:=λb o hb e=>hsb.extBut b o (show b≠(s₂.heap.push (z0q #[] 0)).objs.size from hsz'▸Bq (Nat.lt_succ_of_le hb)) (Heap.get?_push_of_some _ e)
 refine y0K hA R₁ ok hcaps nl nc ce (by obtain⟨h0,t0,e⟩:=R₁.same;exact⟨h₁,_,by rw[e]⟩) (λb o e=>kp b o (AZ (Heap.lt_size e)) (Heap.get?_push_of_some _ e)) (dead _ (AZ (hsz'▸Nat.lt_succ_self _))) (dead _ (AN _)) (show s₂.heap.objs.size≠(s₂.heap.push (z0q #[] 0)).objs.size from hsz'▸Bq (Nat.lt_succ_self _)) hns (kp _ _ (AN _) (Heap.get?_push_size _ rfl)) W st₀ off₁ hP₁ stay hsz (hL _ rfl) λs' D' σ' vs n ys mm dx RF off hn q=>hK s' D' σ' _ vs n ys _ mm (dx₁.trans dx) RF off hn q
end
section
variable {C:Cx} {η:Env} {ν:List Str} {gl gl':LV} {own:Bool} {d:Nat} {m m':Loc} {σ σ':Sto}
variable {A:Around} {G D D₀ D₁:Gh} {s:Shared} {P:VP}
theorem A3.freeze{a:Addr}{o:Obj}{xs:List V}{u v:Sto}(R:A3 C η ν gl own G D m (u++(a,o,.list xs)::v) s):
  A3 C η ν gl own G (z2s D a o) m (u++v) s/\DX G D (z2s D a o)/\VR C.w (z2s D a o) (.ref a) (.lst xs):=by
 obtain⟨h1,h2,h3⟩:=R.lifted.freezeL rfl
 exact⟨R.back h1 h2,R.dx h2,h3⟩
theorem z9V{elt tgt iter:Expr}{ifs:List Expr}{scope:Scope}{pos:Pos}(locals caps:List Str)(gl':LV){ms:Loc}
  (hok:z1x scope η.scope ν locals caps (gl'.map (·.1))=true) (hgl:∀p∈gl',z04 C p.1 p.2) (hcaps:D7 ν m caps ms)
  (h:AI C η ν gl own d iter tgt m σ λxs Pp σ₁=>xs.length<=sizeLine/\∀env',env'.scope=relabel scope η->
   z0P C env' (locals++caps) gl' d tgt elt ifs Pp (λys σ₂=>∀a o,P (.ref a) ((a,o,.list ys)::σ₂)) xs [] ((locals.map λ_=>none)++ms) σ₁)
  (hs:autoParam (∀x,foldedSetIterable iter η x=pure x) auF):
  AT C η ν gl own d (eval (.ListComp elt [⟨tgt,iter,ifs,0⟩] scope pos) η) m σ P:=λA G D s hA R=>by
 rw[eval_ListComp]
 refine z3w hA R hok hgl hcaps h hs λs' D' σ' a vs n ys L mm dx RO off hns q=> ?_
 refine⟨mm,hns,λh' hs'=>⟨.ref a,D',_,dx,.ref a,?_,q a (z0q vs n)⟩⟩
 have:=RO.keepBut (h':=h') s'.toks off λb o hb e=>hs'.extBut b o (by simpa using hb) e
 exact this
theorem z4Y{elt tgt iter:Expr}{ifs:List Expr}{scope:Scope}{pos:Pos}(locals caps:List Str)(gl':LV){ms:Loc}
  (hok:z1x scope η.scope ν locals caps (gl'.map (·.1))=true) (hgl:∀p∈gl',z04 C p.1 p.2) (hcaps:D7 ν m caps ms)
  (h:AI C η ν gl own d iter tgt m σ λxs Pp σ₁=>xs.length<=sizeLine/\∀env',env'.scope=relabel scope η->
   z0P C env' (locals++caps) gl' d tgt elt ifs Pp (λys σ₂=>P (.lst ys) σ₂) xs [] ((locals.map λ_=>none)++ms) σ₁)
  (hs:autoParam (∀x,foldedSetIterable iter η x=pure x) auF):
  AT C η ν gl own d (eval (.ListComp elt [⟨tgt,iter,ifs,0⟩] scope pos) η) m σ P:=λA G D s hA R=>by
 rw[eval_ListComp]
 refine z3w hA R hok hgl hcaps h hs λs' D' σ' a vs n ys L mm dx RO off hns q=> ?_
 refine⟨mm,hns,λh' hs'=> ?_⟩
 have R1:A3 C η ν gl own G D' m ((a,z0q vs n,.list ys)::σ') {s' with heap:=h'}:=by
  have:=RO.keepBut (h':=h') s'.toks off λb o hb e=>hs'.extBut b o (by simpa using hb) e
  exact this
 obtain⟨R2,dx2,hv⟩:=A3.freeze (u:=[]) R1
 exact⟨.lst ys,_,σ',dx.trans dx2,hv,R2,q⟩
variable {Q:FP}
theorem z5S{elt tgt iter:Expr}{ifs:List Expr}{scope:Scope}{pos p' p:Pos}{x:Str}{locals caps:List Str}{gl':LV}{ms:Loc}{Z:List V->Sto->Prop}
  (hA:C9 C A d) (R:A3 C η ν gl own G D m σ s) (hown:own=true)
  (hsw:swapsWith (.ListComp elt [⟨tgt,iter,ifs,0⟩] scope pos) (some (.Name x p')) p.line η=pure true)
  (hok:z1x scope η.scope ν locals caps (gl'.map (·.1))=true) (hgl:∀p∈gl',z04 C p.1 p.2) (hcaps:D7 ν m caps ms)
  (h:AI C η ν gl own d iter tgt m σ λxs Pp σ₁=>xs.length<=sizeLine/\∀env',env'.scope=relabel scope η->z0P C env' (locals++caps) gl' d tgt elt ifs Pp Z xs [] ((locals.map λ_=>none)++ms) σ₁)
  (hs:∀x,foldedSetIterable iter η x=pure x)
  (k:∀s' D' σ' a vs n ys,DX G D D'->A3 C η ν gl own G D' m ((a,z0q vs n,.list ys)::σ') s'->Z ys σ'->∃X m' D₂ σ₂,DX G D' D₂/\VR C.w D₂ (.ref a) X/\A3 C η ν gl own G D₂ m σ₂ s'/\Sub D' D₂/\(∀L,Off η ν G D' ((a,z0q vs n,.list ys)::σ') [L]->Off η ν G D₂ σ₂ [L])/\F4 ν m x X m'/\Q .next m' σ₂):
  wpAny C.M A (exec (.Assign [.Name x p'] (.ListComp elt [⟨tgt,iter,ifs,0⟩] scope pos) p) η) (D1 C η ν gl own G D Q) (λ_ _=>False) s:=by
 rw[exec_Assign_Name_used _ _ _ _ hsw]
 refine Bx (wpAny_standAt (Bx ?_))
 show wpAny _ A (do let _ <-comprehension (.ListComp elt [⟨tgt,iter,ifs,0⟩] scope pos) scope η _ (newList []) false (eval iter η) (some (assign (.Name x p') η))) _ _ s
 refine Bx (By (z3w (K:=λ_ s'=>D1 C η ν gl own G D Q .next s') hA R hok hgl hcaps h hs λs' D' σ' a vs n ys L mm dx RO off hns q=> ?_) (λ_ s' hq=>wpAny_pure (wpAny_pure hq)) λ_ _ e=>e)
 obtain⟨X,m',D₂,σ₂,dx₂,hv,R₂,_,off₂,hP,q₂⟩:=k s' D' σ' a vs n ys dx RO q
 have offL:=off₂ L off
 have RW:=R₂.withW offL
 show wpAny C.M A (assign (.Name x p') η (.ref a)) _ _ s'
 refine Bx (wpAny_standAt (wpAny_bindName (RW.store hP hv (.inl hown) λs'' R''=> ?_)))
 obtain⟨oL,es,ep,hoL,hr⟩:=hns
 obtain⟨o',hL'',qL,_⟩:=R''.g L oL ((z1K (.head _)).trans hoL)
 obtain⟨R₃,_,off₃⟩:=R''.lessW offL R.base (DX.refl _ _) (λa ha=>by simp at ha;subst ha;exact⟨_,hoL⟩)
 refine⟨mm,⟨o',es,ep,hL'',qL.trans hr.1,hr.2⟩,λh' hs'=>⟨.next,m',D₂,σ₂,dx.trans dx₂,trivial,?_,q₂⟩⟩
 have:=R₃.keepBut (h':=h') s''.toks off₃ λb o hb e=>hs'.extBut b o (by simpa using hb) e
 exact this
theorem Off.freeze{a L:Addr}{o:Obj}{xs:List V}(h:Off η ν G D ((a,o,.list xs)::σ) [L]):Off η ν G (z2s D a o) σ [L]:=λb hb=>by
 have q:=h b hb
 have hne:b≠a:=λe=>q.2.2.1 (by rw[e];exact .head _)
 exact⟨q.1,by rw[z1k o hne];exact q.2.1,λhf=>q.2.2.1 (.tail _ hf),q.2.2.2⟩
theorem z5z{elt tgt iter:Expr}{ifs:List Expr}{scope:Scope}{pos p' p:Pos}{x:Str}(locals caps:List Str)(gl':LV){ms:Loc}
  (hsw:swapsWith (.ListComp elt [⟨tgt,iter,ifs,0⟩] scope pos) (some (.Name x p')) p.line η=pure true)
  (hok:z1x scope η.scope ν locals caps (gl'.map (·.1))=true) (hgl:∀p∈gl',z04 C p.1 p.2) (hcaps:D7 ν m caps ms)
  (h:AI C η ν gl own d iter tgt m σ λxs Pp σ₁=>xs.length<=sizeLine/\∀env',env'.scope=relabel scope η->
   z0P C env' (locals++caps) gl' d tgt elt ifs Pp (λys σ₂=>∃m',F4 ν m x (.lst ys) m'/\Q .next m' σ₂) xs [] ((locals.map λ_=>none)++ms) σ₁)
  (hown:autoParam (own=true) auR) (hs:autoParam (∀x,foldedSetIterable iter η x=pure x) auF):
  AS C η ν gl own d (exec (.Assign [.Name x p'] (.ListComp elt [⟨tgt,iter,ifs,0⟩] scope pos) p) η) m σ Q:=λA G D s hA R=>
 z5S hA R hown hsw hok hgl hcaps h hs λs' D' σ' a vs n ys dx RO hpp=>by
  obtain⟨m',hP,q⟩:=hpp
  obtain⟨R2,dx2,hv⟩:=A3.freeze (u:=[]) RO
  exact⟨.lst ys,m',_,σ',dx2,hv,R2,dx2.sub,λL off=>off.freeze,hP,q⟩
theorem z5A{elt tgt iter:Expr}{ifs:List Expr}{scope:Scope}{pos p' p:Pos}{x:Str}(locals caps:List Str)(gl':LV){ms:Loc}
  (hsw:swapsWith (.ListComp elt [⟨tgt,iter,ifs,0⟩] scope pos) (some (.Name x p')) p.line η=pure true)
  (hok:z1x scope η.scope ν locals caps (gl'.map (·.1))=true) (hgl:∀p∈gl',z04 C p.1 p.2) (hcaps:D7 ν m caps ms)
  (h:AI C η ν gl own d iter tgt m σ λxs Pp σ₁=>xs.length<=sizeLine/\∀env',env'.scope=relabel scope η->
   z0P C env' (locals++caps) gl' d tgt elt ifs Pp (λys σ₂=>∀a o,∃m',F4 ν m x (.ref a) m'/\Q .next m' ((a,o,.list ys)::σ₂)) xs [] ((locals.map λ_=>none)++ms) σ₁)
  (hown:autoParam (own=true) auR) (hs:autoParam (∀x,foldedSetIterable iter η x=pure x) auF):
  AS C η ν gl own d (exec (.Assign [.Name x p'] (.ListComp elt [⟨tgt,iter,ifs,0⟩] scope pos) p) η) m σ Q:=λA G D s hA R=>
 z5S hA R hown hsw hok hgl hcaps h hs λs' D' σ' a vs n ys dx RO q=>by
  obtain⟨m',hP,q⟩:=q a (z0q vs n)
  exact⟨.ref a,m',D',_,DX.refl _ _,.ref a,RO,Sub.refl _,λL off=>off,hP,q⟩
end
section
variable {C:Cx} {d:Nat} {σ:Sto} {Q:VP}
theorem z6X{a b:Int}(q:Q (.int (a+b)) σ):AC2 C d (binaryOp .Add) (.int a) (.int b) σ Q:=λA G D s v u hA R hv hu=>by
 apply VR.intE hv;intro _;apply VR.intE hu;intro _;exact P.add_int (A0.now (R.tok _) (.int _ _) q)
theorem y4x{a b:Int}(q:Q (.int (a-b)) σ):AC2 C d (binaryOp .Sub) (.int a) (.int b) σ Q:=λA G D s v u hA R hv hu=>by
 apply VR.intE hv;intro _;apply VR.intE hu;intro _;exact P.sub_int (A0.now (R.tok _) (.int _ _) q)
theorem z5N{a b:Int}(q:Q (.int (a*b)) σ)(h:IntMulOk a b):AC2 C d (binaryOp .Mult) (.int a) (.int b) σ Q:=λA G D s v u hA R hv hu=>by
 apply VR.intE hv;intro _;apply VR.intE hu;intro _;exact P.mul_int (A0.now (R.tok _) (.int _ _) q) h
theorem z8y{a b:Int}(q:Q (.int (a.fdiv b)) σ)(h:b≠0)(hs:b.natAbs<1073741824):AC2 C d (binaryOp .FloorDiv) (.int a) (.int b) σ Q:=λA G D s v u hA R hv hu=>by
 apply VR.intE hv;intro _;apply VR.intE hu;intro _;exact PyProof.Rows.floordiv_int h (A0.now (R.tok _) (.int _ _) q) (.inl (PyProof.noPylong_small hs))
theorem z6Y{a b:Int}(q:Q (.int (a.fmod b)) σ)(h:b≠0):AC2 C d (binaryOp .Mod) (.int a) (.int b) σ Q:=λA G D s v u hA R hv hu=>by
 apply VR.intE hv;intro _;apply VR.intE hu;intro _;exact PyProof.Rows.mod_int' h (A0.now (R.tok _) (.int _ _) q)
theorem y25{a:Int}(q:Q (.int (-a)) σ):AC1 C d (unaryOp .USub) (.int a) σ Q:=λA G D s v hA R hv=>by
 apply VR.intE hv;intro _;exact P.neg_int (A0.now (R.tok _) (.int _ _) q)
theorem y4A{a b:Int}(q:Q (.bool (decide (a<b))) σ):AC2 C d (compareOp .Lt) (.int a) (.int b) σ Q:=λA G D s v u hA R hv hu=>by
 apply VR.intE hv;intro _;apply VR.intE hu;intro _;exact P.lt_int (A0.now R (.bool _) q)
theorem y49{a b:Int}(q:Q (.bool (decide (a<=b))) σ):AC2 C d (compareOp .LtE) (.int a) (.int b) σ Q:=λA G D s v u hA R hv hu=>by
 apply VR.intE hv;intro _;apply VR.intE hu;intro _;exact P.le_int (A0.now R (.bool _) q)
theorem y3y{a b:Int}(q:Q (.bool (decide (b<a))) σ):AC2 C d (compareOp .Gt) (.int a) (.int b) σ Q:=λA G D s v u hA R hv hu=>by
 apply VR.intE hv;intro _;apply VR.intE hu;intro _;exact P.gt_int (A0.now R (.bool _) q)
theorem y48{a b:Int}(q:Q (.bool (decide (b<=a))) σ):AC2 C d (compareOp .GtE) (.int a) (.int b) σ Q:=λA G D s v u hA R hv hu=>by
 apply VR.intE hv;intro _;apply VR.intE hu;intro _;exact P.ge_int (A0.now R (.bool _) q)
theorem y3w{a b:Int}(q:Q (.bool (decide (a=b))) σ):AC2 C d (compareOp .Eq) (.int a) (.int b) σ Q:=λA G D s v u hA R hv hu=>by
 apply VR.intE hv;intro _;apply VR.intE hu;intro _
 refine P.eq_int (A0.now R ?_ q)
 rw[show(a==b)=decide (a=b) from rfl];exact .bool _
theorem y4B{a b:Int}(q:Q (.bool (!decide (a=b))) σ):AC2 C d (compareOp .NotEq) (.int a) (.int b) σ Q:=λA G D s v u hA R hv hu=>by
 apply VR.intE hv;intro _;apply VR.intE hu;intro _
 refine P.ne_int (A0.now R ?_ q)
 rw[show(a !=b)= !decide (a=b) from rfl];exact .bool _
theorem z2X{b:Bool}:TR C d (.bool b) σ b:=λA G D s v hA R hv K k=>by apply VR.boolE hv;exact wpAny_truthy_bool (k s.toks)
theorem z0g{b:Bool}{P:Bool->Sto->Prop}(p:P b σ):TRX C d (.bool b) σ P:=⟨b,z2X,p⟩
noncomputable def V.isNone:V->Bool
 | .none=>true
 |_=>false
theorem VR.isN{w:World}{D:Gh}{v:Value}{x:V}(hv:VR w D v x):(v==Value.none)=x.isNone:=
 hv.casesOn (motive_1:=λv x _=>(v==Value.none)=x.isNone) rfl (λ_=>rfl) (λ_ _=>rfl) (λ_ _=>rfl) (λ_=>rfl) (λ_=>rfl) (λ_=>rfl) (λ_ _ _ _=>rfl) (λ_ _=>rfl) (λ_=>rfl) (λ_ _ _ _=>rfl) (λ_ _=>rfl)
theorem z97{x:V}(q:Q (.bool x.isNone) σ):AC2 C d (compareOp .Is) x .none σ Q:=λA G D s v u hA R hv hu=>by
 apply VR.noneE hu
 exact is_none (A0.now R (hv.isN▸ .bool _) q)
theorem z6Z{x:V}(q:Q (.bool (!x.isNone)) σ):AC2 C d (compareOp .IsNot) x .none σ Q:=λA G D s v u hA R hv hu=>by
 apply VR.noneE hu
 exact isNot_none (A0.now R (hv.isN▸ .bool _) q)
theorem z8R(a b:Bool):(Value.bool a==Value.bool b)=(a==b):=by cases b<;>cases a<;>rfl
theorem z3t{x y:Str}(q:Q (.str (x++y)) σ)(h:x.length+y.length<=sizeLine):AC2 C d (binaryOp .Add) (.str x) (.str y) σ Q:=λA G D s v u hA R hv hu=>by
 apply VR.strE hv;intro _;apply VR.strE hu;intro _;exact PyProof.Rows.add_str (λt' tk=>A0.now (R.tok tk) (.str _ _) q) h
theorem z3l{x y:Str}(q:Q (.bool (x==y)) σ):AC2 C d (compareOp .Eq) (.str x) (.str y) σ Q:=λA G D s v u hA R hv hu=>by
 apply VR.strE hv;intro _;apply VR.strE hu;intro _;exact PyProof.Rows.eq_str (A0.now R (.bool _) q)
theorem y2Y{x y:Str}(q:Q (.bool (!(Builtin.Str.occurrences x y 0 x.length 1).isEmpty)) σ):AC2 C d (compareOp .In) (.str y) (.str x) σ Q:=λA G D s v u hA R hv hu=>by
 apply VR.strE hv;intro _;apply VR.strE hu;intro _;exact P.in_str (A0.now R (.bool _) q)
end
def NLq(P:VP)(Xs:List V)(σ:Sto):Prop:=P (.lst Xs) σ∨∀a o,P (.ref a) ((a,o,.list Xs)::σ)
section
variable {C:Cx} {d:Nat} {σ:Sto} {Q:VP} {G D:Gh} {s:Shared} {A:Around}
theorem RelC.mkL(R:RelC C G D σ s){vs:List Value}{Xs:List V}(h:A6 C.w D vs Xs)(q:NLq Q Xs σ):A0 C G D Q (.ref s.heap.objs.size) {s with heap:=s.heap.push (z0q vs.toArray 0)}:=by
 rcases q with q|q
 ·obtain⟨R',dx⟩:=R.newF (z0q vs.toArray 0)
  exact⟨.lst Xs,_,σ,dx,.lst (z0T ..) (h.mono dx.sub),R',q⟩
 ·exact⟨.ref _,D,_,DX.refl _ _,.ref _,R.newM (z0q vs.toArray 0) (.list Xs) ⟨vs.toArray,0,rfl,by simpa using h⟩ rfl (λ_ _=>rfl),q _ _⟩
mutual
inductive Dp(σ:Sto):V->PyData->Prop
 |none:Dp σ .none .none
 |bool (b:Bool):Dp σ (.bool b) (.bool b)
 |int (i:Int):Dp σ (.int i) (.int i)
 |str (x:Str):Dp σ (.str x) (.str x)
 |tup {xs:List V} {ds:List PyData}:Dps σ xs ds->Dp σ (.tup xs) (.tuple ds)
 |lst {xs:List V} {ds:List PyData}:Dps σ xs ds->Dp σ (.lst xs) (.list ds)
 |ref {a:Addr} {o:Obj} {xs:List V} {ds:List PyData}:(a,o,AO.list xs)∈σ->Dps σ xs ds->Dp σ (.ref a) (.list ds)
inductive Dps(σ:Sto):List V->List PyData->Prop
 |nil:Dps σ [] []
 |cons {x:V} {e:PyData} {xs:List V} {ds:List PyData}:Dp σ x e->Dps σ xs ds->Dps σ (x::xs) (e::ds)
end
theorem Dp.reads(R:RelC C G D σ s){x:V}{e:PyData}(p:Dp σ x e):∀{v:Value},VR C.w D v x->∃as,Reads s.heap v e as:=
 λ{v}=>Dp.rec (motive_1:=λx e _=>∀v,VR C.w D v x->∃as,Reads s.heap v e as) (motive_2:=λx e _=>∀v,A6 C.w D v x->∃as,ReadsAll s.heap v e as)
  (λv h=>by rw[h.noneI];exact⟨_,.none⟩) (λb v h=>by rw[h.boolI];exact⟨_,.bool b⟩) (λi v h=>by apply VR.intE h;intro _;exact⟨_,.int i _⟩) (λx v h=>by apply VR.strE h;intro _;exact⟨_,.str x _⟩)
  (λr ih v h=>by
   obtain⟨a,o,vs,n,rfl,e,hc,hd,hv⟩:=h.tupI
   obtain⟨as,q⟩:=ih vs hv
   exact⟨_,.tuple (R.d _ _ e) hc hd (by simpa using q)⟩)
  (λr ih v h=>by
   obtain⟨a,vs,n,rfl,e,hv⟩:=h.lstI
   obtain⟨as,q⟩:=ih vs hv
   exact⟨_,.list (R.d _ _ e) rfl rfl (by simpa using q)⟩)
  (λhm r ih v h=>by
   rw[h.refI]
   obtain⟨vs,n,e,hv⟩:=R.sto _ hm
   obtain⟨as,q⟩:=ih _ hv
   have e':=R.pl _ hm
   exact⟨_,.list e' (by rw[show _=z0q vs n from e]) (by rw[show _=z0q vs n from e]) q⟩)
  (λv h=>by rw[h.nilI];exact⟨_,.nil⟩)
  (λa b ia ib v h=>by
   apply A6.consE h;intro _ _ h1 h2
   obtain⟨as,q⟩:=ia _ h1
   obtain⟨bs,q'⟩:=ib _ h2
   exact⟨_,.cons q q'⟩) p v
theorem C9.line{A:Around}{d:Nat}(h:C9 C A d):A.units+64<cLine:=AG (Bg (AZ (AG (Bn _ _) h.units)) 64) (show 9000+64<9900 by decide)
theorem y2V{x y:V}{e f:PyData}(hx:Dp σ x e)(hy:Dp σ y f)(he:SeqAt.shaped e=true)(hf:SeqAt.shaped f=true)(q:Q (.bool (PyData.eqv e f)) σ):AC2 C d (compareOp .Eq) x y σ Q:=λA G D s v u hA R hv hu=>by
 obtain⟨_,r1⟩:=hx.reads R hv
 obtain⟨_,r2⟩:=hy.reads R hu
 exact SeqAt.compareEq_shaped r1 r2 he hf hA.line (A0.now R (.bool _) q)
theorem z98{x y:V}{e f:PyData}(hx:Dp σ x e)(hy:Dp σ y f)(he:SeqAt.shaped e=true)(hf:SeqAt.shaped f=true)(q:Q (.bool (!PyData.eqv e f)) σ):AC2 C d (compareOp .NotEq) x y σ Q:=λA G D s v u hA R hv hu=>by
 obtain⟨_,r1⟩:=hx.reads R hv
 obtain⟨_,r2⟩:=hy.reads R hu
 exact SeqAt.compareNe_shaped r1 r2 he hf hA.line (A0.now R (.bool _) q)
theorem A8.isL{x:V}{xs:List V}{P:Sto->Prop}(h:A8 σ x (.list xs) P)(R:RelC C G D σ s){v:Value}(hv:VR C.w D v x):
  ∃a vs,v= .ref a/\s.heap.IsList a vs/\A6 C.w D vs.toList xs:=by
 obtain⟨a,vs,n,rfl,ho,hr⟩:=h.isList R hv
 exact⟨a,vs,rfl,⟨_,ho,rfl,n,rfl⟩,hr⟩
theorem VR.isT{xs:List V}(R:RelC C G D σ s){v:Value}(hv:VR C.w D v (.tup xs)):∃a vs,v= .ref a/\PyProof.Rows.IsTup s.heap a vs/\s.heap.IsTuple a vs/\A6 C.w D vs.toList xs:=by
 cases hv with
 |tup e hc hd hr=>exact⟨_,_,rfl,⟨_,R.d _ _ e,hc,_,hd⟩,⟨_,R.d _ _ e,hc,_,hd⟩,by simpa using hr⟩
theorem A8.isLE{x:V}{xs:List V}{P:Sto->Prop}{Z:Value->Prop}(h:A8 σ x (.list xs) P)(R:RelC C G D σ s){v:Value}(hv:VR C.w D v x)(k:∀a vs,s.heap.IsList a vs->A6 C.w D vs.toList xs->Z (.ref a)):Z v:=by
 obtain⟨a,vs,rfl,ho,hr⟩:=h.isL R hv
 exact k a vs ho hr
theorem VR.isTE{xs:List V}{Z:Value->Prop}(R:RelC C G D σ s){v:Value}(hv:VR C.w D v (.tup xs))(k:∀a vs,PyProof.Rows.IsTup s.heap a vs->s.heap.IsTuple a vs->A6 C.w D vs.toList xs->Z (.ref a)):Z v:=by
 obtain⟨a,vs,rfl,h1,h2,hr⟩:=VR.isT R hv
 exact k a vs h1 h2 hr
theorem z6k{x:V}{xs:List V}{P:Sto->Prop}(h:A8 σ x (.list xs) P)(hl:xs.length<=sizeLine)(q:Q (.int xs.length) σ):KW C d (.bi "len") [x] σ Q:=λA G D s v vs hA R hv hs=>by
 apply VR.biE hv
 apply A6.consE hs;intro _ _ h1 h2
 ·skip
  apply A6.nilE h2
  apply A8.isLE h R h1;intro a ws hL hr
  have e:ws.size=xs.length:=by rw[<-hr.length];simp
  refine Calls.call_len_list hL (by rw[e];exact z7c hl) ?_
  rw[e];exact A0.now (R.tok _) (.int _ _) q
theorem y3K{xs:List V}(hl:xs.length<=sizeLine)(q:Q (.int xs.length) σ):KW C d (.bi "len") [.tup xs] σ Q:=λA G D s v vs hA R hv hs=>by
 apply VR.biE hv
 apply A6.consE hs;intro _ _ h1 h2
 ·skip
  apply A6.nilE h2
  apply VR.isTE R h1;intro a ws hT _ hr
  have e:ws.size=xs.length:=by rw[<-hr.length];simp
  refine PyProof.Rows.len_tuple hT (by rw[e];exact z7c hl) ?_
  rw[e];exact A0.now (R.tok _) (.int _ _) q
theorem z6l{x:Str}(hl:x.length<=sizeLine)(q:Q (.int x.length) σ):KW C d (.bi "len") [.str x] σ Q:=λA G D s v vs hA R hv hs=>by
 apply VR.biE hv
 apply A6.consE hs;intro _ _ h1 h2
 ·skip
  apply A6.nilE h2;apply VR.strE h1;intro _
  exact PyProof.Rows.len_str (Int.not_le.mpr (z7c hl)) (A0.now (R.tok _) (.int _ _) q)
theorem z42{x:V}{xs:List V}{P:Sto->Prop}{k:Int}{X:V}(h:A8 σ x (.list xs) P)(h0:0<=k)(hf:k<2^63)(hx:xs[k.toNat]? =some X)(q:Q X σ):C2 C d x (.int k) σ Q:=λA G D s o v hA R ho hv=>by
 apply VR.intE hv;intro _
 apply A8.isLE h R ho;intro a ws hL hr
 obtain⟨u,hu,ru⟩:=hr.get hx
 exact⟨"list",_,hL.typeIs,slot_list_getitem.lookup,wpAny_getItem_list hL h0 hf (by rw[<-Array.getElem?_toList];exact hu) (A0.now R ru q)⟩
theorem y1U{x:V}{xs:List V}{P:Sto->Prop}{k:Int}{X:V}(h:A8 σ x (.list xs) P)(h0:k<0)(h1: -(xs.length:Int)<=k)(hf: -(2^63)<=k)(hx:xs[(k+xs.length).toNat]? =some X)(q:Q X σ):C2 C d x (.int k) σ Q:=λA G D s o v hA R ho hv=>by
 apply VR.intE hv;intro _
 apply A8.isLE h R ho;intro a ws hL hr
 obtain⟨u,hu,ru⟩:=hr.get hx
 have e:ws.size=xs.length:=by rw[<-hr.length];simp
 exact⟨"list",_,hL.typeIs,slot_list_getitem.lookup,wpAny_getItem_list_neg hL h0 (by rw[e];exact h1) hf (by rw[<-Array.getElem?_toList,e];exact hu) (A0.now R ru q)⟩
theorem y21{xs:List V}{k:Int}{X:V}(h0:0<=k)(hf:k<2^63)(hx:xs[k.toNat]? =some X)(q:Q X σ):C2 C d (.tup xs) (.int k) σ Q:=λA G D s o v hA R ho hv=>by
 apply VR.intE hv;intro _
 apply VR.isTE R ho;intro a ws hT _ hr
 obtain⟨u,hu,ru⟩:=hr.get hx
 have e:ws.size=xs.length:=by rw[<-hr.length];simp
 have hk:k.toNat<xs.length:=(An.mp hx).1
 have hj:seqIndex? k ws.size=some k.toNat:=by
  unfold seqIndex?
  rw[e]
  have h1:(k:Int)<(xs.length:Int):=(Int.toNat_lt h0).mp hk
  rw[if_neg (Int.not_lt.mpr h0)];exact if_pos (show(decide (0<=k)&&decide (k<_))=true by rw[AE h0,AE h1];rfl)
 exact⟨"tuple",_,hT.typeIs,PyProof.Rows.slot_tuple_getitem.lookup,PyProof.Rows.getItem_tuple hT (AQ (by decide) h0) hf hj (by rw[<-Array.getElem?_toList];exact hu) (A0.now R ru q)⟩
theorem y0c{x:Str}{k:Int}{c:Nat}(h0:0<=k)(hf:k<2^63)(hx:x.cps[k.toNat]? =some c)(q:Q (.str ⟨#[c]⟩) σ):C2 C d (.str x) (.int k) σ Q:=λA G D s o v hA R ho hv=>by
 apply VR.intE hv;intro _;cases ho
 have hk:k.toNat<x.cps.size:=by
  rcases Nat.lt_or_ge k.toNat x.cps.size with h|h
  ·exact h
  ·rw[Array.getElem?_eq_none h] at hx;cases hx
 have hj:seqIndex? k x.length=some k.toNat:=by
  unfold seqIndex? Str.length
  have h1:(k:Int)<(x.cps.size:Int):=(Int.toNat_lt h0).mp hk
  rw[if_neg (Int.not_lt.mpr h0)];exact if_pos (show(decide (0<=k)&&decide (k<_))=true by rw[AE h0,AE h1];rfl)
 refine⟨"str",_,typeIs_str _ _ _,F.slot_str_getitem.lookup,PyProof.Rows.getItem_str (c:=c) (by rw[AX (Int.not_lt.mpr (AQ (by decide) h0)),AX (Int.not_le.mpr hf)];rfl) (by rw[hj];exact hx) (A0.now (R.tok _) (.str _ _) q)⟩
theorem z75{x:V}{t:String}(h:∀A G D s v,RelC C G D σ s->VR C.w D v x->wpAny C.M A (call (.builtin "isinstance") [v,.type t]) (A0 C G D Q) (λ_ _=>False) s):KW C d (.bi "isinstance") [x,.type t] σ Q:=λA G D s v vs hA R hv hs=>by
 apply VR.biE hv;apply A6.consE hs;intro _ _ h1 h2;apply A6.consE h2;intro _ _ h3 h4;apply A6.nilE h4;apply VR.typeE h3;exact h A G D s _ R h1
inductive F0:V->Option Int->Prop
 |none:F0 .none none
 |int (i:Int):F0 (.int i) (some i)
theorem F0.is{w:World}{x:V}{o:Option Int}(h:F0 x o){v:Value}(hv:VR w D v x):IsPart v o:=by
 cases h with
 |none=>rw[VR.noneI hv];exact .none
 |int i=>apply VR.intE hv;intro _;exact .int _ _
noncomputable def slL(xs:List V)(lo hi st:Option Int):List V:=
 (sliceRange (sliceBounds lo hi st xs.length).1 (sliceBounds lo hi st xs.length).2.1 (sliceBounds lo hi st xs.length).2.2).filterMap (xs[·]?)
theorem A6.pick{w:World}{vs:List Value}{xs:List V}(h:A6 w D vs xs)(is:List Nat):A6 w D (is.filterMap (vs[·]?)) (is.filterMap (xs[·]?)):=by
 induction is with
 |nil=>exact .nil
 |cons i r ih=>
  cases e:xs[i]? with
  |some X=>
   obtain⟨u,hu,ru⟩:=h.get e
   rw[List.filterMap_cons_some hu,List.filterMap_cons_some e]
   exact .cons ru ih
  |none=>
   have e':vs[i]? =none:=by
    rw[List.getElem?_eq_none_iff] at e⊢;rw[h.length];exact e
   rw[List.filterMap_cons_none e',List.filterMap_cons_none e]
   exact ih
theorem z3F{x L U S:V}{xs:List V}{P:Sto->Prop}{lo hi st:Option Int}(h:A8 σ x (.list xs) P)(hL:F0 L lo)(hU:F0 U hi)(hS:F0 S st)(h0:st≠some 0)(hl:xs.length<=sizeLine)
  (q:NLq Q (slL xs lo hi st) σ):C2 C d x (.slc L U S) σ Q:=λA G D s o v hA R ho hv=>by
 obtain⟨_,_,_,_,rfl,e,h1,h2,h3⟩:=VR.slcI hv
 ·skip
  apply A8.isLE h R ho;intro a ws hIs hr
  have es:ws.size=xs.length:=by rw[<-hr.length];simp
  refine⟨"list",_,hIs.typeIs,slot_list_getitem.lookup,wpAny_getItem_list_slice hIs ⟨_,R.d _ _ e,rfl,rfl⟩ (hL.is h1) (hU.is h2) (hS.is h3) h0 ?_ (by rw[es];exact hl)⟩
  have ep:slicePick ws lo hi st=((sliceRange (sliceBounds lo hi st xs.length).1 (sliceBounds lo hi st xs.length).2.1 (sliceBounds lo hi st xs.length).2.2).filterMap (ws.toList[·]?)).toArray:=by
   unfold slicePick;rw[es];congr 1
   simp
  rw[ep]
  exact R.mkL (hr.pick _) q
theorem z1q{x y:V}{xs ys:List V}{P P':Sto->Prop}(h:A8 σ x (.list xs) P)(h':A8 σ y (.list ys) P')(hl:xs.length+ys.length<=sizeLine)(q:NLq Q (xs++ys) σ):AC2 C d (binaryOp .Add) x y σ Q:=λA G D s v u hA R hv hu=>by
 apply A8.isListE h R hv;intro a ws n ho hr
 apply A8.isListE h' R hu;intro b zs n' ho' hr'
 have e1:ws.size=xs.length:=by rw[<-hr.length];simp
 have e2:zs.size=ys.length:=by rw[<-hr'.length];simp
 refine concat_meets ⟨_,ho,rfl⟩ ⟨_,ho',rfl⟩ noFill_list_add seq_list_add F.slot_list_add F.entry_list_add (F.args_list_add_2 _ _) (PyProof.Rows.list_addW a b ws zs n n' none none #[] #[] (by rw[e1,e2];exact hl)) ⟨ho,ho',?_⟩
 have e:ws++zs=(ws.toList++zs.toList).toArray:=by simp
 rw[e]
 exact R.mkL (hr.append hr') q
theorem all_range:∀bs:List Bool,(List.range bs.length).all (λi=>bs.getD i false)=bs.all id
 |[]=>rfl
 |b::r=>by
  rw[Aq,List.range_succ_eq_map,List.all_cons,List.all_map]
  exact congrArg (b&&·) (all_range r)
theorem z8C [HM C]{x:V}{bs:List Bool}{P:Sto->Prop}(h:A8 σ x (.list (bs.map V.bool)) P)(q:Q (.bool (bs.all id)) σ):KW C d (.bi "all") [x] σ Q:=λA G D s v vs hA R hv hs=>by
 apply VR.biE hv
 apply A6.consE hs;intro _ _ h1 h2
 apply A6.nilE h2
 apply A8.isLE h R h1;intro a ws hL hr
 have hne:a≠s.heap.objs.size:=Bq (let⟨_,e,_⟩:=hL;Heap.lt_size e)
 refine call_all_walk (wpAny_pyIter_list hL ⟨s.heap.objs.size,_,_,ws.size,_,_,λi=>bs.getD i false,rfl,Walks.list (A:=A.in1) hA.hh s.heap.objs.size a hne ws,⟨⟨_,Heap.get?_push_size _ rfl,rfl,rfl⟩,hL.push _⟩,?_,λh' tk hk=> ?_⟩)
 ·intro i u s' K E' hu hK
  obtain⟨X,hX,rX⟩:=hr.get' (show ws.toList[i]? =some u by rw[Array.getElem?_toList];exact hu)
  rw[Al] at hX
  revert rX
  apply z0Z hX;intro b hb rX
  apply VR.boolE rX
  refine wpAny_truthy_bool ?_
  have hK:K (bs.getD i false) s':=hK
  rw[List.getD_eq_getElem?_getD,hb] at hK
  exact hK
 ·rw[show ws.size=bs.length from(Bz.symm.trans hr.length).trans (Ab ..),all_range]
  exact A0.now ((R.push _).keepBut (h':=h') tk [s.heap.objs.size] (λc hc=>by rw[Af.mp hc];exact⟨R.new_G,R.new_D,R.new_notFoot⟩) hk) (.bool _) q
theorem y3L [HM C]{a b:Int}(q:Q (.int (min a b)) σ):KW C d (.bi "min") [.int a,.int b] σ Q:=λA G D s v vs hA R hv hs=>by
 apply VR.biE hv;cases hs with
 |cons h1 h2=>
  apply A6.consE h2;intro _ _ h3 h4
  ·skip
   apply A6.nilE h4;apply VR.intE h3;intro _;apply VR.intE h1;intro _
   refine min_two_ints hA.hh λh' tk hk=> ?_
   have R':=R.keep (h':=h') tk hk
   by_cases hc:b<a
   ·rw[if_pos hc];rw[Int.min_eq_right (Int.le_of_lt hc)] at q;exact A0.now R' (.int _ _) q
   ·rw[if_neg hc];rw[Int.min_eq_left (Int.not_lt.mp hc)] at q;exact A0.now R' (.int _ _) q
theorem z1D{n:Int}(q:Q (.rng 0 n 1) σ):KW C d (.type "range") [.int n] σ Q:=λA G D s v vs hA R hv hs=>by
 apply VR.typeE hv;cases hs with
 |cons h1 h2=>
  apply A6.nilE h2;apply VR.intE h1;intro _
  refine call_range_1 ?_
  obtain⟨R',dx⟩:=(R.tok (s.toks+1+1)).newF {cls:= .type "range",data:= .fields #[.int 0 s.toks,.int n _,.int 1 (s.toks+1)]}
  exact⟨_,_,σ,dx,.rng (z0T ..),R',q⟩
theorem z1L{a:Int}(ha:a.natAbs.log2<1920)(q:Q (.str (toString a)) σ):KW C d (.type "str") [.int a] σ Q:=λA G D s v vs hA R hv hs=>by
 apply VR.typeE hv;cases hs with
 |cons h1 h2=>apply A6.nilE h2;apply VR.intE h1;intro _;exact P.str_of_int ha (A0.now (R.tok _) (.str _ _) q)
end
section
variable {C:Cx} {η:Env} {ν:List Str} {gl:LV} {own:Bool} {d:Nat} {m m':Loc} {σ σ':Sto}
variable {A:Around} {G D D₀ D₁:Gh} {s:Shared} {P:VP}
noncomputable def APart(C:Cx)(η:Env)(ν:List Str)(gl:LV)(own:Bool)(d:Nat):Option Expr->Loc->Sto->(VP)->Prop
 |none,m,σ,K=>K .none σ
 |some e,m,σ,K=>AT C η ν gl own d (eval e η) m σ K
theorem APart.run{e:Option Expr}{K:VP}(h:APart C η ν gl own d e m σ K)(hA:C9 C A d)(R:A3 C η ν gl own G D m σ s){Z:Value->Shared->Prop}
  (k:∀v s' x D' σ',DX G D D'->VR C.w D' v x->A3 C η ν gl own G D' m σ' s'->K x σ'->Z v s'):wpAny C.M A (evalPart e η) Z (λ_ _=>False) s:=by
 cases e with
 |none=>rw[evalPart_none];exact wpAny_pure (k _ _ _ _ _ (DX.refl _ _) .none R h)
 |some e=>rw[evalPart_some];exact AT.run h hA R k
theorem z2i{l u st:Option Expr}{p:Pos}(h:APart C η ν gl own d l m σ λL σ₁=>APart C η ν gl own d u m σ₁ λU σ₂=>APart C η ν gl own d st m σ₂ λS σ₃=>P (.slc L U S) σ₃):
  AT C η ν gl own d (eval (.Slice l u st p) η) m σ P:=λA G D s hA R=>
 wpAny_Slice (h.run hA R λv₁ s₁ L D₁ σ₁ a₁ b₁ c₁ e₁=>e₁.run hA c₁ λv₂ s₂ U D₂ σ₂ a₂ b₂ c₂ e₂=>e₂.run hA c₂ λv₃ s₃ S D₃ σ₃ a₃ b₃ c₃ e₃=>by
  obtain⟨R',dx⟩:=c₃.newF {cls:= .type "slice",data:= .fields #[v₁,v₂,v₃]}
  exact⟨.slc L U S,_,σ₃,((a₁.trans a₂).trans a₃).trans dx,.slc (z0T ..) (b₁.mono ((a₂.trans a₃).trans dx).sub) (b₂.mono (a₃.trans dx).sub) (b₃.mono dx.sub),R',e₃⟩)
structure B9(T:String)(name:Str)(id:String):Prop where
 pa:PlainAttrs T
 slot:Slot T name id
 ty:typeOf (.builtin id)=pure (.type "method_descriptor")
def TyR(C:Cx)(x:V)(σ:Sto)(T:String):Prop:=
 ∀G D s v,RelC C G D σ s->VR C.w D v x->s.TypeIs v T/\∀a,v= .ref a->∃ob,s.heap.get? a=some ob/\ob.dict=none
theorem z2c{x:Str}:TyR C (.str x) σ "str":=λG D s v R hv=>by apply VR.strE hv;intro _;exact⟨typeIs_str _ _ _,λa e=>by cases e⟩
theorem y0B{x:V}{xs:List V}{P:Sto->Prop}(h:A8 σ x (.list xs) P):TyR C x σ "list":=λG D s v R hv=>by
 apply A8.isListE h R hv;intro a vs n ho hr
 exact⟨⟨_,ho,rfl⟩,λb e=>by cases e;exact⟨_,ho,rfl⟩⟩
theorem y0A{x:V}{es:List (V×V)}{P:Sto->Prop}(h:A8 σ x (.dict es) P):TyR C x σ "dict":=λG D s v R hv=>by
 obtain⟨a,o,rfl,ho,⟨es,n,rfl,hr⟩,_⟩:=h.run R hv
 exact⟨⟨_,ho,rfl⟩,λb e=>by cases e;exact⟨_,ho,rfl⟩⟩
theorem z9W{T id:String}{o:Expr}{name:Str}{ap p:Pos}(hM:B9 T name id)(h:AT C η ν gl own d (eval o η) m σ λX σ₁=>TyR C X σ₁ T/\KW C d (.bi id) [X] σ₁ P)
  (hbase:autoParam (attributeBase o name η (eval o η)=eval o η) auR) (hline:autoParam ((ap.endLine==p.line)=true) auR):
  AT C η ν gl own d (eval (.Call (.Attribute o name ap) [] [] p) η) m σ P:=λA G D s hA R=>
 wpAny_Call_method_lateS hbase rfl hline (h.run hA R λv s₁ X D₁ σ₁ a b c hpp=>by obtain⟨hT,hk⟩:=hpp;exact⟨T,id,hM.pa,hM.slot,hM.ty,(hT _ _ _ _ c.toRelC b).1,(hT _ _ _ _ c.toRelC b).2,
  Calls.callWith_builtin rfl (evalArgs_none (z1e a (hk.inF hA c (.bi id) (.cons b .nil))))⟩)
theorem z3c{T id:String}{o e:Expr}{rest:List Expr}{name:Str}{ap p:Pos}(hM:B9 T name id)
  (h:AT C η ν gl own d (eval o η) m σ λX σ₁=>TyR C X σ₁ T/\AL C η ν gl own d (spliced (backTo p (starEach (e::rest) η))) m σ₁ λXs σ₂=>KW C d (.bi id) (X::Xs) σ₂ P)
  (hbase:autoParam (attributeBase o name η (eval o η)=eval o η) auR) (hline:autoParam ((ap.endLine==p.line)=true) auR)
  (he:autoParam (starEach (e::rest) η=(false,eval e η)::starEach rest η) auR) (hplain:autoParam ((backTo p (starEach rest η)).any (·.1)=false) auR)
  (hfew:autoParam (((backTo p (starEach (e::rest) η)).all (λx=> !x.1)&&(backToKw p (keywordEach [] η)).all (λx=>x.1.isSome)&&decide ((e::rest).length+([]:List Keyword).length+(if([]:List Keyword).isEmpty then 0 else 1)<30))=true) auR):
  AT C η ν gl own d (eval (.Call (.Attribute o name ap) (e::rest) [] p) η) m σ P:=λA G D s hA R=>
 wpAny_Call_method_lateS hbase hfew hline (h.run hA R λv s₁ X D₁ σ₁ a b c hpp=>by obtain⟨hT,hk⟩:=hpp;exact⟨T,id,hM.pa,hM.slot,hM.ty,(hT _ _ _ _ c.toRelC b).1,(hT _ _ _ _ c.toRelC b).2,by
  rw[he] at hk⊢
  exact Calls.callWith_builtin hplain (Calls.evalArgs_plain (AL.run hk hA c λvs s₂ Xs D₂ σ₂ a' b' c' q=>z1e (a.trans a') (q.inF hA c' (.bi id) (.cons (b.mono a'.sub) b'))))⟩)
theorem M_join:B9 "str" "join" "str.join":=⟨F.plainAttrs_str,F.slot_str_join,F.type_str_join⟩
theorem y1N{l r r2:Expr}{op op2:CmpOp}{p:Pos}(h:AT C η ν gl own d (eval l η) m σ λX σ₁=>AT C η ν gl own d (eval r η) m σ₁ λY σ₂=>AC2 C d (compareOp op) X Y σ₂ λZ σ₃=>
   ∃b,TR C d Z σ₃ b/\(b=false->P Z σ₃)/\(b=true->AT C η ν gl own d (eval r2 η) m σ₃ λW σ₄=>AC2 C d (compareOp op2) Y W σ₄ P))
  (hm2:autoParam (behindInMarks op2 r2=false) auR):
  AT C η ν gl own d (eval (.Compare l [op,op2] [r,r2] p) η) m σ P:=λA G D s hA R=>by
 rw[arm_eval_Compare]
 have e0:markedEach [op,op2] [r,r2] (evalEach [r,r2] η)=[eval r η,markedBehindIn op2 r2 (eval r2 η)]:=rfl
 rw[e0,markedBehindIn_of_false hm2]
 refine Bx (h.run hA R λv s₁ X D₁ σ₁ a b c e=> ?_)
 show wpAny C.M A (do
  let rv <-holding [v] (eval r η)
  standAt p
  let c <-holding [v,rv] (compareOp op v rv)
  release [v,rv] [c]
  if<-holding [c,rv] (truthy c) then compareChain p rv [op2] [eval r2 η] else pure c) _ _ s₁
 refine Bx (wpAny_holding (e.run hA c λu s₂ Y D₂ σ₂ a' b' c' e'=>Bx (wpAny_standAt (Bx (wpAny_holding ?_)))))
 refine By (e'.inF hA c' (b.mono a'.sub) b') (λz s₃ hpp=> ?_) λ_ _ x=>x
 obtain⟨Z,D₃,σ₃,a₃,b₃,c₃,t,ht,h1,h2⟩:=hpp
 refine Bx (PyProof.Rows.wpAny_release' (Bx (wpAny_holding (ht.inF hA c₃ b₃ λtk=> ?_))))
 have dx3:=(a.trans a').trans a₃
 cases t with
 |false=>exact wpAny_pure ⟨Z,D₃,σ₃,dx3,b₃,c₃.tok tk,h1 rfl⟩
 |true=>
  show wpAny C.M A (do
   let rv <-holding [u] (eval r2 η)
   standAt p
   operate [u,rv] (compareOp op2 u rv)) _ _ _
  refine Bx (wpAny_holding ((h2 rfl).run hA (c₃.tok tk) λu2 s₄ W D₄ σ₄ a₄ b₄ c₄ e₄=>Bx (wpAny_standAt (wpAny_operating ?_))))
  exact z1e (dx3.trans a₄) (e₄.inF hA c₄ (b'.mono (a₃.trans a₄).sub) b₄)
variable {K:Bool->Sto->Prop}
theorem y1K{l r r2:Expr}{op op2:CmpOp}{p:Pos}{whole:Sem Value}(h:AT C η ν gl own d (eval l η) m σ λX σ₁=>AT C η ν gl own d (eval r η) m σ₁ λY σ₂=>AC2 C d (compareOp op) X Y σ₂ λZ σ₃=>
   ∃b,TR C d Z σ₃ b/\(b=false->K false σ₃)/\(b=true->AT C η ν gl own d (eval r2 η) m σ₃ λW σ₄=>AC2 C d (compareOp op2) Y W σ₄ λZ2 σ₅=>TRX C d Z2 σ₅ K))
  (hm2:autoParam (behindInMarks op2 r2=false) auR):
  AB C η ν gl own d (isTrue (.Compare l [op,op2] [r,r2] p) η whole) m σ K:=λA G D s hA R=>by
 rw[arm_isTrue_Compare]
 have e0:markedEach [op,op2] [r,r2] (evalEach [r,r2] η)=[eval r η,markedBehindIn op2 r2 (eval r2 η)]:=rfl
 rw[e0,markedBehindIn_of_false hm2]
 refine Bx (h.run hA R λv s₁ X D₁ σ₁ a b c e=> ?_)
 show wpAny C.M A (do
  let rv <-holding [v] (eval r η)
  standAt p
  let c <-holding [v,rv] (compareOp op v rv)
  release [v,rv] [c]
  if<-holding [c,rv] (truthy c) then testChain p rv [op2] [eval r2 η] else pure false) _ _ s₁
 refine Bx (wpAny_holding (e.run hA c λu s₂ Y D₂ σ₂ a' b' c' e'=>Bx (wpAny_standAt (Bx (wpAny_holding ?_)))))
 refine By (e'.inF hA c' (b.mono a'.sub) b') (λz s₃ hpp=> ?_) λ_ _ x=>x
 obtain⟨Z,D₃,σ₃,a₃,b₃,c₃,t,ht,h1,h2⟩:=hpp
 refine Bx (PyProof.Rows.wpAny_release' (Bx (wpAny_holding (ht.inF hA c₃ b₃ λtk=> ?_))))
 have dx3:=(a.trans a').trans a₃
 cases t with
 |false=>exact wpAny_pure ⟨D₃,σ₃,dx3,c₃.tok tk,h1 rfl⟩
 |true=>
  show wpAny C.M A (do
   let rv <-holding [u] (eval r2 η)
   standAt p
   let c <-operate [u,rv] (compareOp op2 u rv)
   holding [c] (truthy c)) _ _ _
  refine Bx (wpAny_holding ((h2 rfl).run hA (c₃.tok tk) λu2 s₄ W D₄ σ₄ a₄ b₄ c₄ e₄=>Bx (wpAny_standAt (Bx (wpAny_operating ?_)))))
  refine By (e₄.inF hA c₄ (b'.mono (a₃.trans a₄).sub) b₄) (λz s₅ hpp=> ?_) λ_ _ x=>x
  obtain⟨Z2,D₅,σ₅,a₅,b₅,c₅,t2,ht2,hk⟩:=hpp
  refine wpAny_holding (ht2.inF hA c₅ b₅ λtk2=> ?_)
  exact⟨D₅,σ₅,(dx3.trans a₄).trans a₅,c₅.tok tk2,hk⟩
noncomputable def z1a(x:Str):List V:=x.cps.toList.map λc=>V.str ⟨#[c]⟩
variable {Q:List V->(Sto->Prop)->Sto->Prop}
theorem z9S [HM C]{iter tgt:Expr}(h:AT C η ν gl own d (eval iter η) m σ λX σ₁=>∃x,X= .str x/\Q (z1a x) (λ_=>True) σ₁):AI C η ν gl own d iter tgt m σ Q:=λA G D s hA R=>
 h.run hA R λv s₁ X D₁ σ₁ dx b c hpp=>by
  obtain⟨x,hX,q⟩:=hpp
  subst hX
  cases b with
  |str x t=>
   have rel:∀(i:Nat) v X,SignAt x i v->(z1a x)[i]? =some X->VR C.w D₁ v X:=by
    rintro i v X ⟨ch,u,hc,rfl⟩ hX
    have hc':x.cps.toList[i]? =some ch:=by simpa using hc
    simp only[z1a,Al,hc',Option.map_some,Option.some.injEq] at hX
    subst hX;exact .str _ _
   have len:x.cps.size=(z1a x).length:=by simp[z1a]
   have stay:∀h:Heap,y0y C D₁ (λ_=>True) h [s₁.heap.objs.size] [s₁.heap.objs.size]:=λh G' D' σ' s' R' hs hP' b hb hbw o' e'=>absurd hb hbw
   cases ha:x.cps.all (·<128)
   ·refine wpAny_pyIter_wide ha ⟨D₁,σ₁,_,λ_=>True,dx,⟨s₁.heap.objs.size,_,_,_,rfl,IW.ofWalks (Walks.strWide hA.hh s₁.heap.objs.size x t) len rel ?_ ?_ ?_,⟨_,Heap.get?_push_size _ rfl,rfl,rfl⟩,c.push _,c.offNew (z0q #[] 0),trivial,stay _⟩,q⟩
    ·rintro i h ⟨o,ho,hc,_⟩ a ha;simp at ha;subst ha;exact⟨_,ho,nfC (by rw[hc];exact frN (by decide))⟩
    ·rintro b hb hbw h _ e;exact hbw hb
    ·rintro i h ⟨o,ho,hc,_⟩;exact⟨_,_,ho,hc,by decide⟩
   ·refine wpAny_pyIter_ascii ha ⟨D₁,σ₁,_,λ_=>True,dx,⟨s₁.heap.objs.size,_,_,_,rfl,IW.ofWalks (Walks.strAscii hA.hh s₁.heap.objs.size x t) len rel ?_ ?_ ?_,⟨_,Heap.get?_push_size _ rfl,rfl,rfl⟩,c.push _,c.offNew (z0q #[] 0),trivial,stay _⟩,q⟩
    ·rintro i h ⟨o,ho,hc,_⟩ a ha;simp at ha;subst ha;exact⟨_,ho,nfC (by rw[hc];exact frN (by decide))⟩
    ·rintro b hb hbw h _ e;exact hbw hb
    ·rintro i h ⟨o,ho,hc,_⟩;exact⟨_,_,ho,hc,by decide⟩
end
class LkC (ns:List Str) (m:Loc) (x:Str) (X:outParam V):Prop where
 lk:Lk ns m x X
instance LkC.head {x:Str} {ns:List Str} {X:V} {m:Loc}:LkC (x::ns) (some X::m) x X:=⟨.head⟩
instance (priority:=low) LkC.tail {x y:Str} {ns:List Str} {X:V} {o:Option V} {m:Loc} [h:LkC ns m x X]:LkC (y::ns) (o::m) x X:=⟨.tail h.lk⟩
class PutC (ns:List Str) (m:Loc) (x:Str) (X:V) (m':outParam Loc):Prop where
 put:F4 ns m x X m'
instance PutC.head {x:Str} {ns:List Str} {X:V} {o:Option V} {m:Loc}:PutC (x::ns) (o::m) x X (some X::m):=⟨.head⟩
instance (priority:=low) PutC.tail {x y:Str} {ns:List Str} {X:V} {o:Option V} {m m':Loc} [h:PutC ns m x X m']:PutC (y::ns) (o::m) x X (o::m'):=⟨.tail h.put⟩
class GInC (gl:LV) (x:Str) (X:outParam V):Prop where
 mem:(x,X)∈gl
instance GInC.head {x:Str} {X:V} {r:LV}:GInC ((x,X)::r) x X:=⟨List.mem_cons_self⟩
instance (priority:=low) GInC.tail {x:Str} {X:V} {p:Str×V} {r:LV} [h:GInC r x X]:GInC (p::r) x X:=⟨List.mem_cons_of_mem _ h.mem⟩
section
variable {C:Cx} {η:Env} {ν:List Str} {gl:LV} {own:Bool} {d:Nat} {m m':Loc} {σ σ':Sto}
variable {A:Around} {G D D₀ D₁:Gh} {s:Shared} {Q:VP}
theorem F0.is2{w:World}{x:V}{o:Option Int}(h:F0 x o){v:Value}(hv:VR w D v x):∃l:Option (Int×Tok),v=partValue l/\l.map (·.1)=o:=by
 cases h with
 |none=>rw[VR.noneI hv];exact⟨Option.none,rfl,rfl⟩
 |int i=>apply VR.intE hv;intro _;exact⟨Option.some (_,_),rfl,rfl⟩
theorem z3G{x:Str}{L U:V}{lo hi:Option Int}(hL:F0 L lo)(hU:F0 U hi)(hl:x.length<=sizeLine)(q:Q (.str (Txt.slice x lo hi)) σ):C2 C d (.str x) (.slc L U .none) σ Q:=λA G D s o v hA R ho hv=>by
 obtain⟨_,rfl⟩:=VR.strI ho
 obtain⟨_,_,_,_,rfl,e,h1,h2,h3⟩:=VR.slcI hv
 ·skip
  obtain rfl:=VR.noneI h3
  obtain⟨l,rfl,rfl⟩:=hL.is2 h1
  obtain⟨u,rfl,rfl⟩:=hU.is2 h2
  refine⟨"str",_,typeIs_str _ _ _,F.slot_str_getitem.lookup,wpAny_getItem_str_slice (l:=l) (u:=u) (st:=none) ⟨_,R.d _ _ e,rfl,rfl⟩ rfl (post_val_or_str ⟨?_,λt' k=> ?_⟩)⟩
  ·exact Ac (Txt.slice_le x _ _) hl
  ·exact A0.now (R.tok k) (.str _ _) q
theorem y4Z{w:World}{vs:List Value}{xs:List Str}(h:A6 w D vs (xs.map V.str)):∃l:List (Str×Tok),vs=strValues l/\l.map (·.1)=xs:=by
 induction xs generalizing vs with
 |nil=>rw[A6.nilI h];exact⟨[],rfl,rfl⟩
 |cons x xs ih=>
  apply A6.consE h;intro _ _ h1 h2
  apply VR.strE h1;intro t
  obtain⟨l,rfl,e⟩:=ih h2
  exact⟨(x,t)::l,rfl,by rw[Ap,e]⟩
theorem z4a{x:V}{sep:Str}{xs:List Str}{P:Sto->Prop}(h:A8 σ x (.list (xs.map V.str)) P)(hok:JoinOk sep xs=true)(q:Q (.str (Txt.join sep xs)) σ):KW C d (.bi "str.join") [.str sep,x] σ Q:=λA G D s v vs hA R hv hs=>by
 apply VR.biE hv
 apply A6.consE hs;intro _ _ h1 h2
 ·skip
  apply A6.consE h2;intro _ _ h3 h4
  ·skip
   apply A6.nilE h4;apply VR.strE h1;intro _
   apply A8.isLE h R h3;intro a ws hL hr
   obtain⟨l,e,e2⟩:=y4Z hr
   have:ws=(strValues l).toArray:=by rw[<-e]
   rw[this] at hL
   exact SC.join hL e2 hok λt' k=>A0.now (R.tok k) (.str _ _) q
theorem z0d{x:Str}{p:Pos}{X:V}[h:LkC ν m x X](q:Q X σ):AT C η ν gl own d (eval (.Name x p) η) m σ Q:=z6W h.lk q
theorem z0o{x:Str}{p:Pos}{X:V}[h:GInC gl x X](q:Q X σ):AT C η ν gl own d (eval (.Name x p) η) m σ Q:=z1j h.mem q
theorem z2K{x:Str}{X:V}{m':Loc}{K:Loc->Prop}[h:PutC ν m x X m'](k:K m'):∃m',F4 ν m x X m'/\K m':=⟨m',h.put,k⟩
theorem y1O{x y:Expr}{r:List Expr}{p:Pos}(h:AT C η ν gl own d (eval x η) m σ λX σ₁=>∃b,TR C d X σ₁ b/\(b=true->AT C η ν gl own d (boolOp p .And (evalEach (y::r) η)) m σ₁ Q)/\(b=false->Q X σ₁)):
  AT C η ν gl own d (boolOp p .And (evalEach (x::y::r) η)) m σ Q:=y3s h
theorem y3u{x y:Expr}{r:List Expr}{p:Pos}(h:AT C η ν gl own d (eval x η) m σ λX σ₁=>∃b,TR C d X σ₁ b/\(b=true->Q X σ₁)/\(b=false->AT C η ν gl own d (boolOp p .Or (evalEach (y::r) η)) m σ₁ Q)):
  AT C η ν gl own d (boolOp p .Or (evalEach (x::y::r) η)) m σ Q:=y4w h
theorem z91{x:Expr}{p:Pos}(h:AT C η ν gl own d (eval x η) m σ Q):AT C η ν gl own d (boolOp p .And (evalEach [x] η)) m σ Q:=h
theorem y1P{x:Expr}{p:Pos}(h:AT C η ν gl own d (eval x η) m σ Q):AT C η ν gl own d (boolOp p .Or (evalEach [x] η)) m σ Q:=h
variable {QS:FP} {rest:List Stmt} {X:V}
theorem z1u{K:VP}(q:K .none σ):APart C η ν gl own d none m σ K:=q
theorem z1v{e:Expr}{K:VP}(q:AT C η ν gl own d (eval e η) m σ K):APart C η ν gl own d (some e) m σ K:=q
theorem C3:∀p∈([]:LV),z04 C p.1 p.2:=λp h=>by cases h
theorem y46{x:Str}{X:V}{r:LV}(h:z04 C x X)(t:∀p∈r,z04 C p.1 p.2):∀p∈(x,X)::r,z04 C p.1 p.2:=λp hp=>by
 rcases Ae.mp hp with rfl|hp
 ·exact h
 ·exact t p hp
theorem z4d{n:String}:z1g C (.bi n):=trivial
theorem z4s{n:String}:z1g C (.type n):=trivial
theorem z9w{K:W.Frag}(H:K.In C.base){a:Addr}{o:Obj}{fd:FuncData}(e1:K.lookup a=some o)(e2:o.data= .func fd):z1g C (.ref a):=⟨o,fd,H a o e1,e2⟩
theorem fnc{a:Addr}{xs:List V}(h:CW C d (.ref a) xs σ Q):KW C d (.ref a) xs σ Q:=z61 h
theorem z0j{sc:Scope}{η env':Env}{x:Str}(hsc:env'.scope=relabel sc η)(h:sc.names.lookup x=some .local:=by decide+kernel):env'.kindOf x=some .local:=by
 show env'.scope.names.lookup x=some .local
 rw[hsc];exact lookup_relabel_local h
section
variable {x:Str} {pp:Pos} {caps:List Str} {elt c:Expr} {ms:Loc} {P:Sto->Prop} {Z:List V->Sto->Prop}
theorem z0N{f:V->V}(hk:η.kindOf x=some .local)(hP:P σ)(xs:List V):
  ∀(acc:List V) (o:Option V),(∀X∈xs,∀K:VP,K (f X) σ->AT C η (x::caps) gl false d (eval elt η) (some X::ms) σ K)->Z (acc++xs.map f) σ->
   z0P C η (x::caps) gl d (.Name x pp) elt [] P Z xs acc (o::ms) σ:=by
 induction xs with
 |nil=>intro acc o _ q;simpa[z0P] using q
 |cons X xs ih=>
  intro acc o h q
  refine z0w F4.head ?_ (.inr hk)
  refine⟨λ_=>h X (.head _) _ ⟨hP,ih (acc++[f X]) (some X) (λY hY=>h Y (.tail _ hY)) (by simpa using q)⟩,λe=>by cases e⟩
theorem z1S{f:V->V}{t:V->Bool}(hk:η.kindOf x=some .local)(hP:P σ)(xs:List V):
  ∀(acc:List V) (o:Option V),(∀X∈xs,∀K:Bool->Sto->Prop,K (t X) σ->AB C η (x::caps) gl false d (isTrue c η (eval c η)) (some X::ms) σ K)->
   (∀X∈xs,t X=true->∀K:VP,K (f X) σ->AT C η (x::caps) gl false d (eval elt η) (some X::ms) σ K)->Z (acc++(xs.filter t).map f) σ->
   z0P C η (x::caps) gl d (.Name x pp) elt [c] P Z xs acc (o::ms) σ:=by
 induction xs with
 |nil=>intro acc o _ _ q;simpa[z0P] using q
 |cons X xs ih=>
  intro acc o ht h q
  refine z0w F4.head ?_ (.inr hk)
  refine ht X (.head _) _ ⟨λe=>h X (.head _) e _ ⟨hP,ih (acc++[f X]) (some X) (λY hY=>ht Y (.tail _ hY)) (λY hY=>h Y (.tail _ hY)) ?_⟩,λe=>⟨hP,ih acc (some X) (λY hY=>ht Y (.tail _ hY)) (λY hY=>h Y (.tail _ hY)) ?_⟩⟩
  ·simpa[List.filter_cons,e] using q
  ·simpa[List.filter_cons,e] using q
theorem z73{R:V->V->Prop}(hk:η.kindOf x=some .local)(hP:P σ)(xs:List V):
  ∀(acc:List V) (o:Option V),(∀X∈xs,∀K:VP,(∀Y,R X Y->K Y σ)->AT C η (x::caps) gl false d (eval elt η) (some X::ms) σ K)->
   (∀ys:List V,ys.length=xs.length->(∀y∈ys,∃X∈xs,R X y)->Z (acc++ys) σ)->z0P C η (x::caps) gl d (.Name x pp) elt [] P Z xs acc (o::ms) σ:=by
 induction xs with
 |nil=>intro acc o _ q;simpa[z0P] using q [] rfl (λy hy=>by cases hy)
 |cons X xs ih=>
  intro acc o h q
  refine z0w F4.head ?_ (.inr hk)
  refine⟨λ_=>h X (.head _) _ λY hY=>⟨hP,ih (acc++[Y]) (some X) (λY hY=>h Y (.tail _ hY)) λys hl hys=> ?_⟩,λe=>by cases e⟩
  have:=q (Y::ys) (by simp[hl]) (λy hy=>by
   rcases Ae.mp hy with rfl|hy
   ·exact⟨X,.head _,hY⟩
   ·obtain⟨Z,h1,h2⟩:=hys y hy;exact⟨Z,.tail _ h1,h2⟩)
  simpa using this
end
section
variable {elt tgt iter:Expr} {ifs:List Expr} {scope:Scope} {pos p' p:Pos} {y:Str} {ms:Loc} {QS:FP}
theorem z0H(x:Str)(caps:List Str)(gl':LV)
  (hok:z1x scope η.scope ν [x] caps (gl'.map (·.1))=true) (hgl:∀p∈gl',z04 C p.1 p.2) (hcaps:D7 ν m caps ms)
  (h:AI C η ν gl own d iter tgt m σ λxs Pp σ₁=>xs.length<=sizeLine/\∀env',env'.scope=relabel scope η->
   z0P C env' (x::caps) gl' d tgt elt ifs Pp (λys σ₂=>Q (.lst ys) σ₂) xs [] (none::ms) σ₁)
  (hs:autoParam (∀x,foldedSetIterable iter η x=pure x) auF):
  AT C η ν gl own d (eval (.ListComp elt [⟨tgt,iter,ifs,0⟩] scope pos) η) m σ Q:=z4Y [x] caps gl' hok hgl hcaps h hs
theorem z9r(x:Str)(caps:List Str)(gl':LV)
  (hok:z1x scope η.scope ν [x] caps (gl'.map (·.1))=true) (hgl:∀p∈gl',z04 C p.1 p.2) (hcaps:D7 ν m caps ms)
  (h:AI C η ν gl own d iter tgt m σ λxs Pp σ₁=>xs.length<=sizeLine/\∀env',env'.scope=relabel scope η->
   z0P C env' (x::caps) gl' d tgt elt ifs Pp (λys σ₂=>∀a o,Q (.ref a) ((a,o,.list ys)::σ₂)) xs [] (none::ms) σ₁)
  (hs:autoParam (∀x,foldedSetIterable iter η x=pure x) auF):
  AT C η ν gl own d (eval (.ListComp elt [⟨tgt,iter,ifs,0⟩] scope pos) η) m σ Q:=z9V [x] caps gl' hok hgl hcaps h hs
theorem z10(x:Str)(caps:List Str)(gl':LV)
  (hsw:swapsWith (.ListComp elt [⟨tgt,iter,ifs,0⟩] scope pos) (some (.Name y p')) p.line η=pure true)
  (hok:z1x scope η.scope ν [x] caps (gl'.map (·.1))=true) (hgl:∀p∈gl',z04 C p.1 p.2) (hcaps:D7 ν m caps ms)
  (h:AI C η ν gl own d iter tgt m σ λxs Pp σ₁=>xs.length<=sizeLine/\∀env',env'.scope=relabel scope η->
   z0P C env' (x::caps) gl' d tgt elt ifs Pp (λys σ₂=>∃m',F4 ν m y (.lst ys) m'/\QS .next m' σ₂) xs [] (none::ms) σ₁)
  (hown:autoParam (own=true) auR) (hs:autoParam (∀x,foldedSetIterable iter η x=pure x) auF):
  AS C η ν gl own d (exec (.Assign [.Name y p'] (.ListComp elt [⟨tgt,iter,ifs,0⟩] scope pos) p) η) m σ QS:=z5z [x] caps gl' hsw hok hgl hcaps h hown hs
theorem z2V(x:Str)(caps:List Str)(gl':LV)
  (hsw:swapsWith (.ListComp elt [⟨tgt,iter,ifs,0⟩] scope pos) (some (.Name y p')) p.line η=pure true)
  (hok:z1x scope η.scope ν [x] caps (gl'.map (·.1))=true) (hgl:∀p∈gl',z04 C p.1 p.2) (hcaps:D7 ν m caps ms)
  (h:AI C η ν gl own d iter tgt m σ λxs Pp σ₁=>xs.length<=sizeLine/\∀env',env'.scope=relabel scope η->
   z0P C env' (x::caps) gl' d tgt elt ifs Pp (λys σ₂=>∀a o,∃m',F4 ν m y (.ref a) m'/\QS .next m' ((a,o,.list ys)::σ₂)) xs [] (none::ms) σ₁)
  (hown:autoParam (own=true) auR) (hs:autoParam (∀x,foldedSetIterable iter η x=pure x) auF):
  AS C η ν gl own d (exec (.Assign [.Name y p'] (.ListComp elt [⟨tgt,iter,ifs,0⟩] scope pos) p) η) m σ QS:=z5A [x] caps gl' hsw hok hgl hcaps h hown hs
end
theorem z2A{Xs:List V}(q:Q (.lst Xs) σ):NLq Q Xs σ:=Or.inl q
theorem z8g{n:Int}(h:n.natAbs<2^64):n.natAbs.log2<1920:=by
 by_cases h0:n.natAbs=0
 ·rw[h0];decide
 ·exact AF ((Nat.log2_lt h0).mpr h) (by decide)
theorem y3B{a b:Bool}(q:Q (.bool (a==b)) σ):AC2 C d (compareOp .Is) (.bool a) (.bool b) σ Q:=λA G D s v u hA R hv hu=>by
 apply VR.boolE hv;apply VR.boolE hu
 exact Bx (m:=isSame (.bool a) (.bool b)) (wpAny_pure (wpAny_pure (A0.now R (z8R a b▸ .bool _) q)))
theorem z9u{a b:Bool}(q:Q (.bool (!(a==b))) σ):AC2 C d (compareOp .IsNot) (.bool a) (.bool b) σ Q:=λA G D s v u hA R hv hu=>by
 apply VR.boolE hv;apply VR.boolE hu
 exact Bx (m:=isSame (.bool a) (.bool b)) (wpAny_pure (wpAny_pure (A0.now R (z8R a b▸ .bool _) q)))
theorem z0i{n:Nat}(h:n<=100000):n<=sizeLine:=nD h rfl
theorem qB{a b:Bool}(q:Q (.bool a) σ)(e:a=b):Q (.bool b) σ:=e▸q
theorem z9f{xs:List V}{lo hi st:Option Int}:∀x∈slL xs lo hi st,x∈xs:=λx h=>by
 unfold slL at h
 obtain⟨i,_,e⟩:=List.mem_filterMap.mp h
 exact Ak e
theorem y4m{a b:Int}{n:Nat}(h0:0<=a)(h1:b<=n):(sliceRange a b 1).length<=n:=by
 unfold sliceRange
 rw[Ab,BA,if_pos (by decide)]
 split
 ·rw[Int.ediv_one,Int.add_sub_cancel];exact Int.toNat_le.mpr (AQ (Int.sub_le_self b h0) h1)
 ·exact Nat.zero_le _
theorem y4W(l u:Option Int)(n:Nat):(sliceRange (sliceBounds l u none n).1 (sliceBounds l u none n).2.1 (sliceBounds l u none n).2.2).length<=n:=by
 refine y4m ?_ ?_
 ·cases l with
  |none=>exact Int.le_refl 0
  |some i=>exact Int.le_max_left 0 _
 ·cases u with
  |none=>exact Int.le_refl _
  |some i=>exact Int.max_le.mpr ⟨Bl n,Int.min_le_right _ _⟩
theorem y4l{xs:List V}{lo hi:Option Int}:(slL xs lo hi none).length<=xs.length:=by
 unfold slL
 exact Ac (List.length_filterMap_le _ _) (y4W _ _ _)
end
set_option genInjectivity false in
structure KK(prog:Program)(w:World)(K:Type)[DecidableEq K] where
 knd:KeyKind prog w K
 v:K->V
 isOf:∀{D:Gh} {x:Value} {k:K},VR w D x (v k)->knd.is k x=true
 ofIs:∀{D:Gh} {x:Value} {k:K},knd.is k x=true->VR w D x (v k)
 hashOf:∀{k:K} {h:Int},KH w (v k) h->h=knd.hash k
 ofHash:∀{k:K},KH w (v k) (knd.hash k)
 part:∀{D:Gh} {x:Value} {k:K},VR w D x (v k)->(keyPart x).isSome=true
noncomputable def KK.int(prog:Program)(w:World):KK prog w Int where
 knd:=intKind prog w
 v:=V.int
 isOf:=λh=>by apply VR.intE h;intro _;exact BD _
 ofIs:=λ{D x k} h=>by obtain⟨t,rfl⟩:=Value.isInt_shape (show Value.isInt k x=true from h);exact .int _ _
 hashOf:=λh=>h
 ofHash:=rfl
 part:=λh=>by apply VR.intE h;intro _;rfl
noncomputable def KK.str(prog:Program)(w:World):KK prog w Str where
 knd:=strKind prog w
 v:=V.str
 isOf:=λh=>by apply VR.strE h;intro _;exact BD _
 ofIs:=λ{D x k} h=>by obtain⟨t,rfl⟩:=Value.isStrOf_shape (show Value.isStrOf k x=true from h);exact .str _ _
 hashOf:=λh=>h
 ofHash:=rfl
 part:=λh=>by apply VR.strE h;intro _;rfl
section
variable {C:Cx} {d:Nat} {σ:Sto} {Q:VP} {G D:Gh} {s:Shared} {A:Around} {K:Type} [DecidableEq K]
noncomputable def z02(kk:KK C.prog C.w K)(kvs:List (K×V)):List (V×V):=kvs.map λp=>(kk.v p.1,p.2)
class inductive KR (w:World) (D:Gh):List (K×Value)->List (K×V)->Prop
 |nil:KR w D [] []
 |cons {k:K} {v:Value} {x:V} {l:List (K×Value)} {r:List (K×V)}:VR w D v x->KR w D l r->KR w D ((k,v)::l) ((k,x)::r)
theorem KR.keys{w:World}{l:List (K×Value)}{r:List (K×V)}(h:KR w D l r):l.map (·.1)=r.map (·.1):=by
 induction h with
 |nil=>rfl
 |cons _ _ ih=>simp[ih]
theorem KR.length{w:World}{l:List (K×Value)}{r:List (K×V)}(h:KR w D l r):l.length=r.length:=by
 induction h with
 |nil=>rfl
 |cons _ _ ih=>simp[ih]
theorem F5.pairs(kk:KK C.prog C.w K){es:List DictEntry}{kvs:List (K×V)}(h:F5 C.w D es (z02 kk kvs)):
  ∃cvs,Pairs kk.knd es cvs/\KR C.w D cvs kvs/\∀e∈es,∃k,kk.knd.is k e.key=true/\e.hash=kk.knd.hash k:=by
 induction kvs generalizing es with
 |nil=>rw[F5.nilI h];exact⟨[],.nil,.nil,λ_ h=>by cases h⟩
 |cons p kvs ih=>
  obtain⟨e,r,rfl,h1,h2,h3,h4⟩:=F5.consI h
  obtain⟨cvs,p1,q,r⟩:=ih h4
  refine⟨(p.1,e.val)::cvs,.cons (kk.isOf h2) rfl p1,.cons h3 q,λe' he=> ?_⟩
  rcases Ae.mp he with rfl|he
  ·exact⟨_,kk.isOf h2,kk.hashOf h1⟩
  ·exact r e' he
theorem F5.ofPairs(kk:KK C.prog C.w K){es:List DictEntry}{cvs:List (K×Value)}{kvs:List (K×V)}(p:Pairs kk.knd es cvs)(q:KR C.w D cvs kvs)(r:∀e∈es,∃k,kk.knd.is k e.key=true/\e.hash=kk.knd.hash k):
  F5 C.w D es (z02 kk kvs):=by
 induction q generalizing es with
 |nil=>cases p;exact .nil
 |cons h1 _ ih=>
  cases p with
  | @cons e _ es _ p1 p2 p3=>
   obtain⟨k',i1,i2⟩:=r e (.head _)
   have ek:=kk.knd.inj _ _ _ i1 p1
   subst ek
   exact .cons (by rw[i2];exact kk.ofHash) (kk.ofIs p1) (by rw[p2];exact h1) (ih p3 λe he=>r e (.tail _ he))
theorem A8.isD(kk:KK C.prog C.w K){x:V}{kvs:List (K×V)}{P:Sto->Prop}(h:A8 σ x (.dict (z02 kk kvs)) P)(hn:(kvs.map (·.1)).Nodup)(R:RelC C G D σ s){v:Value}(hv:VR C.w D v x):
  ∃a cvs,v= .ref a/\s.heap.DictOf kk.knd a cvs/\KR C.w D cvs kvs:=by
 obtain⟨a,o,rfl,ho,⟨es,n,rfl,hr⟩,_⟩:=h.run R hv
 obtain⟨cvs,p,q,r⟩:=F5.pairs kk hr
 exact⟨a,cvs,rfl,⟨_,es,n,ho,⟨rfl,rfl,rfl⟩,rfl,λe he=>r e (by simpa using he),p,by rw[q.keys];exact hn⟩,q⟩
inductive DcH(C:Cx)(kk:KK C.prog C.w K)(D:Gh)(s:Shared)(a:Addr)(kvs:List (K×V)):Prop
 |mk (cvs:List (K×Value)):s.heap.DictOf kk.knd a cvs->KR C.w D cvs kvs->DcH C kk D s a kvs
theorem RelC.dcH(R:RelC C G D σ s)(kk:KK C.prog C.w K){kvs:List (K×V)}{a:Addr}{o:Obj}(hm:(a,o,AO.dict (z02 kk kvs))∈σ)(hn:(kvs.map (·.1)).Nodup):DcH C kk D s a kvs:=by
 obtain⟨b,cvs,e,hD,hk⟩:=(A8.refD hm).isD kk hn R (.ref a)
 cases e
 exact⟨cvs,hD,hk⟩
noncomputable def vAt(kvs:List (K×V))(k:K):Option V:=(kvs.find? λp=>p.1=k).map (·.2)
theorem KR.at{w:World}{l:List (K×Value)}{r:List (K×V)}(h:KR w D l r)(k:K):
  (valueAt l k=none/\vAt r k=none)∨∃v x,valueAt l k=some v/\vAt r k=some x/\VR w D v x:=by
 induction h with
 |nil=>exact .inl ⟨rfl,rfl⟩
 | @cons k' v x l r hv _ ih=>
  by_cases e:k'=k
  ·exact .inr ⟨v,x,by simp[valueAt,e],by simp[vAt,e],hv⟩
  ·have e1:valueAt ((k',v)::l) k=valueAt l k:=by simp[valueAt,List.find?_cons,e]
   have e2:vAt ((k',x)::r) k=vAt r k:=by simp[vAt,List.find?_cons,e]
   rw[e1,e2];exact ih
theorem y0b(kk:KK C.prog C.w K){x X:V}{kvs:List (K×V)}{k:K}{P:Sto->Prop}(h:A8 σ x (.dict (z02 kk kvs)) P)(hn:(kvs.map (·.1)).Nodup)(hx:vAt kvs k=some X)(q:Q X σ):C2 C d x (kk.v k) σ Q:=λA G D s o v hA R ho hv=>by
 obtain⟨a,cvs,rfl,hD,hk⟩:=h.isD kk hn R ho
 rcases hk.at k with⟨_,e⟩|⟨u,Y,e1,e2,hu⟩
 ·rw[hx] at e;cases e
 ·rw[hx] at e2;cases e2
  exact⟨"dict",_,hD.typeIs,slot_dict_getitem.lookup,wpAny_getItem_of (kk.isOf hv) hD.mapOf e1 (A0.now (R.tok _) hu q)⟩
def z0J(C:Cx):Prop:=∃o,C.base.get? sysModules=some o
theorem RelC.notSys(R:RelC C G D σ s)(hs:z0J C){a:Addr}{o:Obj}{x:AO}(hm:(a,o,x)∈σ):(a==sysModules)=false:=by
 obtain⟨ob,hb⟩:=hs
 cases e:a==sysModules with
 |false=>rfl
 |true=>
  have:a=sysModules:=by simpa using e
  have h1:=R.offG a (z3h hm)
  rw[this,R.base _ _ hb] at h1;cases h1
theorem y2X(kk:KK C.prog C.w K){a:Addr}{o:Obj}{kvs:List (K×V)}{k:K}(hs:z0J C)(hm:(a,o,AO.dict (z02 kk kvs))∈σ)(hn:(kvs.map (·.1)).Nodup)(q:Q (.bool (vAt kvs k).isSome) σ):
  AC2 C d (compareOp .In) (kk.v k) (.ref a) σ Q:=λA G D s v u hA R hv hu=>by
 obtain⟨b,cvs,e,hD,hk⟩:=(A8.refD hm).isD kk hn R hu
 obtain rfl:=VR.refI hu;cases e
 refine wpAny_in_of (kk.isOf hv) (R.notSys hs hm) hD.mapOf ?_
 have:(valueAt cvs k).isSome=(vAt kvs k).isSome:=by
  rcases hk.at k with⟨e1,e2⟩|⟨_,_,e1,e2,_⟩<;>rw[e1,e2]<;>rfl
 rw[this]
 exact A0.now (R.tok _) (.bool _) q
end
section
variable {C:Cx} {η:Env} {ν:List Str} {gl:LV} {own:Bool} {d:Nat} {m m':Loc} {σ:Sto} {σ':Obj->Sto} {Q:VP} {G D:Gh} {s:Shared} {A:Around} {K:Type} [DecidableEq K]
set_option tactic.hygienic true in
theorem z43{a:Addr}{o:Obj}{xs:List V}{X:V}(U:∀o',F9 a o (.list xs) o' (.list (xs++[X])) σ (σ' o'))(hl:xs.length<=sizeLine)(q:∀o',Q .none (σ' o')):
  KW C d (.bi "list.append") [.ref a,X] σ Q:=λA G D s v vs hA R hv hs=>by
 obtain rfl:=VR.biI hv
 obtain⟨_,_,rfl,h1,h2⟩:=A6.consI hs
 ·skip
  obtain⟨_,_,rfl,h3,h4⟩:=A6.consI h2
  ·skip
   obtain rfl:=A6.nilI h4;obtain rfl:=VR.refI h1
   have hm:(a,o,AO.list xs)∈σ:=by obtain⟨u,w,e,_⟩:=(U o).split;rw[e];simp
   obtain⟨ws,n,rfl,hr⟩:=R.sto _ hm
   have ho:s.heap.get? a=some (z0q ws n):=R.pl _ hm
   have hz0:True:=trivial
   have hz:ws.size=xs.length:=by rw[<-hr.length];simp
   refine PyProof.Rows.append_at (its:=ws) (n:=n) ho (λh' hs' ho'=> ?_) (by rw[hz];exact hl)
   rename_i y
   refine⟨.none,D,σ' (z0q (ws.push y) (n+1)),DX.refl _ _,.none,?_,q _⟩
   have:=R.upd (U (z0q (ws.push y) (n+1))) s.toks (z0C _ _) hs' rfl ho' ⟨_,_,rfl,by simpa using hr.append (.cons h3 .nil)⟩
   exact this
noncomputable def z2t(kvs:List (K×V))(k:K)(x:V):List (K×V):=if kvs.any (λkv=>kv.1=k) then kvs.map (λkv=>if kv.1=k then(kv.1,x) else kv) else kvs++[(k,x)]
theorem KR.append{w:World}{l l':List (K×Value)}{r r':List (K×V)}(h:KR w D l r)(h':KR w D l' r'):KR w D (l++l') (r++r'):=by
 induction h with
 |nil=>exact h'
 |cons hv _ ih=>exact .cons hv ih
theorem KR.map{w:World}{l:List (K×Value)}{r:List (K×V)}(h:KR w D l r){k:K}{v:Value}{x:V}(hv:VR w D v x):
  KR w D (l.map λkv=>if kv.1=k then(kv.1,v) else kv) (r.map λkv=>if kv.1=k then(kv.1,x) else kv):=by
 induction h with
 |nil=>exact .nil
 | @cons k' u y l r hu _ ih=>
  simp only[Ap]
  by_cases e:k'=k
  ·rw[if_pos e,if_pos e];exact .cons hv ih
  ·rw[if_neg e,if_neg e];exact .cons hu ih
theorem KR.any{w:World}{l:List (K×Value)}{r:List (K×V)}(h:KR w D l r)(k:K):(l.any λkv=>kv.1=k)=(r.any λkv=>kv.1=k):=by
 induction h with
 |nil=>rfl
 |cons _ _ ih=>simp only[List.any_cons,ih]
theorem KR.stored{w:World}{l:List (K×Value)}{r:List (K×V)}(h:KR w D l r){k:K}{v:Value}{x:V}(hv:VR w D v x):KR w D (PySem.stored l k v) (z2t r k x):=by
 unfold PySem.stored z2t
 rw[h.any k]
 split
 ·exact h.map hv
 ·exact h.append (.cons hv .nil)
theorem HR.ofDict(kk:KK C.prog C.w K){h:Heap}{a:Addr}{cvs:List (K×Value)}{kvs:List (K×V)}(hD:h.DictOf kk.knd a cvs)(hk:KR C.w D cvs kvs):
  ∃o,h.get? a=some o/\HR C.w D o (.dict (z02 kk kvs)):=by
 obtain⟨o,es,ep,ho,⟨hc,hd,hsl⟩,hdat,hks,hp,_⟩:=hD
 have eo:o=z1G es ep:=by cases o;simp_all
 exact⟨o,ho,es,ep,eo,F5.ofPairs kk hp hk λe he=>hks e (by simpa using he)⟩
theorem z6J(kk:KK C.prog C.w K){a:Addr}{o:Obj}{kvs:List (K×V)}{k:K}{X:V}{key v:Value}{Z:Unit->Shared->Prop}{E:Value->Shared->Prop}(U:∀o',F9 a o (.dict (z02 kk kvs)) o' (.dict (z02 kk (z2t kvs k X))) σ (σ' o'))(hn:(kvs.map (·.1)).Nodup)(hl:kvs.length<=sizeLine)
  (R:RelC C G D σ s) (hkey:VR C.w D key (kk.v k)) (hv:VR C.w D v X) (q:∀o' s',RelC C G D (σ' o') s'->Z () s'):wpAny C.M A (setItem (.ref a) key v) Z E s:=by
 have hm:(a,o,AO.dict (z02 kk kvs))∈σ:=by obtain⟨u,w,e,_⟩:=(U o).split;rw[e];simp
 obtain⟨cvs,hD,hk⟩:=RelC.dcH R kk hm hn
 refine wpAny_setItem_pairs (kk.isOf hkey) hD (λh' hD' hs'=> ?_) (by rw[hk.length];exact hl)
 obtain⟨o',ho',hr'⟩:=HR.ofDict kk hD' (hk.stored hv)
 exact q o' _ (R.upd (U o') (s.toks+1) (z0C _ _) hs' rfl ho' hr')
end
section
variable {C:Cx} {η:Env} {ν:List Str} {gl:LV} {own:Bool} {d:Nat} {m m':Loc} {σ:Sto} {σ':Obj->Sto} {Q:VP} {G D:Gh} {s:Shared} {A:Around} {K:Type} [DecidableEq K]
theorem y3J(kk:KK C.prog C.w K){a:Addr}{o:Obj}{kvs:List (K×V)}{k:K}{X:V}(hs:z0J C)(hm:(a,o,AO.dict (z02 kk kvs))∈σ)(hn:(kvs.map (·.1)).Nodup)(q:Q ((vAt kvs k).getD X) σ):
  KW C d (.bi "dict.get") [.ref a,kk.v k,X] σ Q:=λA G D s v vs hA R hv hss=>by
 apply VR.biE hv
 apply A6.consE hss;intro _ _ h1 h2
 ·skip
  apply A6.consE h2;intro _ _ h3 h4
  ·skip
   cases h4 with
   |cons h5 h6=>
    cases h6;apply VR.refE h1
    obtain⟨cvs,hD,hk⟩:=RelC.dcH R kk hm hn
    refine call_meetsIn F.slot_dict_get hD.typeIs F.entry_dict_get (F.args_dict_get_3 _ _ _) (meets_dict_get_default kk.knd a (kk.isOf h3) (R.notSys hs hm) _) ⟨_,hD.mapOf,?_⟩
    rcases hk.at k with⟨e1,e2⟩|⟨_,_,e1,e2,hu⟩
    ·rw[e1];rw[e2] at q;exact A0.now (R.tok _) h5 q
    ·rw[e1];rw[e2] at q;exact A0.now (R.tok _) hu q
theorem y3I(kk:KK C.prog C.w K){a:Addr}{o:Obj}{kvs:List (K×V)}{k:K}(hs:z0J C)(hm:(a,o,AO.dict (z02 kk kvs))∈σ)(hn:(kvs.map (·.1)).Nodup)(q:Q ((vAt kvs k).getD .none) σ):
  KW C d (.bi "dict.get") [.ref a,kk.v k] σ Q:=λA G D s v vs hA R hv hss=>by
 apply VR.biE hv
 apply A6.consE hss;intro _ _ h1 h2
 ·skip
  apply A6.consE h2;intro _ _ h3 h4
  ·skip
   apply A6.nilE h4;apply VR.refE h1
   obtain⟨cvs,hD,hk⟩:=RelC.dcH R kk hm hn
   refine call_meetsIn F.slot_dict_get hD.typeIs F.entry_dict_get (F.args_dict_get_2 _ _) (meets_dict_get kk.knd a (kk.isOf h3) (R.notSys hs hm)) ⟨_,hD.mapOf,?_⟩
   rcases hk.at k with⟨e1,e2⟩|⟨_,_,e1,e2,hu⟩
   ·rw[e1];rw[e2] at q;exact A0.now (R.tok _) .none q
   ·rw[e1];rw[e2] at q;exact A0.now (R.tok _) hu q
noncomputable def z21(kvs:List (K×V))(k:K):List (K×V):=kvs.filter λkv=>decide (kv.1≠k)
theorem KR.without{w:World}{l:List (K×Value)}{r:List (K×V)}(h:KR w D l r)(k:K):KR w D (PySem.without l k) (z21 r k):=by
 unfold PySem.without z21
 induction h with
 |nil=>exact .nil
 | @cons k' u y l r hu _ ih=>
  by_cases e:k'=k
  ·simpa[List.filter_cons,e] using ih
  ·simpa[List.filter_cons,e] using KR.cons hu ih
def SetR(C:Cx)(d:Nat)(x i v:V)(σ:Sto)(P:Sto->Prop):Prop:=
 ∀A G D s o k u,C9 C A d->RelC C G D σ s->VR C.w D o x->VR C.w D k i->VR C.w D u v->wpAny C.M A (setItem o k u) (λ_ s'=>∃D' σ',DX G D D'/\RelC C G D' σ' s'/\P σ') (λ_ _=>False) s
theorem z48(kk:KK C.prog C.w K){a:Addr}{o:Obj}{kvs:List (K×V)}{k:K}{X:V}{P:Sto->Prop}(U:∀o',F9 a o (.dict (z02 kk kvs)) o' (.dict (z02 kk (z2t kvs k X))) σ (σ' o'))(hn:(kvs.map (·.1)).Nodup)(hl:kvs.length<=sizeLine)(q:∀o',P (σ' o')):
  SetR C d (.ref a) (kk.v k) X σ P:=λA G D s o k' u hA R ho hk hu=>by
 cases ho
 exact z6J kk U hn hl R hk hu λo' s' R'=>⟨D,_,DX.refl _ _,R',q o'⟩
variable {QS:FP}
theorem y0v{o i value:Expr}{p' p:Pos}(h:AT C η ν gl own d (eval value η) m σ λX σ₁=>AT C η ν gl own d (eval o η) m σ₁ λY σ₂=>AT C η ν gl own d (eval i η) m σ₂ λI σ₃=>SetR C d Y I X σ₃ λσ₄=>QS .next m σ₄)
  (hs:autoParam (swapsWith value (some (.Subscript o i p')) p.line η=pure false) auR):AS C η ν gl own d (exec (.Assign [.Subscript o i p'] value p) η) m σ QS:=λA G D s hA R=>
 wpAny_Assign_Subscript (h.run hA R λv s₁ X D₁ σ₁ a b c e=>e.run hA c λu s₂ Y D₂ σ₂ a' b' c' e'=>e'.run hA c' λw s₃ I D₃ σ₃ a₃ b₃ c₃ e₃=>
  By (e₃ A _ D₃ s₃ u w v hA c₃.lifted (b'.mono a₃.sub) b₃ (b.mono (a'.trans a₃).sub)) (λ_ s₄ hpp=>by obtain⟨D₄,σ₄,dx,R₄,q⟩:=hpp;exact⟨.next,m,D₄,σ₄,((a.trans a').trans a₃).trans (c₃.dx dx),trivial,c₃.back R₄ dx,q⟩) λ_ _ e=>e) hs
end
section
variable {C:Cx} {η:Env} {ν:List Str} {gl:LV} {own:Bool} {d:Nat} {m m':Loc} {σ:Sto} {QS:FP}
theorem y1X{test:Expr}{body:List Stmt}{p:Pos}(I:Nat->Loc->Sto->Prop)
  (turn:∀n m σ,I n m σ->AB C η ν gl own d (isTrue test η (eval test η)) m σ λb σ₁=>
   (b=true->AS C η ν gl own d (execs body η) m σ₁ λfl m₂ σ₂=>match fl with
    | .next=>∃k,k<n/\I k m₂ σ₂
    | .cont=>∃k,k<n/\I k m₂ σ₂
    | .brk=>QS .next m₂ σ₂
    | .ret v=>QS (.ret v) m₂ σ₂)/\(b=false->QS .next m σ₁))
  (n:Nat) (h:I n m σ):AS C η ν gl own d (exec (.While test body [] p) η) m σ QS:=λA G D s hA R=>by
 refine wpAny_While (codeAny_whileLoop (λn s'=>∃m' D' σ',DX G D D'/\A3 C η ν gl own G D' m' σ' s'/\I n m' σ') ?_ n ⟨m,D,σ,DX.refl _ _,R,h⟩)
 rintro n s' ⟨m',D',σ',dx,R',hI⟩
 refine By ((turn n m' σ' hI).run hA R' λb s₁ D₁ σ₁ a c e=> ?_) (λ_ _ e=>e) λ_ _ e=>e.elim
 cases b with
 |true=>
  rw[if_pos rfl]
  refine By ((e.1 rfl).run hA c λf s₂ fl m₂ D₂ σ₂ a₂ hfl R₂ q=> ?_) (λ_ _ e=>e) λ_ _ e=>e.elim
  have dx2:=(dx.trans a).trans a₂
  cases f<;>cases fl<;>first|exact hfl.elim|skip
  ·obtain⟨k,hk,hI'⟩:=q;exact⟨k,hk,m₂,D₂,σ₂,dx2,R₂,hI'⟩
  ·exact⟨.next,m₂,D₂,σ₂,dx2,trivial,R₂,q⟩
  ·obtain⟨k,hk,hI'⟩:=q;exact⟨k,hk,m₂,D₂,σ₂,dx2,R₂,hI'⟩
  ·exact⟨.ret _,m₂,D₂,σ₂,dx2,hfl,R₂,q⟩
 |false=>
  rw[if_neg (by decide)]
  exact wpAny_execs_nil ⟨.next,m',D₁,σ₁,dx.trans a,trivial,c,e.2 rfl⟩
theorem y0w{test:Expr}{body:List Stmt}{p:Pos}(I:Nat->Loc->Sto->Prop)
  (turn:∀n m σ,I n m σ->∀QB:FP,(∀k m σ,k<n->I k m σ->QB .next m σ)->AB C η ν gl own d (isTrue test η (eval test η)) m σ λb σ₁=>
   (b=true->AS C η ν gl own d (execs body η) m σ₁ QB)/\(b=false->QS .next m σ₁))
  (n:Nat) (h:I n m σ):AS C η ν gl own d (exec (.While test body [] p) η) m σ QS:=
 y1X I (λn m σ hI=>turn n m σ hI _ λk m σ hk hI=>⟨k,hk,hI⟩) n h
end
theorem M_append:B9 "list" "append" "list.append":=⟨F.plainAttrs_list,F.slot_list_append,F.type_list_append⟩
theorem M_lpop:B9 "list" "pop" "list.pop":=⟨F.plainAttrs_list,F.slot_list_pop,F.type_list_pop⟩
theorem M_lclear:B9 "list" "clear" "list.clear":=⟨F.plainAttrs_list,F.slot_list_clear,F.type_list_clear⟩
theorem M_insert:B9 "list" "insert" "list.insert":=⟨F.plainAttrs_list,F.slot_list_insert,F.type_list_insert⟩
theorem M_get:B9 "dict" "get" "dict.get":=⟨F.plainAttrs_dict,F.slot_dict_get,F.type_dict_get⟩
theorem M_pop:B9 "dict" "pop" "dict.pop":=⟨F.plainAttrs_dict,F.slot_dict_pop,F.type_dict_pop⟩
theorem M_setdefault:B9 "dict" "setdefault" "dict.setdefault":=⟨F.plainAttrs_dict,F.slot_dict_setdefault,F.type_dict_setdefault⟩
theorem M_update:B9 "dict" "update" "dict.update":=⟨F.plainAttrs_dict,F.slot_dict_update,F.type_dict_update⟩
theorem M_clear:B9 "dict" "clear" "dict.clear":=⟨F.plainAttrs_dict,F.slot_dict_clear,F.type_dict_clear⟩
section
variable {C:Cx} {η:Env} {ν:List Str} {gl:LV} {own:Bool} {d:Nat} {m m':Loc} {σ:Sto} {σ':Obj->Sto} {Q:VP} {G D:Gh} {s:Shared} {A:Around} {K:Type} [DecidableEq K]
theorem y0l(kk:KK C.prog C.w K){a:Addr}{o:Obj}{kvs:List (K×V)}{k:K}{X:V}(U:∀o',F9 a o (.dict (z02 kk kvs)) o' (.dict (z02 kk (z21 kvs k))) σ (σ' o'))(hn:(kvs.map (·.1)).Nodup)(hl:kvs.length<=sizeLine)(hx:vAt kvs k=some X)(q:∀o',Q X (σ' o')):
  KW C d (.bi "dict.pop") [.ref a,kk.v k] σ Q:=λA G D s v vs hA R hv hss=>by
 apply VR.biE hv
 apply A6.consE hss;intro _ _ h1 h2
 ·skip
  apply A6.consE h2;intro _ _ h3 h4
  ·skip
   apply A6.nilE h4;apply VR.refE h1
   have hm:(a,o,AO.dict (z02 kk kvs))∈σ:=by obtain⟨u,w,e,_⟩:=(U o).split;rw[e];simp
   obtain⟨cvs,hD,hk⟩:=RelC.dcH R kk hm hn
   rcases hk.at k with⟨_,e2⟩|⟨u,Y,e1,e2,hu⟩
   ·rw[hx] at e2;cases e2
   ·rw[hx] at e2;cases e2
    refine call_meetsIn F.slot_dict_pop hD.typeIs F.entry_dict_pop (F.args_dict_pop_2 _ _) (meets_dict_pop_there kk.knd a (kk.isOf h3) [] (.inl rfl) (kk.part h3)) ⟨cvs,u,hD,by rw[hk.length];exact hl,e1,λh' hD' hs'=> ?_⟩
    obtain⟨o',ho',hr'⟩:=HR.ofDict kk hD' (hk.without k)
    exact⟨X,D,σ' o',DX.refl _ _,hu,R.upd (U o') (s.toks+1) (z0C _ _) hs' rfl ho' hr',q o'⟩
end
section
variable {C:Cx} {η:Env} {ν:List Str} {gl:LV} {own:Bool} {d:Nat} {m m':Loc} {σ:Sto} {σ':Obj->Sto} {Q:VP} {G D:Gh} {s:Shared} {A:Around} {K:Type} [DecidableEq K]
variable {QI:List V->(Sto->Prop)->Sto->Prop}
theorem z8u [HM C](kk:KK C.prog C.w K){iter tgt:Expr}(hsys:z0J C)(h:AT C η ν gl own d (eval iter η) m σ λX σ₁=>∃a o kvs,X= .ref a/\(a,o,AO.dict (z02 kk kvs))∈σ₁/\(kvs.map (·.1)).Nodup/\QI (kvs.map λp=>kk.v p.1) (λσ'=>(a,o,AO.dict (z02 kk kvs))∈σ') σ₁):
  AI C η ν gl own d iter tgt m σ QI:=λA G D s hA R=>
 h.run hA R λv s₁ X D₁ σ₁ dx b c hpp=>by
  obtain⟨ax,o,kvs,hX,hm,hn,q⟩:=hpp
  subst hX
  obtain⟨_,ob,e,ho,⟨es,n,rfl,hr⟩,hP,hst⟩:=(A8.refD hm).run c.toRelC b
  obtain rfl:=VR.refI b;cases e
  obtain⟨cvs,p,kr,r⟩:=F5.pairs kk hr
  have hD:s₁.heap.DictAt kk.knd ax cvs n:=⟨_,es,ho,⟨rfl,rfl,rfl⟩,rfl,λe he=>r e (by simpa using he),p,by rw[kr.keys];exact hn⟩
  have hne:ax≠s₁.heap.objs.size:=Bq (Heap.lt_size ho)
  refine wpAny_pyIter_dict (c.toRelC.notSys hsys hm) hD ⟨D₁,σ₁,_,_,dx,⟨s₁.heap.objs.size,_,_,_,rfl,IW.two (Walks.dictKeys (knd:=kk.knd) hA.hh s₁.heap.objs.size ax hne cvs n) (by rw[kr.length];simp) ?_ (λi h st=>by obtain⟨⟨o,ho,hc,_⟩,_⟩:=st;exact⟨o,_,ho,hc,by decide⟩) (λh st=>by obtain⟨_,o,_,ho,_⟩:=st;exact⟨o,ho⟩),⟨⟨_,Heap.get?_push_size _ rfl,rfl,rfl⟩,hD.push _⟩,c.push _,c.offNew (z0q #[] 0),hP,y05 ho hst⟩,q⟩
  ·rintro i u X ⟨k,x,hx,hk⟩ hX
   have e1:(cvs.map (·.1))[i]? =some k:=by rw[Al,hx];rfl
   rw[kr.keys,Al] at e1
   rw[Al] at hX
   cases e3:kvs[i]? with
   |none=>rw[e3] at e1;cases e1
   |some p=>
    rw[e3] at e1 hX
    simp only[Option.map_some,Option.some.injEq] at e1 hX
    subst hX;rw[e1];exact kk.ofIs hk
theorem y0i(kk:KK C.prog C.w K){a:Addr}{o:Obj}{kvs:List (K×V)}(hs:z0J C)(hm:(a,o,AO.dict (z02 kk kvs))∈σ)(hn:(kvs.map (·.1)).Nodup)(hl:kvs.length<=sizeLine)(q:Q (.int kvs.length) σ):
  KW C d (.bi "len") [.ref a] σ Q:=λA G D s v vs hA R hv hss=>by
 apply VR.biE hv
 apply A6.consE hss;intro _ _ h1 h2
 ·skip
  apply A6.nilE h2;apply VR.refE h1
  obtain⟨cvs,hD,hk⟩:=RelC.dcH R kk hm hn
  refine call_len_dict (R.notSys hs hm) hD (by rw[hk.length];exact z7c hl) ?_
  rw[hk.length];exact A0.now (R.tok _) (.int _ _) q
end
section
variable {C:Cx} {η:Env} {ν:List Str} {gl:LV} {own:Bool} {d:Nat} {m m':Loc} {σ:Sto} {KA:Loc->Sto->Prop}
def AAs(C:Cx)(η:Env)(ν:List Str)(gl:LV)(own:Bool)(d:Nat)(ts:List (Value->Sem Unit))(xs:List V)(m:Loc)(σ:Sto)(KA:Loc->Sto->Prop):Prop:=
 ∀A G D s vs,C9 C A d->A3 C η ν gl own G D m σ s->A6 C.w D vs xs->wpAny C.M A (assignInOrder ts vs) (G8 C η ν gl own G D KA) (λ_ _=>False) s
theorem z8t(k:KA m σ):AAs C η ν gl own d [] [] m σ KA:=λA G D s vs hA R hv=>by
 apply A6.nilE hv
 show wpAny C.M A (assignInOrder [] []) _ _ s
 exact wpAny_pure ⟨m,D,σ,DX.refl _ _,R,k⟩
set_option tactic.hygienic true in
theorem z2R{t:Value->Sem Unit}{ts:List (Value->Sem Unit)}{x:V}{xs:List V}(h:AA C η ν gl own d t x m σ λm₁ σ₁=>AAs C η ν gl own d ts xs m₁ σ₁ KA):AAs C η ν gl own d (t::ts) (x::xs) m σ KA:=λA G D s vs hA R hv=>by
 cases hv with
 |cons h1 h2=>
  rename_i v vs
  have key:wpAny C.M A (t v) (λ_ s'=>wpAny C.M A (assignInOrder ts vs) (G8 C η ν gl own G D KA) (λ_ _=>False) s') (λ_ _=>False) s:=
   By (h A G D s v hA R h1) (λ_ s' hpp=>by obtain⟨m₁,D₁,σ₁,dx,R₁,q⟩:=hpp;exact By (q A G D₁ s' vs hA R₁ (h2.mono dx.sub)) (λ_ _ p=>p.weak dx) λ_ _ e=>e) λ_ _ e=>e
  exact Bx (wpAny_holding key)
theorem z9Q [HM C]{elts:List Expr}{k:Nat}{p:Pos}{xs:List V}(hn:(assignEach elts η).length=xs.length)(hstar:(assignEach elts η).findIdx? (·.1)=none)(h:AAs C η ν gl own d ((assignEach elts η).map (·.2)) xs m σ KA):
  AA C η ν gl own d (assign (.Tuple elts k p) η) (.tup xs) m σ KA:=λA G D s v hA R hv=>by
 apply VR.isTE R.toRelC hv;intro a ws _ hT hr
 refine wpAny_assign_Tuple hA.hh hT (by rw[hn,<-hr.length];simp) hstar λh' he=> ?_
 have R':A3 C η ν gl own G D m σ {s with heap:=h'}:=by
  have:=R.keepBut (h':=h') s.toks (R.offNew (z0q #[] 0)) λb o hb e=>he b o (by simpa using hb) e
  exact this
 exact h A G D _ _ hA R' hr
variable {QS:FP}
theorem z9R [HM C]{x y:Expr}{X Y:V}(h:AA C η ν gl own d (assign x η) X m σ λm₁ σ₁=>AA C η ν gl own d (assign y η) Y m₁ σ₁ KA){k:Nat}{p:Pos}
  (hn:autoParam ((assignEach [x,y] η).map (·.2)=[assign x η,assign y η]) auR) (hstar:autoParam ((assignEach [x,y] η).findIdx? (·.1)=none) auR):
  AA C η ν gl own d (assign (.Tuple [x,y] k p) η) (.tup [X,Y]) m σ KA:=by
 refine z9Q (by have:=congrArg List.length hn;simpa using this) hstar ?_
 rw[hn]
 refine z2R λA G D s v hA R hv=>By (h A G D s v hA R hv) (λ_ s' hpp=>by obtain⟨m₁,D₁,σ₁,dx,R₁,q⟩:=hpp;exact⟨m₁,D₁,σ₁,dx,R₁,z2R λA G D s v hA R hv=>By (q A G D s v hA R hv) (λ_ s' hpp=>by obtain⟨m₁,D₁,σ₁,dx,R₁,q⟩:=hpp;exact⟨m₁,D₁,σ₁,dx,R₁,z8t q⟩) λ_ _ e=>e⟩) λ_ _ e=>e
theorem y47 [HM C]{x y z:Expr}{X Y Z:V}(h:AA C η ν gl own d (assign x η) X m σ λm₁ σ₁=>AA C η ν gl own d (assign y η) Y m₁ σ₁ λm₂ σ₂=>AA C η ν gl own d (assign z η) Z m₂ σ₂ KA){k:Nat}{p:Pos}
  (hn:autoParam ((assignEach [x,y,z] η).map (·.2)=[assign x η,assign y η,assign z η]) auR) (hstar:autoParam ((assignEach [x,y,z] η).findIdx? (·.1)=none) auR):
  AA C η ν gl own d (assign (.Tuple [x,y,z] k p) η) (.tup [X,Y,Z]) m σ KA:=by
 refine z9Q (by have:=congrArg List.length hn;simpa using this) hstar ?_
 rw[hn]
 refine z2R λA G D s v hA R hv=>By (h A G D s v hA R hv) (λ_ s' hpp=>by obtain⟨m₁,D₁,σ₁,dx,R₁,q⟩:=hpp;exact⟨m₁,D₁,σ₁,dx,R₁,z2R λA G D s v hA R hv=>By (q A G D s v hA R hv) (λ_ s' hpp=>by obtain⟨m₁,D₁,σ₁,dx,R₁,q⟩:=hpp;exact⟨m₁,D₁,σ₁,dx,R₁,z2R λA G D s v hA R hv=>By (q A G D s v hA R hv) (λ_ s' hpp=>by obtain⟨m₁,D₁,σ₁,dx,R₁,q⟩:=hpp;exact⟨m₁,D₁,σ₁,dx,R₁,z8t q⟩) λ_ _ e=>e⟩) λ_ _ e=>e⟩) λ_ _ e=>e
end
section
variable {C:Cx} {η:Env} {ν:List Str} {gl:LV} {own:Bool} {d:Nat} {m m':Loc} {σ:Sto} {σ':Obj->Sto} {Q:VP} {QS:FP} {K:Type} [DecidableEq K]
theorem z9v{t value:Expr}{p:Pos}(h:AT C η ν gl own d (eval value η) m σ λX σ₁=>AA C η ν gl own d (assign t η) X m σ₁ λm₂ σ₂=>QS .next m₂ σ₂)
  (he:autoParam ((assignEach [t] η).map (·.2)=[assign t η]) auR) (hs:autoParam (swapsWithSole [t] value p.line η=pure false) auR)
  (hw:autoParam (swappedStores [t] value η=pure none) auR):AS C η ν gl own d (exec (.Assign [t] value p) η) m σ QS:=λA G D s hA R=>by
 refine wpAny_Assign_stores (h.run hA R λv s₁ X D₁ σ₁ a b c e=> ?_) hs hw
 rw[he]
 show wpAny C.M A (assign t η v) _ _ s₁
 exact By (e A G D₁ s₁ v hA c b) (λ_ s₂ hpp=>by obtain⟨m₂,D₂,σ₂,dx,R₂,q⟩:=hpp;exact⟨.next,m₂,D₂,σ₂,a.trans dx,trivial,R₂,q⟩) λ_ _ x=>x
theorem z6m(kk:KK C.prog C.w K){a:Addr}{o:Obj}{kvs:List (K×V)}{k:K}{X:V}(hs:z0J C)(U:∀o',F9 a o (.dict (z02 kk kvs)) o' (.dict (z02 kk (z2t kvs k X))) σ (σ' o'))(hn:(kvs.map (·.1)).Nodup)(hl:kvs.length<=sizeLine)
  (q1:∀Y,vAt kvs k=some Y->Q Y σ) (q2:vAt kvs k=none->∀o',Q X (σ' o')):
  KW C d (.bi "dict.setdefault") [.ref a,kk.v k,X] σ Q:=λA G D s v vs hA R hv hss=>by
 apply VR.biE hv
 apply A6.consE hss;intro _ _ h1 h2
 ·skip
  apply A6.consE h2;intro _ _ h3 h4
  ·skip
   cases h4 with
   |cons h5 h6=>
    cases h6;apply VR.refE h1
    have hm:(a,o,AO.dict (z02 kk kvs))∈σ:=by obtain⟨u,w,e,_⟩:=(U o).split;rw[e];simp
    obtain⟨cvs,hD,hk⟩:=RelC.dcH R kk hm hn
    refine call_meetsIn F.slot_dict_setdefault hD.typeIs F.entry_dict_setdefault (F.args_dict_setdefault_3 _ _ _) (kt_meets_setdefault kk.knd a (kk.isOf h3) (R.notSys hs hm) _) ⟨cvs,hD,by rw[hk.length];exact hl,λu hu=> ?_,λhnone h' hD' hs'=> ?_⟩
    ·rcases hk.at k with⟨e1,e2⟩|⟨u',Y,e1,e2,hY⟩
     ·rw[hu] at e1;cases e1
     ·rw[hu] at e1;cases e1;exact A0.now (R.tok _) hY (q1 Y e2)
    ·rcases hk.at k with⟨e1,e2⟩|⟨u',Y,e1,e2,hY⟩
     ·obtain⟨o',ho',hr'⟩:=HR.ofDict kk hD' (hk.stored h5)
      exact⟨X,D,σ' o',DX.refl _ _,h5,R.upd (U o') (s.toks+1) (z0C _ _) hs' rfl ho' hr',q2 e2 o'⟩
     ·rw[hnone] at e1;cases e1
end
theorem FR.look{w:World}{D:Gh}{name:Str}:∀{es:List DictEntry} {fs:LV},FR w D es fs->
  (es.any (·.refKey)=false)/\((fs.lookup name=none/\es.find? (·.key.isStr name)=none)∨∃e x,fs.lookup name=some x/\es.find? (·.key.isStr name)=some e/\VR w D e.val x)
 |[],[],_=>⟨rfl,.inl ⟨rfl,rfl⟩⟩
 |e::es,(n,x)::fs,⟨⟨t,hk⟩,_,hv,hr⟩=>by
  obtain⟨h1,h2⟩:=FR.look (name:=name) hr
  have hrk:e.refKey=false:=by unfold DictEntry.refKey;rw[hk]
  refine⟨by rw[List.any_cons,hrk,h1];rfl,?_⟩
  by_cases en:name=n
  ·subst en
   exact .inr ⟨e,x,by simp[List.lookup],by rw[List.find?_cons,hk];simp[Value.isStr],hv⟩
  ·have e1:(e.key.isStr name)=false:=by rw[hk];simp[Value.isStr];exactλh=>en h.symm
   have e2:(name==n)=false:=by simpa using en
   rw[List.lookup_cons,e2,List.find?_cons,e1]
   exact h2
 |[],_::_,h=>h.elim
 |_::_,[],h=>h.elim
section
variable {C:Cx} {η:Env} {ν:List Str} {gl:LV} {own:Bool} {d:Nat} {m m':Loc} {σ:Sto} {P:VP} {G D:Gh} {s:Shared}
theorem z3f{x c dx:Addr}{o:Obj}{fs:LV}(R:RelC C G D σ s)(hm:(x,o,AO.inst c dx fs)∈σ):W.InstAt s.heap x (z84 c dx) c (some o):=by
 obtain⟨h1,h2⟩:=R.pl _ hm
 exact⟨h1,rfl,rfl,h2⟩
structure B3(C:Cx)(K:W.Frag)(c:Addr)(name:Str)(f:Addr):Prop where
 kin:K.In C.base
 ga:W.findIn K (.ref c) "__getattribute__"=some (some (.builtin "object.__getattribute__"))
 gk:W.findIn K (.ref c) "__getattr__"=some none
 fn:W.findIn K (.ref c) name=some (some (.ref f))
 ty:W.typeIn K (.ref f)=some (.type "function")
 cal:z1g C (.ref f)
theorem z9X{K:W.Frag}{c f:Addr}{o e:Expr}{rest:List Expr}{name:Str}{ap p:Pos}(hM:B3 C K c name f)
  (h:AT C η ν gl own d (eval o η) m σ λX σ₁=>∃x ob dx fs,X= .ref x/\(x,ob,AO.inst c dx fs)∈σ₁/\fs.lookup name=none/\AL C η ν gl own d (spliced (backTo p (starEach (e::rest) η))) m σ₁ λXs σ₂=>KW C d (.ref f) (.ref x::Xs) σ₂ P)
  (hbase:autoParam (attributeBase o name η (eval o η)=eval o η) auR) (hline:autoParam ((ap.endLine==p.line)=true) auR)
  (he:autoParam (starEach (e::rest) η=(false,eval e η)::starEach rest η) auR) (hplain:autoParam ((backTo p (starEach rest η)).any (·.1)=false) auR)
  (hfew:autoParam (((backTo p (starEach (e::rest) η)).all (λx=> !x.1)&&(backToKw p (keywordEach [] η)).all (λx=>x.1.isSome)&&decide ((e::rest).length+([]:List Keyword).length+(if([]:List Keyword).isEmpty then 0 else 1)<30))=true) auR):
  AT C η ν gl own d (eval (.Call (.Attribute o name ap) (e::rest) [] p) η) m σ P:=λA G D s hA R=>by
 rw[arm_eval_Call,hbase]
 refine Bx (h.run hA R λv s₁ X D₁ σ₁ a b c₁ hpp=> ?_)
 refine nG λhG=> ?_
 obtain⟨x,ob,dx,fs,hX,hm,hsh,hk⟩:=hpp
 refine hG ?_
 subst hX
 apply VR.refE b
 refine Bx (wpAny_standAt ?_)
 have hform:methodCallForm ((e::rest).length+([]:List Keyword).length) (backTo p (starEach (e::rest) η)) (backToKw p (keywordEach [] η))=true:=hfew
 have hpos:methodCallPos true o η ap p=pure p:=by unfold methodCallPos;simp[hline]
 unfold methodCall
 rw[hform]
 refine nG λhG=> ?_
 obtain⟨es,n,rfl,hr⟩:=c₁.sto _ hm
 refine hG ?_
 have hl:=(FR.look (name:=name) hr)
 have hshadow:W.shadowIn (some (z1G es n)) name=some false:=by
  unfold W.shadowIn W.lookIn
  rcases hl.2 with⟨_,e2⟩|⟨_,_,e1,_,_⟩
  ·simp[e2,hl.1]
  ·rw[hsh] at e1;cases e1
 refine Bx (wpAny_holding (W.method_fn (hM.kin.keeps c₁.toRelC.baseIn) (z3f c₁.toRelC hm) hM.ga hM.gk hM.fn hM.ty hshadow ?_))
 refine Bx (wpAny_of_eq hpos ?_)
 rw[he] at hk⊢
 refine z0K (F:= .ref f) hM.cal (.ref f) (D:=D₁) hplain (Calls.evalArgs_plain (AL.run hk hA c₁ λvs s₂ Xs D₂ σ₂ a' b' c' q=>⟨c'.toRelC.baseIn,z1e (a.trans a') (q.inF hA c' (.ref f) (.cons (.ref x) b'))⟩))
structure F1(C:Cx)(K:W.Frag)(c:Addr)(name:Str):Prop where
 kin:K.In C.base
 ga:W.findIn K (.ref c) "__getattribute__"=some (some (.builtin "object.__getattribute__"))
 cls:∃cd,W.clsIn K c=some cd/\cd.hasDict=true
 nf:W.findIn K (.ref c) name=some none
theorem y3X{w:World}{D:Gh}{v:Value}{x:V}(h:VR w D v x)(hx:∀n,x≠ .bi n):W.handedIn v=true:=by
 cases h<;>first|rfl|exact absurd rfl (hx _)
theorem y1M{K:W.Frag}{c:Addr}{o:Expr}{name:Str}{p:Pos}(hM:F1 C K c name)
  (h:AT C η ν gl own d (eval o η) m σ λX σ₁=>∃x ob dx fs Y,X= .ref x/\(x,ob,AO.inst c dx fs)∈σ₁/\fs.lookup name=some Y/\(∀n,Y≠ .bi n)/\P Y σ₁)
  (hbase:autoParam (attributeBase o name η (eval o η)=eval o η) auR) (ht:∀u r,letTemporaryGo o u r=pure ():=by intro _ _;with_unfolding_all exact rfl):
  AT C η ν gl own d (eval (.Attribute o name p) η) m σ P:=λA G D s hA R=>by
 rw[arm_eval_Attribute,hbase]
 refine Bx (h.run hA R λv s₁ X D₁ σ₁ a b c₁ hpp=> ?_)
 obtain⟨x,ob,dx,fs,Y,hX,hm,hl,hnb,q⟩:=hpp
 subst hX
 apply VR.refE b
 refine Bx (wpAny_standAt (Bx (wpAny_holding ?_)))
 obtain⟨es,n,rfl,hr⟩:=c₁.sto _ hm
 have hL:=FR.look (name:=name) hr
 rcases hL.2 with⟨e1,_⟩|⟨e,Z,e1,e2,hv⟩
 ·rw[hl] at e1;cases e1
 rw[hl] at e1;cases e1
 obtain⟨cd,hc1,hc2⟩:=hM.cls
 have hlook:W.lookIn name (z1G es n)=some (some e.val):=by unfold W.lookIn;simp[e2]
 have hf:W.findObj K c (some (z1G es n)) name=some (.value e.val):=by
  unfold W.findObj W.ownOf
  rw[hc1,hM.nf]
  simp[hc2,hlook]
 refine W.get_value (hM.kin.keeps c₁.toRelC.baseIn) (z3f c₁.toRelC hm) hM.ga hf (y3X hv hnb) ?_
 rw[ht]
 exact Bx (wpAny_pure (wpAny_pure ⟨Y,D₁,σ₁,a,hv,c₁.tok _,q⟩))
end
def At(σ:Sto)(a:Addr)(x:AO):Prop:=∃o,(a,o,x)∈σ
theorem At.cons{σ:Sto}{a:Addr}{x:AO}(p:Addr×Obj×AO)(h:At σ a x):At (p::σ) a x:=let⟨o,e⟩:=h;⟨o,.tail _ e⟩
theorem At.hd{σ:Sto}{a:Addr}{o:Obj}{x:AO}:At ((a,o,x)::σ) a x:=⟨o,.head _⟩
structure C5(σ σ':Sto)(a:Addr)(x:AO):Prop where
 here:At σ' a x
 keep:∀p∈σ,p.1≠a->p∈σ'
theorem C5.at{σ σ':Sto}{a b:Addr}{x y:AO}(U:C5 σ σ' a x)(h:At σ b y)(hne:b≠a):At σ' b y:=let⟨o,e⟩:=h;⟨o,U.keep _ e hne⟩
def A4(σ:Sto)(a:Addr):Prop:=∀p∈σ,p.1≠a
theorem A4.ne{σ:Sto}{a b:Addr}{x:AO}(h:A4 σ a)(hb:At σ b x):b≠a:=let⟨o,e⟩:=hb;h _ e
theorem F9.updS{a:Addr}{o o':Obj}{x x':AO}{σ σ':Sto}(U:F9 a o x o' x' σ σ'):C5 σ σ' a x':=by
 obtain⟨u,v,rfl,rfl⟩:=U.split
 refine⟨⟨o',by simp⟩,λp hp hn=> ?_⟩
 rcases Ad.mp hp with h|h
 ·exact Ai _ h
 ·rcases Ae.mp h with rfl|h
  ·exact absurd rfl hn
  ·exact Aj _ (.tail _ h)
theorem At.upd{σ:Sto}{a:Addr}{x:AO}(h:At σ a x)(x':AO):∃(o:Obj) (σ':Obj->Sto),(∀o':Obj,F9 a o x o' x' σ (σ' o'))/\∀o':Obj,C5 σ (σ' o') a x':=by
 obtain⟨o,h⟩:=h
 obtain⟨u,v,rfl⟩:=List.append_of_mem h
 exact⟨o,λo'=>u++(a,o',x')::v,λo'=>F9.app u .head,λo'=>(F9.app u .head).updS⟩
section
variable {C:Cx} {η:Env} {ν:List Str} {gl:LV} {own:Bool} {d:Nat} {m m':Loc} {σ:Sto} {Q:VP} {QS:FP} {G D:Gh} {s:Shared} {A:Around} {K:Type} [DecidableEq K]
theorem z1X{σ:Sto}{p:Addr×Obj×AO}(h:p∈σ):p.1∈A5 σ:=z3h (a:=p.1) (ob:=p.2.1) (o:=p.2.2) h
theorem RelC.fresh(R:RelC C G D σ s):A4 σ s.heap.objs.size:=λp hp e=>R.new_notFoot (e▸z1X hp)
theorem z1R{a:Addr}{xs:List V}(h:CW C d (.ref a) xs σ λx σ'=>∃τ,τ.Sublist σ'/\Q x τ):CW C d (.ref a) xs σ Q:=λA G D s vs hA R hv=>
 codeAny_mono (h A G D s vs hA R hv) λr s' q=>by
  cases r with
  |error e=>exact q
  |ok f=>
   cases f<;>first|exact q.elim|skip
   obtain⟨x,D',σ',dx,hx,R',τ,hs,q⟩:=q
   exact⟨x,D',τ,dx,hx,R'.drop hs,q⟩
theorem z3E{p:Pos}(q:∀a o,A4 σ a->Q (.ref a) ((a,o,.dict [])::σ)):AT C η ν gl own d (eval (.Dict [] [] p) η) m σ Q:=λA G D s hA R=>by
 refine wpAny_Dict_empty ⟨.ref _,D,_,DX.refl _ _,.ref _,R.back (R.lifted.newM (z1G #[] 0) (.dict []) ⟨#[],0,rfl,.nil⟩ rfl (λ_ _=>rfl)) (DX.refl _ _),q _ _ R.toRelC.fresh⟩
theorem z1Z{es:List Expr}{p:Pos}(h:AL C η ν gl own d (spliced (backTo p (starEach es η))) m σ λXs σ₁=>Xs.length<=sizeLine/\∀a o,A4 σ₁ a->Q (.ref a) ((a,o,.list Xs)::σ₁)):
  AT C η ν gl own d (eval (.List es p) η) m σ Q:=λA G D s hA R=>
 wpAny_List (h.run hA R λvs s₁ Xs D₁ σ₁ a b c hpp=>by obtain⟨hl,q⟩:=hpp;exact⟨by rw[b.length];exact hl,⟨.ref _,D₁,_,a,.ref _,c.newL b,q _ _ c.toRelC.fresh⟩⟩)
def NLf(P:VP)(Xs:List V)(σ:Sto):Prop:=P (.lst Xs) σ∨∀a o,A4 σ a->P (.ref a) ((a,o,.list Xs)::σ)
theorem RelC.mkLf(R:RelC C G D σ s){vs:List Value}{Xs:List V}(h:A6 C.w D vs Xs)(q:NLf Q Xs σ):A0 C G D Q (.ref s.heap.objs.size) {s with heap:=s.heap.push (z0q vs.toArray 0)}:=by
 rcases q with q|q
 ·exact R.mkL h (.inl q)
 ·exact⟨.ref _,D,_,DX.refl _ _,.ref _,R.newM (z0q vs.toArray 0) (.list Xs) ⟨vs.toArray,0,rfl,by simpa using h⟩ rfl (λ_ _=>rfl),q _ _ R.fresh⟩
theorem z7r(h:Heap):h.get? h.objs.size=none:=by
 cases e:h.get? h.objs.size with
 |none=>rfl
 |some o=>exact absurd (Heap.lt_size e) (Nat.lt_irrefl _)
theorem RelC.madeL(R:RelC C G D σ s){h':Heap}{t:Nat}{a:Addr}{vs:Array Value}{n:Nat}{Xs:List V}(hk:∀b o,s.heap.get? b=some o->h'.get? b=some o)(ha:s.heap.get? a=none)(ho:h'.get? a=some (z0q vs n))(h:A6 C.w D vs.toList Xs)(q:NLf Q Xs σ):
  A0 C G D Q (.ref a) {s with heap:=h',toks:=t}:=by
 have R':=R.keep t hk
 have hG:G a=none:=by
  cases e:G a with
  |none=>rfl
  |some o=>obtain⟨_,h,_⟩:=R.g _ _ e;rw[h] at ha;cases ha
 have hD:D a=none:=by
  cases e:D a with
  |none=>rfl
  |some o=>rw[R.d _ _ e] at ha;cases ha
 have hf:a∉A5 σ:=λhf=>by obtain⟨o,e⟩:=R.footLives hf;rw[e] at ha;cases ha
 have R2:=R'.addL hG hD hf ho h
 rcases q with q|q
 ·obtain⟨R3,dx,hv⟩:=R2.freezeL (u:=[]) (v:=σ) rfl
  exact⟨.lst Xs,_,σ,dx,hv,R3,q⟩
 ·exact⟨.ref a,D,_,DX.refl _ _,.ref a,R2,q _ _ λp hp e=>hf (e▸z1X hp)⟩
end
theorem FR.put{w:World}{D:Gh}{name:Str}{v:Value}{X:V}{t:Tok}(hv:VR w D v X):∀{es:List DictEntry} {fs:LV},FR w D es fs->fs.lookup name=none->
  FR w D (W.putL name (hashStr w name) (.str name t) v es) (fs++[(name,X)])
 |[],[],_,_=>⟨⟨t,rfl⟩,rfl,hv,trivial⟩
 |e::es,(n,x)::fs,⟨⟨t',hk⟩,hh,hx,hr⟩,hl=>by
  have hne:(name==n)=false:=by
   cases q:name==n with
   |false=>rfl
   |true=>rw[List.lookup_cons,q] at hl;cases hl
  have e1:(e.key.isStr name)=false:=by rw[hk];simp[Value.isStr];intro h;rw[h] at hne;simp at hne
  unfold W.putL
  rw[e1]
  exact⟨⟨t',hk⟩,hh,hx,FR.put hv hr (by rw[List.lookup_cons,hne] at hl;exact hl)⟩
 |[],_::_,h,_=>h.elim
 |_::_,[],h,_=>h.elim
theorem FR.len{w:World}{D:Gh}:∀{es:List DictEntry} {fs:LV},FR w D es fs->es.length=fs.length
 |[],[],_=>rfl
 |_::es,_::fs,⟨_,_,_,h⟩=>by simp[FR.len h]
 |[],_::_,h=>h.elim
 |_::_,[],h=>h.elim
section
variable {C:Cx} {η:Env} {ν:List Str} {gl:LV} {own:Bool} {d:Nat} {m m':Loc} {σ:Sto} {σ':Obj->Sto} {P:VP} {QS:FP} {G D:Gh} {s:Shared}
structure E4(C:Cx)(K:W.Frag)(c:Addr)(name:Str):Prop where
 kin:K.In C.base
 sa:W.findIn K (.ref c) "__setattr__"=some (some (.builtin "object.__setattr__"))
 po:W.plainOver K c=true
 ta:W.takerIn K c name=some none
 hd:(W.clsIn K c).any (·.hasDict)=true
theorem z7B{K:W.Frag}{c x dx:Addr}{ob:Obj}{fs:LV}{name:Str}{X:V}{v:Value}{A:Around}{Z:Unit->Shared->Prop}{E:Value->Shared->Prop}(hM:E4 C K c name)
  (U:∀o',F9 x ob (.inst c dx fs) o' (.inst c dx (fs++[(name,X)])) σ (σ' o')) (hn:fs.lookup name=none) (hz:fs.length<=100) (R:RelC C G D σ s) (hv:VR C.w D v X)
  (q:∀o' s',RelC C G D (σ' o') s'->Z () s'):wpAny C.M A (setAttr (.ref x) name v) Z E s:=by
 have hm:(x,ob,AO.inst c dx fs)∈σ:=(U ob).mem
 have X0:=hM.kin.keeps R.baseIn
 have I:=z3f R hm
 obtain⟨hx,hdx⟩:s.heap.get? x=some (z84 c dx)/\s.heap.get? dx=some ob:=R.pl _ hm
 obtain⟨es,n,rfl,hr⟩:∃es n,ob=z1G es n/\FR C.w D es.toList fs:=R.sto _ hm
 obtain⟨cd,hc,hd'⟩:=W.any_some hM.hd
 refine W.set_plain X0 I hM.sa (W.osa_open (s:={s with toks:=s.toks+1}) X0 I hM.po hM.ta λb=> ?_)
 refine Bx (wpAny_pure (Bx (Bx (wpAny_loadPart hx (Bx (W.Looks.here (s:={s with toks:=s.toks+1}) (W.looks_clsIn X0 hc) ?_))))))
 rw[hd']
 refine wpAny_pure (a:=some dx) (Bx (wpAny_pure (Bx ?_)))
 unfold nsSet
 refine Bx (Bx (wpAny_askSetting (wpAny_pure (Bx (wpAny_mkText (Bx (wpAny_loadPart hdx ?_)))))))
 dsimp only
 have hL:=FR.look (name:=name) hr
 have c1:(!es.any (·.key.isStr name)&&es.any (·.refKey))=false:=by
  rw[<-Array.any_toList,<-Array.any_toList,hL.1,Bool.and_false]
 rw[aRefKeyMayBeTheName_at,c1]
 refine wpAny_updatePart hdx ?_
 have ef:Obj.putName name (PyData.keyHash C.w.params name) (.str name (s.toks+1)) v (z1G es n)=W.dictOf (W.putL name (hashStr C.w name) (.str name (s.toks+1)) v es.toList) (W.putN name es.toList n):=by
  have:=W.putName_dict name (PyData.keyHash C.w.params name) (.str name (s.toks+1)) v es.toList n
  have e0:W.dictOf es.toList n=z1G es n:=by show({cls:=_,data:= .dict es.toList.toArray n}:Obj)=_;rw[Array.toArray_toList]
  rw[e0] at this
  exact this
 have hr':=FR.put (t:=s.toks+1) hv hr hn
 have hself:=Heap.get?_update_self (Obj.putName name (PyData.keyHash C.w.params name) (.str name (s.toks+1)) v) hdx (by rw[ef];rfl)
 rw[ef] at hself
 have hne:x≠dx:=by
  obtain⟨u,w,e,_⟩:=(U (z1G es n)).split
  have nd:=R.nd
  rw[e,z0s] at nd
  have:([x,dx]++A5 w).Nodup:=(List.nodup_append.mp nd).2.1
  intro h;subst h
  simp at this
 refine Bx (wpAny_lookBehind hself (by
  refine pastItsLine_dict ?_
  rw[List.size_toArray,hr'.len,Ag];exact Bh (nD hz rfl)) ?_)
 refine wpAny_pure (q _ _ (R.upd (U _) (s.toks+2) (b:=dx) (by simp[z0z]) (Heap.SameBut.update ..) rfl ⟨?_,hself⟩ ⟨_,_,rfl,by simpa using hr'⟩))
 rw[Heap.get?_update_ne _ _ _ _ hne];exact hx
theorem z4b{K:W.Frag}{c:Addr}{o value:Expr}{name:Str}{p' p:Pos}(hM:E4 C K c name)
  (h:AT C η ν gl own d (eval value η) m σ λX σ₁=>AT C η ν gl own d (eval o η) m σ₁ λY σ₂=>∃x dx fs,Y= .ref x/\At σ₂ x (.inst c dx fs)/\fs.lookup name=none/\fs.length<=100/\∀σ',C5 σ₂ σ' x (.inst c dx (fs++[(name,X)]))->QS .next m σ')
  (hs:autoParam (swapsWith value (some (.Attribute o name p')) p.line η=pure false) auR):AS C η ν gl own d (exec (.Assign [.Attribute o name p'] value p) η) m σ QS:=λA G D s hA R=>
 plainObj_wpAny_Assign_Attribute (h.run hA R λv s₁ X D₁ σ₁ a b c₁ e=>e.run hA c₁ λu s₂ Y D₂ σ₂ a' b' c₂ hpp=>by
  obtain⟨x,dx,fs,hY,hat,hn,hz,q⟩:=hpp
  subst hY;cases b'
  obtain⟨ob,σ',U,US⟩:=hat.upd (.inst c dx (fs++[(name,X)]))
  exact z7B hM U hn hz c₂.lifted (b.mono a'.sub) λo' s' R'=>⟨.next,m,D₂,_,a.trans a',trivial,c₂.back R' (DX.refl _ _),q _ (US o')⟩) hs
structure G7(C:Cx)(K:W.Frag)(c f:Addr):Prop where
 kin:K.In C.base
 mks:W.makesIn K c=true
 ini:W.findIn K (.ref c) "__init__"=some (some (.ref f))
 ty:W.typeIn K (.ref f)=some (.type "function")
 kp:W.keepIn K (.ref c)=true
theorem C9.underC{C:Cx}{A:Around}{d:Nat}{c:Addr}{rest:List Value}(h:C9 C A (d+1)):C9 C (A.under (.builtin "type.__call__" ⟨.ref c::rest,[]⟩)) d:=by
 have e1:(Code.builtin "type.__call__" ⟨.ref c::rest,[]⟩).weight=1:=rfl
 have e2:(Code.builtin "type.__call__" ⟨.ref c::rest,[]⟩).cUnits=1:=rfl
 refine⟨h.h,h.fr,?_,?_⟩
 ·have:=h.depth
  show A.depth+(Code.builtin "type.__call__" ⟨.ref c::rest,[]⟩).weight+d<1000
  rw[e1];exact AG (Bp (Nat.add_right_comm A.depth 1 d)) this
 ·have:=h.units
  show A.units+(Code.builtin "type.__call__" ⟨.ref c::rest,[]⟩).cUnits+8*d<9000
  rw[e2];exact AG (Bp (Nat.add_right_comm A.units 1 (8*d))) (AG (Be (show 1<=8 by decide) (A.units+8*d)) this)
theorem RelC.newI(R:RelC C G D σ s)(c:Addr):RelC C G D ((s.heap.objs.size+1,W.emptyDict,.inst c s.heap.objs.size [])::σ) {s with heap:=(s.heap.push W.emptyDict).push (W.instObj c s.heap.objs.size)}:=by
 have R':=(R.push W.emptyDict).push (W.instObj c s.heap.objs.size)
 have hsz:(s.heap.push W.emptyDict).objs.size=s.heap.objs.size+1:=PyProof.Rows.size_push' _ _
 have hx:((s.heap.push W.emptyDict).push (W.instObj c s.heap.objs.size)).get? (s.heap.objs.size+1)=some (W.instObj c s.heap.objs.size):=by rw[<-hsz];exact Heap.get?_push_size _ rfl
 have hdx:((s.heap.push W.emptyDict).push (W.instObj c s.heap.objs.size)).get? s.heap.objs.size=some W.emptyDict:=Heap.get?_push_of_some _ (Heap.get?_push_size _ rfl)
 have lt:∀b o,s.heap.get? b=some o->b≠s.heap.objs.size/\b≠s.heap.objs.size+1:=λb o e=>by
  have:=Heap.lt_size e
  exact⟨Bq this,Bq (Nat.lt_succ_of_lt this)⟩
 have nG:∀b,(b=s.heap.objs.size+1∨b=s.heap.objs.size)->G b=none/\D b=none/\b∉A5 σ:=λb hb=>⟨by
   cases e:G b with
   |none=>rfl
   |some o=>obtain⟨o',h,_⟩:=R.g _ _ e;exact(hb.elim (lt b o' h).2 (lt b o' h).1).elim,by
   cases e:D b with
   |none=>rfl
   |some o=>exact(hb.elim (lt b o (R.d _ _ e)).2 (lt b o (R.d _ _ e)).1).elim,λhf=>by
   obtain⟨o,e⟩:=R.footLives hf
   exact hb.elim (lt b o e).2 (lt b o e).1⟩
 refine⟨R'.same,R'.bs,R'.g,R'.d,R'.base,?_,λa ha=> ?_,λa ha=> ?_,λp hp=> ?_,λp hp=> ?_⟩
 ·show([s.heap.objs.size+1,s.heap.objs.size]++A5 σ).Nodup
  refine Au.mpr ⟨λhm=> ?_,Au.mpr ⟨(nG _ (.inr rfl)).2.2,R.nd⟩⟩
  rcases Ae.mp hm with e|e
  ·exact Nat.succ_ne_self _ e
  ·exact(nG _ (.inl rfl)).2.2 e
 ·have:a∈[s.heap.objs.size+1,s.heap.objs.size]++A5 σ:=ha
  rcases Ad.mp this with h|h
  ·exact(nG a (by simpa using h)).1
  ·exact R.offG a h
 ·have:a∈[s.heap.objs.size+1,s.heap.objs.size]++A5 σ:=ha
  rcases Ad.mp this with h|h
  ·exact(nG a (by simpa using h)).2.1
  ·exact R.offD a h
 ·rcases Ae.mp hp with rfl|h
  ·exact⟨hx,hdx⟩
  ·exact R'.pl p h
 ·rcases Ae.mp hp with rfl|h
  ·exact⟨#[],0,rfl,trivial⟩
  ·exact R'.sto p h
theorem z93{K:W.Frag}{c f:Addr}{xs:List V}(hM:G7 C K c f)
  (h:∀x dx o,A4 σ x->CW C d (.ref f) (.ref x::xs) ((x,o,.inst c dx [])::σ) λr σ'=>r= .none/\P (.ref x) σ'):CW C (d+1) (.ref c) xs σ P:=λA G D s vs hA R hv=>by
 have X0:=hM.kin.keeps R.baseIn
 obtain⟨hh,g,dr,t,os⟩:=s
 refine W.make_core (W.makes_of X0 hM.mks) (W.looks_findIn X0 hM.ini) (λself=>W.bind_fn X0 self hM.ty) (.inl rfl) ?_
 have hfr:A4 σ (hh.objs.size+1):=λp hp e=>by
  have:=R.footLt (z1X hp)
  rw[e] at this
  exact absurd this (BC.mpr (Nat.le_succ _))
 have R2:=R.newI c
 refine codeAny_mono (h (hh.objs.size+1) hh.objs.size W.emptyDict hfr _ G D _ (.ref (hh.objs.size+1)::vs) hA.underC R2 (.cons (.ref _) hv)) λr s' q=> ?_
 cases r with
 |error e=>exact q.elim
 |ok fl=>
  cases fl<;>first|exact q.elim|skip
  obtain⟨x,D',σ',dx,hx,R',rfl,q⟩:=q
  cases hx
  exact⟨rfl,⟨_,D',σ',dx,.ref _,R',q⟩⟩
theorem z3b{K:W.Frag}{c f:Addr}{x:Str}{np p:Pos}(hM:G7 C K c f)(h:AT C η ν gl own d (eval (.Name x np) η) m σ λF σ₁=>F= .ref c/\CW C d (.ref c) [] σ₁ P):
  AT C η ν gl own d (eval (.Call (.Name x np) [] [] p) η) m σ P:=λA G D s hA R=>
 wpAny_Call_ofName (h.run hA R λv s₁ F D₁ σ₁ a b c₁ hpp=>by
  obtain⟨hF,hk⟩:=hpp
  subst hF;apply VR.refE b
  exact W.callWith_K0 (hM.kin.keeps c₁.toRelC.baseIn) hM.kp (z1e a ((z61 hk).inF hA c₁ (.ref c) .nil)))
theorem z9s{K:W.Frag}{c f:Addr}{o:Expr}{name:Str}{ap p:Pos}(hM:B3 C K c name f)
  (h:AT C η ν gl own d (eval o η) m σ λX σ₁=>∃x dx fs,X= .ref x/\At σ₁ x (.inst c dx fs)/\fs.lookup name=none/\KW C d (.ref f) [.ref x] σ₁ P)
  (hbase:autoParam (attributeBase o name η (eval o η)=eval o η) auR) (hline:autoParam ((ap.endLine==p.line)=true) auR):
  AT C η ν gl own d (eval (.Call (.Attribute o name ap) [] [] p) η) m σ P:=λA G D s hA R=>by
 rw[arm_eval_Call,hbase]
 refine Bx (h.run hA R λv s₁ X D₁ σ₁ a b c₁ hpp=> ?_)
 obtain⟨x,dx,fs,hX,⟨ob,hm⟩,hsh,hk⟩:=hpp
 subst hX
 apply VR.refE b
 refine Bx (wpAny_standAt ?_)
 have hform:methodCallForm (([]:List Expr).length+([]:List Keyword).length) (backTo p (starEach [] η)) (backToKw p (keywordEach [] η))=true:=rfl
 have hpos:methodCallPos true o η ap p=pure p:=by unfold methodCallPos;simp[hline]
 unfold methodCall
 rw[hform]
 obtain⟨es,n,rfl,hr⟩:=c₁.sto _ hm
 have hl:=(FR.look (name:=name) hr)
 have hshadow:W.shadowIn (some (z1G es n)) name=some false:=by
  unfold W.shadowIn W.lookIn
  rcases hl.2 with⟨_,e2⟩|⟨_,_,e1,_,_⟩
  ·simp[e2,hl.1]
  ·rw[hsh] at e1;cases e1
 refine Bx (wpAny_holding (W.method_fn (hM.kin.keeps c₁.toRelC.baseIn) (z3f c₁.toRelC hm) hM.ga hM.gk hM.fn hM.ty hshadow ?_))
 refine Bx (wpAny_of_eq hpos ?_)
 refine z0K (F:= .ref f) hM.cal (.ref f) (D:=D₁) rfl (evalArgs_none ⟨c₁.toRelC.baseIn,z1e a (hk.inF hA c₁ (.ref f) (.cons (.ref x) .nil))⟩)
end
section
open PyProof.Rows (IntsAre StrsAre sortedS)
noncomputable def z2u(l:List Int):List Int:=l.mergeSort λa b=>decide (a<=b)
noncomputable def leS(a b:Str):Bool:= !decide (b.cps.toList<a.cps.toList)
noncomputable def z2e(l:List Str):List Str:=l.mergeSort leS
theorem z1m(l:List Int):(z2u l).Perm l:=List.mergeSort_perm _ _
theorem z1n(l:List Str):(z2e l).Perm l:=List.mergeSort_perm _ _
theorem z7F(l:List Int):(z2u l).Pairwise (·<=·):=by
 have:=List.pairwise_mergeSort (le:=λa b:Int=>decide (a<=b)) (λa b c h1 h2=>AE (AQ (AD h1) (AD h2))) (λa b=>by rw[AV];exact(Int.le_total a b).imp AE AE) l
 exact this.imp λh=>by simpa using h
theorem z7E{a b:List Int}(p:a.Perm b)(h:a.Pairwise (·<=·)):a=z2u b:=
 (p.trans (z1m b).symm).eq_of_pairwise (λx y _ _ h1 h2=>Int.le_antisymm h1 h2) h (z7F b)
theorem z5V{a b c:Str}(h1:leS a b=true)(h2:leS b c=true):leS a c=true:=by
 simp only[leS,Bool.not_eq_true',decide_eq_false_iff_not] at*
 exact List.le_trans h1 h2
theorem z9A(a b:Str):(leS a b||leS b a)=true:=by
 simp only[leS,AV,Bool.not_eq_true',decide_eq_false_iff_not]
 exact List.le_total a.cps.toList b.cps.toList
theorem y06{a b:Str}(h1:leS a b=true)(h2:leS b a=true):a=b:=by
 simp only[leS,Bool.not_eq_true',decide_eq_false_iff_not] at*
 have:a.cps.toList=b.cps.toList:=List.le_antisymm h1 h2
 cases a;cases b;simp at this;simpa using this
theorem z7G(l:List Str):(z2e l).Pairwise (λa b=>leS a b=true):=List.pairwise_mergeSort (le:=leS) (λ_ _ _=>z5V) z9A l
theorem risingS_pw:∀(p:Str) (l:List Str),PyProof.Rows.risingS p l=true->(p::l).Pairwise (λa b=>leS a b=true)
 |p,[],_=>List.pairwise_singleton _ _
 |p,x::r,h=>by
  have h':(!PySem.Spec.ltCps x.cps.toList p.cps.toList&&PyProof.Rows.risingS x r)=true:=h
  simp only[AC,PyProof.Rows.ltCps_eq] at h'
  have ih:=risingS_pw x r h'.2
  refine List.pairwise_cons.mpr ⟨λy hy=> ?_,ih⟩
  rcases Ae.mp hy with rfl|hy
  ·exact h'.1
  ·exact z5V h'.1 ((List.pairwise_cons.mp ih).1 y hy)
theorem sortedS_pw:∀(l:List Str),sortedS l=true->l.Pairwise (λa b=>leS a b=true)
 |[],_=> .nil
 |x::r,h=>risingS_pw x r h
theorem z59{a b:List Str}(p:a.Perm b)(h:a.Pairwise (λa b=>leS a b=true)):a=z2e b:=
 (p.trans (z1n b).symm).eq_of_pairwise (λx y _ _ h1 h2=>y06 h1 h2) h (z7G b)
theorem z5H{a b:List Str}(p:a.Perm b):z2e a=z2e b:=z59 ((z1n a).trans p) (z7G a)
theorem z5G{a b:List Int}(p:a.Perm b):z2u a=z2u b:=z7E ((z1m a).trans p) (z7F a)
theorem A6.ofInts{w:World}{D:Gh}{vs:List Value}{ns:List Int}(h:IntsAre vs ns):A6 w D vs (ns.map V.int):=by
 induction h with
 |nil=>exact .nil
 |cons n t _ ih=>exact .cons (.int _ _) ih
theorem A6.ofStrs{w:World}{D:Gh}{vs:List Value}{ns:List Str}(h:StrsAre vs ns):A6 w D vs (ns.map V.str):=by
 induction h with
 |nil=>exact .nil
 |cons n t _ ih=>exact .cons (.str _ _) ih
theorem A6.ints{w:World}{D:Gh}{vs:List Value}{ns:List Int}(h:A6 w D vs (ns.map V.int)):IntsAre vs ns:=by
 induction ns generalizing vs with
 |nil=>rw[A6.nilI h];exact .nil
 |cons n ns ih=>
  apply A6.consE h;intro _ _ h1 h2
  apply VR.intE h1;intro t
  exact .cons _ _ (ih h2)
theorem A6.strs{w:World}{D:Gh}{vs:List Value}{ns:List Str}(h:A6 w D vs (ns.map V.str)):StrsAre vs ns:=by
 induction ns generalizing vs with
 |nil=>rw[A6.nilI h];exact .nil
 |cons n ns ih=>
  apply A6.consE h;intro _ _ h1 h2
  apply VR.strE h1;intro t
  exact .cons _ _ (ih h2)
section
variable {C:Cx} {η:Env} {ν:List Str} {gl:LV} {own:Bool} {d:Nat} {m m':Loc} {σ:Sto} {Q:VP} {QS:FP} {G D:Gh} {s:Shared} {A:Around} {K:Type} [DecidableEq K]
theorem z6A(kk:KK C.prog C.w K):∀{l:List Value} {cvs:List (K×Value)},l.length=cvs.length->(∀(j:Nat) v,l[j]? =some v->∃k x,cvs[j]? =some (k,x)/\kk.knd.is k v=true)->A6 C.w D l (cvs.map λp=>kk.v p.1)
 |[],[],_,_=> .nil
 |v::l,p::cvs,hl,h=>by
  obtain⟨k,x,e,hk⟩:=h 0 v rfl
  simp at e;subst e
  exact .cons (kk.ofIs hk) (z6A kk (by simpa using hl) λj u hu=>by simpa using h (j+1) u (by simpa using hu))
 |[],_::_,h,_=>by simp at h
 |_::_,[],h,_=>by simp at h
theorem z8F [HM C](kk:KK C.prog C.w K){a:Addr}{kvs:List (K×V)}(hs:z0J C)(hm:At σ a (.dict (z02 kk kvs)))(hn:(kvs.map (·.1)).Nodup)(hl:kvs.length<=sizeLine)(q:NLf Q (kvs.map λp=>kk.v p.1) σ):
  KW C d (.type "list") [.ref a] σ Q:=λA G D s v vs hA R hv hss=>by
 apply VR.typeE hv
 obtain⟨o,hm⟩:=hm
 apply A6.consE hss;intro _ _ h1 h2
 ·skip
  apply A6.nilE h2;apply VR.refE h1
  obtain⟨cvs,hD,hk⟩:=RelC.dcH R kk hm hn
  obtain⟨ep,hat⟩:=hD.dictAt
  refine W.kdl_call (W.kdl_dict (knd:=kk.knd) (kvs:=cvs) (ep:=ep) (R.notSys hs hm)) hA.hh hat (by rw[hk.length];exact hl) λh' tk acc' c' hk' hS hacc=> ?_
  refine R.madeL hk' (z7r _) hS (Xs:=kvs.map λp=>kk.v p.1) ?_ q
  have e1:(kvs.map λp=>kk.v p.1)=cvs.map λp=>kk.v p.1:=by
   have:=hk.keys
   have e2:=congrArg (List.map kk.v) this
   simpa[AJ,Function.comp_def] using e2.symm
  rw[e1]
  exact z6A kk (by rw[Bz];exact hacc.1) λj v e=>hacc.2 j v (by rw[<-Array.getElem?_toList];exact e)
theorem z2z{x:V}{xs:List V}{P:Sto->Prop}(h:A8 σ x (.list xs) P)(hl:xs.length<=sizeLine)(q:NLf Q xs σ):KW C d (.type "list") [x] σ Q:=λA G D s v vs hA R hv hss=>by
 apply VR.typeE hv
 apply A6.consE hss;intro _ _ h1 h2
 ·skip
  apply A6.nilE h2
  apply A8.isListE h R h1;intro a ws n ho hr
  refine call_list_seq a (T:="list") (.inl rfl) ho rfl rfl (λh' c' hk hS=> ?_) (by rw[show ws.size=xs.length by rw[<-hr.length];simp];exact hl)
  have:=R.madeL (t:=s.toks) hk (z7r _) hS hr q
  exact this
theorem z4m{h:Heap}{a b:Addr}{vs:List Value}{out:Array Value}{o:Obj}(hb:b≠a)(e:h.get? b=some o):(PyProof.Rows.sortedHeap h a vs out).get? b=some o:=by
 rw[PyProof.Rows.sortedHeap_old hb (Heap.lt_size e)];exact e
theorem z5n(R:RelC C G D σ s){h':Heap}{t:Nat}{vs:List Value}{out:Array Value}{Xs:List V}(hk:∀b o,s.heap.get? b=some o->h'.get? b=some o)(h:A6 C.w D out.toList Xs)(q:NLf Q Xs σ):
  A0 C G D Q (.ref h'.objs.size) {s with heap:=PyProof.Rows.sortedHeap (h'.push (PyProof.Rows.seqObj "list" vs.toArray 0)) h'.objs.size vs out,toks:=t}:=by
 obtain⟨e,he⟩:=PyProof.Rows.sortedHeap_at (h:=h'.push (PyProof.Rows.seqObj "list" vs.toArray 0)) (a:=h'.objs.size) (vs:=vs) (n:=0) (out:=out) (Heap.get?_push_size _ rfl)
 refine R.madeL (λb o eb=> ?_) ?_ he h q
 rotate_left
 ·cases e0:s.heap.get? h'.objs.size with
  |none=>rfl
  |some o=>exact absurd (Heap.lt_size (hk _ _ e0)) (Nat.lt_irrefl _)
 have hb:=hk b o eb
 exact z4m (Bq (Heap.lt_size hb)) (Heap.get?_push_of_some _ hb)
theorem z76 [HM C]{a:Addr}{kvs:List (Int×V)}(hs:z0J C)(hm:At σ a (.dict (z02 (KK.int C.prog C.w) kvs)))(hn:(kvs.map (·.1)).Nodup)(hl:kvs.length<64)(q:NLf Q ((z2u (kvs.map (·.1))).map V.int) σ):
  KW C d (.bi "sorted") [.ref a] σ Q:=λA G D s v vs hA R hv hss=>by
 apply VR.biE hv
 obtain⟨o,hm⟩:=hm
 apply A6.consE hss;intro _ _ h1 h2
 ·skip
  apply A6.nilE h2;apply VR.refE h1
  obtain⟨cvs,hD,hk⟩:=RelC.dcH R (KK.int C.prog C.w) hm hn
  obtain⟨ep,hat⟩:=hD.dictAt
  refine Calls.call_function_entry PyProof.Rows.kind_sorted PyProof.Rows.plain_sorted PyProof.Rows.entry_sorted (PyProof.Rows.args_sorted1 _) ?_
  unfold Builtin.«sorted»
  refine Bx (m:=checkCount "sorted" 1 1 _) (wpAny_pure ?_)
  refine Bx (W.kdu_collect (A:=A.in1) (W.kdl_dict (knd:=intKind C.prog C.w) (kvs:=cvs) (ep:=ep) (R.notSys hs hm)) hA.hh hat (by rw[hk.length];exact AZ (AF hl (by decide))) λh' tk acc hk' hacc=> ?_)
  have hlen:acc.toList.length=cvs.length:=by rw[Bz];exact hacc.1
  refine Bx (wpAny_newList ?_ (by rw[hlen,hk.length];exact AZ (AF hl (by decide))))
  have hI:IntsAre acc.toList (kvs.map (·.1)):=by
   have:=z6A (D:=D) (KK.int C.prog C.w) hlen λj v e=>hacc.2 j v (by rw[<-Array.getElem?_toList];exact e)
   have e1:(cvs.map λp=>(KK.int C.prog C.w).v p.1)=(kvs.map (·.1)).map V.int:=by rw[<-hk.keys,AJ];rfl
   rw[e1] at this;exact this.ints
  have hoL:(h'.push (PyProof.Rows.seqObj "list" acc.toList.toArray 0)).get? h'.objs.size=some (PyProof.Rows.seqObj "list" acc.toList.toArray 0):=Heap.get?_push_size _ rfl
  refine Bx (wpAny_holding (wpAny_call_entry PyProof.Rows.slot_list_sort ⟨_,hoL,rfl⟩ PyProof.Rows.entry_list_sort (PyProof.Rows.list_sort_tree hoL hI (by rw[hlen,hk.length];exact hl) λout ns' a1 a2 a3=>⟨_,rfl,?_⟩) (PyProof.Rows.args_list_sort _)))
  refine wpAny_pure ⟨_,rfl,?_⟩
  refine z5n R hk' (A6.ofInts a1) ?_
  rw[z7E a2 a3];exact q
theorem z77 [HM C]{a:Addr}{kvs:LV}(hs:z0J C)(hm:At σ a (.dict (z02 (KK.str C.prog C.w) kvs)))(hn:(kvs.map (·.1)).Nodup)(hl:kvs.length<64)(q:NLf Q ((z2e (kvs.map (·.1))).map V.str) σ):
  KW C d (.bi "sorted") [.ref a] σ Q:=λA G D s v vs hA R hv hss=>by
 apply VR.biE hv
 obtain⟨o,hm⟩:=hm
 apply A6.consE hss;intro _ _ h1 h2
 ·skip
  apply A6.nilE h2;apply VR.refE h1
  obtain⟨cvs,hD,hk⟩:=RelC.dcH R (KK.str C.prog C.w) hm hn
  obtain⟨ep,hat⟩:=hD.dictAt
  refine Calls.call_function_entry PyProof.Rows.kind_sorted PyProof.Rows.plain_sorted PyProof.Rows.entry_sorted (PyProof.Rows.args_sorted1 _) ?_
  unfold Builtin.«sorted»
  refine Bx (m:=checkCount "sorted" 1 1 _) (wpAny_pure ?_)
  refine Bx (W.kdu_collect (A:=A.in1) (W.kdl_dict (knd:=strKind C.prog C.w) (kvs:=cvs) (ep:=ep) (R.notSys hs hm)) hA.hh hat (by rw[hk.length];exact AZ (AF hl (by decide))) λh' tk acc hk' hacc=> ?_)
  have hlen:acc.toList.length=cvs.length:=by rw[Bz];exact hacc.1
  refine Bx (wpAny_newList ?_ (by rw[hlen,hk.length];exact AZ (AF hl (by decide))))
  have hI:StrsAre acc.toList (kvs.map (·.1)):=by
   have:=z6A (D:=D) (KK.str C.prog C.w) hlen λj v e=>hacc.2 j v (by rw[<-Array.getElem?_toList];exact e)
   have e1:(cvs.map λp=>(KK.str C.prog C.w).v p.1)=(kvs.map (·.1)).map V.str:=by rw[<-hk.keys,AJ];rfl
   rw[e1] at this;exact this.strs
  have hoL:(h'.push (PyProof.Rows.seqObj "list" acc.toList.toArray 0)).get? h'.objs.size=some (PyProof.Rows.seqObj "list" acc.toList.toArray 0):=Heap.get?_push_size _ rfl
  refine Bx (wpAny_holding (wpAny_call_entry PyProof.Rows.slot_list_sort ⟨_,hoL,rfl⟩ PyProof.Rows.entry_list_sort (PyProof.Rows.list_sort_treeK PyProof.Rows.strKind_oneLt hoL hI.keysOf (λv₁ v₂ rest e=>PyProof.Rows.keyKind_strs (by rw[<-e];exact hI)) (by rw[hlen,hk.length];exact hl) λst' hp hst=>⟨_,rfl,?_⟩) (PyProof.Rows.args_list_sort _)))
  refine wpAny_pure ⟨_,rfl,?_⟩
  obtain⟨ss',a1,a2,a3⟩:=PyProof.Rows.sorted_out_str hI hp hst
  refine z5n R hk' (A6.ofStrs a1) ?_
  rw[z59 a2 (sortedS_pw _ a3)];exact q
end
end
section
open PyProof.Rows (IntsAre StrsAre)
section
variable {C:Cx} {η:Env} {ν:List Str} {gl:LV} {own:Bool} {d:Nat} {m m':Loc} {σ:Sto} {Q:VP} {QS:FP} {P:Bool->Sto->Prop} {G D:Gh} {s:Shared} {A:Around} {K:Type} [DecidableEq K]
theorem A3.drop(R:A3 C η ν gl own G D m σ s){τ:Sto}(hs:τ.Sublist σ):A3 C η ν gl own G D m τ s:=R.back (R.lifted.drop hs) (DX.refl _ _)
theorem C9.line0{A:Around}{d:Nat}(h:C9 C A d):A.units<cLine:=AG (Bn _ _) (AY h.units (by decide))
theorem y2W(kk:KK C.prog C.w K){a b:Addr}{kvs:List (K×V)}(hs:z0J C)(ha:At σ a (.dict (z02 kk kvs)))(hn:(kvs.map (·.1)).Nodup)(hb:At σ b (.dict []))(q:Q (.bool kvs.isEmpty) σ):
  AC2 C d (compareOp .Eq) (.ref a) (.ref b) σ Q:=λA G D s v u hA R hv hu=>by
 obtain⟨oa,ha⟩:=ha;obtain⟨ob,hb⟩:=hb
 obtain⟨_,cvs,e,hD,hk⟩:=(A8.refD ha).isD kk hn R hv
 obtain⟨_,cv2,e2,hD2,hk2⟩:=A8.isD (x:= .ref b) (kvs:=[]) kk (A8.refD hb) .nil R hu
 obtain rfl:=VR.refI hv;obtain rfl:=VR.refI hu;cases e;cases e2;cases hk2
 refine W.keq_eq (r:=true) (R.notSys hs ha) (R.notSys hs hb) hD hD2 hA.line0 (λhl=> ?_) (A0.now R (.bool _) ?_)
 ·cases cvs with
  |nil=>exact .nil
  |cons _ _=>simp at hl
 ·have:(cvs.length==([]:List (K×Value)).length&&true)=kvs.isEmpty:=by rw[hk.length];cases kvs<;>simp
  rw[this];exact q
theorem y4C(kk:KK C.prog C.w K){a b:Addr}{kvs:List (K×V)}(hs:z0J C)(ha:At σ a (.dict (z02 kk kvs)))(hn:(kvs.map (·.1)).Nodup)(hb:At σ b (.dict []))(q:Q (.bool (!kvs.isEmpty)) σ):
  AC2 C d (compareOp .NotEq) (.ref a) (.ref b) σ Q:=λA G D s v u hA R hv hu=>by
 obtain⟨oa,ha⟩:=ha;obtain⟨ob,hb⟩:=hb
 obtain⟨_,cvs,e,hD,hk⟩:=(A8.refD ha).isD kk hn R hv
 obtain⟨_,cv2,e2,hD2,hk2⟩:=A8.isD (x:= .ref b) (kvs:=[]) kk (A8.refD hb) .nil R hu
 obtain rfl:=VR.refI hv;obtain rfl:=VR.refI hu;cases e;cases e2;cases hk2
 refine W.keq_ne (r:=true) (R.notSys hs ha) (R.notSys hs hb) hD hD2 hA.line0 (λhl=> ?_) (A0.now R (.bool _) ?_)
 ·cases cvs with
  |nil=>exact .nil
  |cons _ _=>simp at hl
 ·have:(cvs.length==([]:List (K×Value)).length&&true)=kvs.isEmpty:=by rw[hk.length];cases kvs<;>simp
  rw[this];exact q
theorem z6V(kk:KK C.prog C.w K){ke ve:Expr}{p:Pos}(h:∀a o,A4 σ a->AT C η ν gl own d (eval ke η) m ((a,o,.dict [])::σ) λX σ₁=>AT C η ν gl own d (eval ve η) m σ₁ λY σ₂=>
   ∃k,X=kk.v k/\σ₂=(a,o,.dict [])::σ/\∀o',Q (.ref a) ((a,o',.dict (z02 kk [(k,Y)]))::σ)):
  AT C η ν gl own d (eval (.Dict [some ke] [ve] p) η) m σ Q:=λA G D s hA R=>by
 refine wpAny_Dict_pairs (knd:=kk.knd) (pairs:=[(eval ke η,do let x <-eval ve η;standAt p;pure x)]) rfl (by simp) (by simp) ?_
 have R₁:A3 C η ν gl own G D m ((s.heap.objs.size,z1G #[] 0,.dict [])::σ) {s with heap:=s.heap.push (z1G #[] 0)}:=
  R.back (R.lifted.newM (z1G #[] 0) (.dict []) ⟨#[],0,rfl,.nil⟩ rfl (λ_ _=>rfl)) (DX.refl _ _)
 refine evalPairs_cons ((h _ _ R.toRelC.fresh).run hA R₁ λv s₁ X D₁ σ₁ a b c e=> ?_)
 refine Bx (e.run hA c λu s₂ Y D₂ σ₂ a' b' c' hpp=> ?_)
 refine nG λhG=> ?_
 obtain⟨k,hX,hσ,q⟩:=hpp
 refine hG ?_
 refine Bx (wpAny_standAt (wpAny_pure (evalPairs_nil ?_)))
 subst hX hσ
 have ho:s₂.heap.get? s.heap.objs.size=some (z1G #[] 0):=c'.pl _ (.head _)
 refine⟨[(k,u)],⟨kk.isOf (b.mono a'.sub),rfl,trivial⟩,⟨_,#[],0,ho,⟨rfl,rfl,rfl⟩,rfl,λe he=>by simp at he,.nil,.nil⟩,λh' hD' hs'=> ?_⟩
 have hm:merged ([]:List (K×Value)) [(k,u)]=[(k,u)]:=by simp[merged,stored]
 rw[hm] at hD'
 refine nG λhG=> ?_
 obtain⟨o',ho',hr'⟩:=HR.ofDict kk hD' (kvs:=[(k,Y)]) (.cons b' .nil)
 refine hG ?_
 exact⟨.ref _,D₂,_,a.trans a',.ref _,c'.back (c'.lifted.upd (F9.head (o':=o') (x':= .dict (z02 kk [(k,Y)]))) _ (z0C _ _) hs' rfl ho' hr') (DX.refl _ _),q o'⟩
theorem z99{x:V}{xs:List Str}{k:Str}{P:Sto->Prop}(h:A8 σ x (.list (xs.map V.str)) P)(q:Q (.bool (!(xs.any (·==k)))) σ):AC2 C d (compareOp .NotIn) (.str k) x σ Q:=λA G D s v u hA R hv hu=>by
 apply A8.isLE h R hu;intro a ws hL hr
 apply VR.strE hv;intro _
 exact PyProof.Rows.notin_list_strs (vs:=ws.toList) (by simpa using hL) hr.strs (A0.now R (.bool _) q)
theorem y3A{x:V}{xs:List Str}{k:Str}{P:Sto->Prop}(h:A8 σ x (.list (xs.map V.str)) P)(q:Q (.bool (xs.any (·==k))) σ):AC2 C d (compareOp .In) (.str k) x σ Q:=λA G D s v u hA R hv hu=>by
 apply A8.isLE h R hu;intro a ws hL hr
 apply VR.strE hv;intro _
 exact PyProof.Rows.in_list_strs (vs:=ws.toList) (by simpa using hL) hr.strs (A0.now R (.bool _) q)
theorem IW.ofWalksT{elts:List Expr}{k:Nat}{pos:Pos}{I:Addr}{fp wr:List Addr}{n:Nat}{Pw:Nat->Array Value->Prop}{St:Nat->Heap->Prop}{Mid:Nat->Addr->Heap->Prop}{xs:List V}(W:WalksT C.prog C.w A I fp wr n Pw St Mid)(hn:n=xs.length)
  (hx:∀(i:Nat) vals X,Pw i vals->xs[i]? =some X->∃Xs,X= .tup Xs/\A6 C.w D vals.toList Xs) (hl:∀i h,St i h->∀a∈wr,∃o,h.get? a=some o/\¬frk o)
  (hold:∀b∈fp,b∉wr->∀h:Heap,St 0 h->h.get? b=none->False):IW C A (.Tuple elts k pos) I fp wr D xs St where
 live:=hl
 sub:=W.sub
 old:=hold
 frame:=W.frame
 item:=λi X s K hX st h=>W.item i s K _ (by rw[hn];exact(An.mp hX).1) st λT vals h' tk hP hT ht hM hk=>h (.ref T) _ λQ' q=>by
  obtain⟨Xs,rfl,hv⟩:=hx i vals X hP hX
  refine W.go elts k pos i T _ Q' _ hM λh'' st' hk'=> ?_
  obtain⟨o,ho,hc,n',hd⟩:=ht
  exact q h'' tk (.inr ⟨T,o,vals.toList,n',Xs,rfl,rfl,hv,hT,hk' T o (W.apart _ _ _ hM) ho,hc,by simpa using hd⟩) st' λb ob hb e=>hk' b ob hb (hk b ob hb e)
 self:=λi s K st h=>W.self i s K _ st h
 done:=λs K st h=>W.done s K _ (by rw[hn];exact st) λh' tk hk=>h h' tk hk
noncomputable def z3L(xs:List V):List V:=xs.zipIdx.map λp=>V.tup [.int p.2,p.1]
variable {QI:List V->(Sto->Prop)->Sto->Prop}
theorem y1L [HM C]{np p:Pos}{e:Expr}{elts:List Expr}{k:Nat}{pos:Pos}(h:AT C η ν gl own d (eval (.Name "enumerate" np) η) m σ λF σ₁=>F= .type "enumerate"/\AL C η ν gl own d (spliced (backTo p (starEach [e] η))) m σ₁ λXs σ₂=>∃X xs P,Xs=[X]/\A8 σ₂ X (.list xs) P/\QI (z3L xs) P σ₂)
  (he:autoParam (starEach [e] η=(false,eval e η)::starEach [] η) auR) (hplain:autoParam ((backTo p (starEach [] η)).any (·.1)=false) auR):
  AI C η ν gl own d (.Call (.Name "enumerate" np) [e] [] p) (.Tuple elts k pos) m σ QI:=λA G D s hA R=>by
 refine wpAny_Call_ofName (h.run hA R λv s₁ F D₁ σ₁ a b c hpp=> ?_)
 obtain⟨hF,hk⟩:=hpp
 subst hF
 refine z0K (F:= .type "enumerate") trivial b (by rw[he];exact hplain) ?_
 rw[he] at hk⊢
 refine Calls.evalArgs_plain (AL.run hk hA c λvs s₂ Xs D₂ σ₂ a' b' c' hpp=> ?_)
 refine nG λhG=> ?_
 obtain⟨X,xs,P,hX,hH,q⟩:=hpp
 refine hG ?_
 refine⟨c'.toRelC.baseIn,?_⟩
 subst hX
 apply VR.typeE b
 apply A6.consE b';intro _ _ h1 h2
 ·skip
  apply A6.nilE h2
  apply A8.runLE hH c'.toRelC h1;intro ax ws n ho hr hP hst
  refine call_enumerate_1 ho λh' hen hit hsz hkp=>wpAny_pyIter_enum hen ?_
  have hlt:=Heap.lt_size ho
  have hl:h'.IsList ax ws:=⟨_,hkp _ _ ho,rfl,n,rfl⟩
  have R':A3 C η ν gl own G D₂ m σ₂ {s₂ with heap:=h'}:=by
   have:=R.ok
   exact c'.back (c'.lifted.keep s₂.toks hkp) (DX.refl _ _)
  have offn:∀b,s₂.heap.objs.size<=b->G b=none/\D₂ b=none/\b∉A5 σ₂/\¬z2y η ν b:=λb hb=>⟨by
    cases e:G b with
    |none=>rfl
    |some o=>obtain⟨_,h,_⟩:=c'.g _ _ e;exact absurd (Heap.lt_size h) (BC.mpr hb),by
    cases e:D₂ b with
    |none=>rfl
    |some o=>exact absurd (Heap.lt_size (c'.d _ _ e)) (BC.mpr hb),λhf=>absurd (c'.toRelC.footLt hf) (BC.mpr hb),λhm=>by
    obtain⟨o,eo⟩:=c'.mineLives hm
    exact absurd (Heap.lt_size eo) (BC.mpr hb)⟩
  refine⟨D₂,σ₂,z3L xs,P,a.trans a',⟨s₂.heap.objs.size+1,_,_,_,rfl,IW.ofWalksT (WalksT.enumerate hA.hh (s₂.heap.objs.size+1) s₂.heap.objs.size ax (Nat.succ_ne_self _) (Bq (Nat.lt_succ_of_lt hlt)) (Bq hlt) ws) (by simp[z3L];rw[<-hr.length];simp) ?_ ?_ ?_,⟨⟨_,hen⟩,hit,hl⟩,R',?_,hP,?_⟩,q⟩
  ·rintro i vals X ⟨t,x,hx,rfl⟩ hX
   have h3:∃Y,xs[i]? =some Y/\X= .tup [.int i,Y]:=by
    simp only[z3L,Al,List.getElem?_zipIdx,AP] at hX
    cases e3:xs[i]? with
    |none=>rw[e3] at hX;simp at hX
    |some Y=>rw[e3] at hX;simp at hX;exact⟨Y,rfl,hX.symm⟩
   refine nG λhG=> ?_
   obtain⟨Y,hY,rfl⟩:=h3
   refine hG ?_
   refine nG λhG=> ?_
   obtain⟨u',e',r⟩:=hr.get hY
   refine hG ?_
   rw[Array.getElem?_toList,hx] at e';cases e'
   exact⟨_,rfl,.cons (.int _ _) (.cons r .nil)⟩
  ·rintro i h ⟨⟨old,he1⟩,⟨o1,ho1,hc1,_⟩,_⟩ b hb
   simp at hb
   rcases hb with rfl|rfl
   ·exact⟨_,he1,nfC (frN (by decide))⟩
   ·exact⟨_,ho1,nfC (by rw[hc1];exact frN (by decide))⟩
  ·rintro b hb hbw h ⟨_,_,⟨o1,ho1,_⟩⟩ e1
   simp at hb hbw
   rcases hb with rfl|rfl|rfl
   ·exact hbw.1 rfl
   ·exact hbw.2 rfl
   ·rw[ho1] at e1;cases e1
  ·intro b hb
   simp at hb
   rcases hb with rfl|rfl
   ·exact offn _ (Nat.le_succ _)
   ·exact offn _ (AN _)
  ·intro G' D' σ' s' Rx hsb hP' b hb hbw o' e1
   simp at hb hbw
   rcases hb with rfl|rfl|rfl
   ·exact absurd rfl hbw.1
   ·exact absurd rfl hbw.2
   ·have e2:h'.get? b=some o':=e1
    rw[hkp _ _ ho] at e2;cases e2;exact hst G' D' σ' s' Rx hsb hP'
end
end
section
variable {C:Cx} {d:Nat} {σ:Sto} {Q:VP} {K:Type} [DecidableEq K]
theorem y2Z(kk:KK C.prog C.w K){a:Addr}{o:Obj}{kvs:List (K×V)}{k:K}(hs:z0J C)(hm:(a,o,AO.dict (z02 kk kvs))∈σ)(hn:(kvs.map (·.1)).Nodup)(q:Q (.bool (!(vAt kvs k).isSome)) σ):
  AC2 C d (compareOp .NotIn) (kk.v k) (.ref a) σ Q:=λA G D s v u hA R hv hu=>by
 obtain⟨b,cvs,e,hD,hk⟩:=(A8.refD hm).isD kk hn R hu
 obtain rfl:=VR.refI hu;cases e
 refine wpAny_notIn_of (kk.isOf hv) (R.notSys hs hm) hD.mapOf ?_
 have:(valueAt cvs k).isSome=(vAt kvs k).isSome:=by
  rcases hk.at k with⟨e1,e2⟩|⟨_,_,e1,e2,_⟩<;>rw[e1,e2]<;>rfl
 rw[this]
 exact A0.now (R.tok _) (.bool _) q
end
noncomputable abbrev dS(kvs:LV):AO:= .dict (kvs.map λp=>(V.str p.1,p.2))
section
variable {C:Cx} {η:Env} {ν:List Str} {gl:LV} {own:Bool} {d:Nat} {m m':Loc} {σ:Sto} {Q:VP} {QS:FP} {PB:Bool->Sto->Prop} {PS:Sto->Prop} {a:Addr} {kvs:LV} {k:Str} {X:V}
theorem z3u(h:At σ a (dS kvs))(hn:(kvs.map (·.1)).Nodup)(hx:vAt kvs k=some X)(q:Q X σ):C2 C d (.ref a) (V.str k) σ Q:=by
 obtain⟨o,h⟩:=h
 exact y0b (KK.str C.prog C.w) (A8.refD h) hn hx q
theorem z38(hs:z0J C)(h:At σ a (dS kvs))(hn:(kvs.map (·.1)).Nodup)(q:Q (.bool (vAt kvs k).isSome) σ):AC2 C d (compareOp .In) (V.str k) (.ref a) σ Q:=by
 obtain⟨o,h⟩:=h
 exact y2X (KK.str C.prog C.w) hs h hn q
theorem z41(hs:z0J C)(h:At σ a (dS kvs))(hn:(kvs.map (·.1)).Nodup)(q:Q (.bool (!(vAt kvs k).isSome)) σ):AC2 C d (compareOp .NotIn) (V.str k) (.ref a) σ Q:=by
 obtain⟨o,h⟩:=h
 exact y2Z (KK.str C.prog C.w) hs h hn q
theorem z8E(hs:z0J C)(h:At σ a (dS kvs))(hn:(kvs.map (·.1)).Nodup)(q:Q ((vAt kvs k).getD X) σ):KW C d (.bi "dict.get") [.ref a,V.str k,X] σ Q:=by
 obtain⟨o,h⟩:=h
 exact y3J (KK.str C.prog C.w) hs h hn q
theorem z8H(h:At σ a (dS kvs))(hn:(kvs.map (·.1)).Nodup)(hl:kvs.length<=sizeLine)(hx:vAt kvs k=some X)(q:∀σ',C5 σ σ' a (dS (z21 kvs k))->Q X σ'):KW C d (.bi "dict.pop") [.ref a,V.str k] σ Q:=by
 obtain⟨o,σ',U,US⟩:=h.upd (dS (z21 kvs k))
 exact y0l (KK.str C.prog C.w) U hn hl hx λo'=>q _ (US o')
theorem z45(hs:z0J C)(h:At σ a (dS kvs))(hn:(kvs.map (·.1)).Nodup)(hl:kvs.length<=sizeLine)(q1:∀Y,vAt kvs k=some Y->Q Y σ)(q2:vAt kvs k=none->∀σ',C5 σ σ' a (dS (z2t kvs k X))->Q X σ'):
  KW C d (.bi "dict.setdefault") [.ref a,V.str k,X] σ Q:=by
 obtain⟨o,σ',U,US⟩:=h.upd (dS (z2t kvs k X))
 exact z6m (KK.str C.prog C.w) hs U hn hl q1 λe o'=>q2 e _ (US o')
theorem y0x(h:At σ a (dS kvs))(hn:(kvs.map (·.1)).Nodup)(hl:kvs.length<=sizeLine)(q:∀σ',C5 σ σ' a (dS (z2t kvs k X))->PS σ'):SetR C d (.ref a) (V.str k) X σ PS:=by
 obtain⟨o,σ',U,US⟩:=h.upd (dS (z2t kvs k X))
 exact z48 (KK.str C.prog C.w) U hn hl λo'=>q _ (US o')
theorem z4L(hs:z0J C)(h:At σ a (dS kvs))(hn:(kvs.map (·.1)).Nodup)(hl:kvs.length<=sizeLine)(q:Q (.int kvs.length) σ):KW C d (.bi "len") [.ref a] σ Q:=by
 obtain⟨o,h⟩:=h
 exact y0i (KK.str C.prog C.w) hs h hn hl q
theorem y0k [HM C](hs:z0J C)(h:At σ a (dS kvs))(hn:(kvs.map (·.1)).Nodup)(hl:kvs.length<=sizeLine)(q:NLf Q (kvs.map λp=>V.str p.1) σ):KW C d (.type "list") [.ref a] σ Q:=
 z8F (KK.str C.prog C.w) hs h hn hl q
theorem z63 [HM C](hs:z0J C)(h:At σ a (dS kvs))(hn:(kvs.map (·.1)).Nodup)(hl:kvs.length<64)(q:NLf Q ((z2e (kvs.map (·.1))).map V.str) σ):KW C d (.bi "sorted") [.ref a] σ Q:=
 z77 hs h hn hl q
end
noncomputable abbrev dI(kvs:List (Int×V)):AO:= .dict (kvs.map λp=>(V.int p.1,p.2))
section
variable {C:Cx} {η:Env} {ν:List Str} {gl:LV} {own:Bool} {d:Nat} {m m':Loc} {σ:Sto} {Q:VP} {QS:FP} {PB:Bool->Sto->Prop} {PS:Sto->Prop} {a:Addr} {kvs:List (Int×V)} {k:Int} {X:V}
theorem y3G(h:At σ a (dI kvs))(hn:(kvs.map (·.1)).Nodup)(hx:vAt kvs k=some X)(q:Q X σ):C2 C d (.ref a) (V.int k) σ Q:=by
 obtain⟨o,h⟩:=h
 exact y0b (KK.int C.prog C.w) (A8.refD h) hn hx q
theorem z95(hs:z0J C)(h:At σ a (dI kvs))(hn:(kvs.map (·.1)).Nodup)(q:Q (.bool (vAt kvs k).isSome) σ):AC2 C d (compareOp .In) (V.int k) (.ref a) σ Q:=by
 obtain⟨o,h⟩:=h
 exact y2X (KK.int C.prog C.w) hs h hn q
theorem y3F(hs:z0J C)(h:At σ a (dI kvs))(hn:(kvs.map (·.1)).Nodup)(q:Q (.bool (!(vAt kvs k).isSome)) σ):AC2 C d (compareOp .NotIn) (V.int k) (.ref a) σ Q:=by
 obtain⟨o,h⟩:=h
 exact y2Z (KK.int C.prog C.w) hs h hn q
theorem z8G(h:At σ a (dI kvs))(hn:(kvs.map (·.1)).Nodup)(hl:kvs.length<=sizeLine)(hx:vAt kvs k=some X)(q:∀σ',C5 σ σ' a (dI (z21 kvs k))->Q X σ'):KW C d (.bi "dict.pop") [.ref a,V.int k] σ Q:=by
 obtain⟨o,σ',U,US⟩:=h.upd (dI (z21 kvs k))
 exact y0l (KK.int C.prog C.w) U hn hl hx λo'=>q _ (US o')
theorem z8a(h:At σ a (dI kvs))(hn:(kvs.map (·.1)).Nodup)(hl:kvs.length<=sizeLine)(q:∀σ',C5 σ σ' a (dI (z2t kvs k X))->PS σ'):SetR C d (.ref a) (V.int k) X σ PS:=by
 obtain⟨o,σ',U,US⟩:=h.upd (dI (z2t kvs k X))
 exact z48 (KK.int C.prog C.w) U hn hl λo'=>q _ (US o')
theorem z4K(hs:z0J C)(h:At σ a (dI kvs))(hn:(kvs.map (·.1)).Nodup)(hl:kvs.length<=sizeLine)(q:Q (.int kvs.length) σ):KW C d (.bi "len") [.ref a] σ Q:=by
 obtain⟨o,h⟩:=h
 exact y0i (KK.int C.prog C.w) hs h hn hl q
theorem y0j [HM C](hs:z0J C)(h:At σ a (dI kvs))(hn:(kvs.map (·.1)).Nodup)(hl:kvs.length<=sizeLine)(q:NLf Q (kvs.map λp=>V.int p.1) σ):KW C d (.type "list") [.ref a] σ Q:=
 z8F (KK.int C.prog C.w) hs h hn hl q
theorem z62 [HM C](hs:z0J C)(h:At σ a (dI kvs))(hn:(kvs.map (·.1)).Nodup)(hl:kvs.length<64)(q:NLf Q ((z2u (kvs.map (·.1))).map V.int) σ):KW C d (.bi "sorted") [.ref a] σ Q:=
 z76 hs h hn hl q
end
section
variable {C:Cx} {η:Env} {ν:List Str} {gl:LV} {own:Bool} {d:Nat} {m m':Loc} {σ:Sto} {Q:VP} {QS:FP} {a:Addr}
theorem y0e{xs:List V}{X:V}(h:At σ a (.list xs))(hl:xs.length<=sizeLine)(q:∀σ',C5 σ σ' a (.list (xs++[X]))->Q .none σ'):KW C d (.bi "list.append") [.ref a,X] σ Q:=by
 obtain⟨o,σ',U,US⟩:=h.upd (.list (xs++[X]))
 exact z43 U hl λo'=>q _ (US o')
def z4p(c:Addr)(name:Str)(Y:V)(τ:Sto)(P:Addr->Prop):Prop:=∃x dx fs,Y= .ref x/\At τ x (.inst c dx fs)/\fs.lookup name=none/\P x
theorem y3c{c dx:Addr}{name:Str}{fs:LV}{P:Addr->Prop}(h:At σ a (.inst c dx fs))(hl:fs.lookup name=none)(q:P a):z4p c name (.ref a) σ P:=⟨a,dx,fs,rfl,h,hl,q⟩
def z5M(c:Addr)(name:Str)(Y:V)(τ:Sto)(P:V->Prop):Prop:=∃x dx fs Z,Y= .ref x/\At τ x (.inst c dx fs)/\fs.lookup name=some Z/\(∀n,Z≠ .bi n)/\P Z
theorem y27{c dx:Addr}{name:Str}{fs:LV}{b:Addr}{P:V->Prop}(h:At σ a (.inst c dx fs))(hl:fs.lookup name=some (.ref b))(q:P (.ref b)):z5M c name (.ref a) σ P:=⟨a,dx,fs,_,rfl,h,hl,(λn e=>by cases e),q⟩
theorem z4Z{K:W.Frag}{c f:Addr}{o e:Expr}{rest:List Expr}{name:Str}{ap p:Pos}(hM:B3 C K c name f)
  (h:AT C η ν gl own d (eval o η) m σ λX σ₁=>z4p c name X σ₁ λx=>AL C η ν gl own d (spliced (backTo p (starEach (e::rest) η))) m σ₁ λXs σ₂=>KW C d (.ref f) (.ref x::Xs) σ₂ Q)
  (hbase:autoParam (attributeBase o name η (eval o η)=eval o η) auR) (hline:autoParam ((ap.endLine==p.line)=true) auR)
  (he:autoParam (starEach (e::rest) η=(false,eval e η)::starEach rest η) auR) (hplain:autoParam ((backTo p (starEach rest η)).any (·.1)=false) auR)
  (hfew:autoParam (((backTo p (starEach (e::rest) η)).all (λx=> !x.1)&&(backToKw p (keywordEach [] η)).all (λx=>x.1.isSome)&&decide ((e::rest).length+([]:List Keyword).length+(if([]:List Keyword).isEmpty then 0 else 1)<30))=true) auR):
  AT C η ν gl own d (eval (.Call (.Attribute o name ap) (e::rest) [] p) η) m σ Q:=
 z9X hM (h.mono λX σ₁ hpp=>by obtain⟨x,dx,fs,hX,⟨ob,hm⟩,hl,k⟩:=hpp;exact⟨x,ob,dx,fs,hX,hm,hl,k⟩) hbase hline he hplain hfew
theorem z35{K:W.Frag}{c f:Addr}{o:Expr}{name:Str}{ap p:Pos}(hM:B3 C K c name f)
  (h:AT C η ν gl own d (eval o η) m σ λX σ₁=>z4p c name X σ₁ λx=>KW C d (.ref f) [.ref x] σ₁ Q)
  (hbase:autoParam (attributeBase o name η (eval o η)=eval o η) auR) (hline:autoParam ((ap.endLine==p.line)=true) auR):
  AT C η ν gl own d (eval (.Call (.Attribute o name ap) [] [] p) η) m σ Q:=z9s hM h hbase hline
theorem z1B{K:W.Frag}{c:Addr}{o:Expr}{name:Str}{p:Pos}(hM:F1 C K c name)
  (h:AT C η ν gl own d (eval o η) m σ λX σ₁=>z5M c name X σ₁ λY=>Q Y σ₁)
  (hbase:autoParam (attributeBase o name η (eval o η)=eval o η) auR) (ht:∀u r,letTemporaryGo o u r=pure ():=by intro _ _;with_unfolding_all exact rfl):
  AT C η ν gl own d (eval (.Attribute o name p) η) m σ Q:=
 y1M hM (h.mono λX σ₁ hpp=>by obtain⟨x,dx,fs,Y,hX,⟨ob,hm⟩,hl,hb,k⟩:=hpp;exact⟨x,ob,dx,fs,Y,hX,hm,hl,hb,k⟩) hbase ht
theorem tyD{es:List (V×V)}(h:At σ a (.dict es)):TyR C (.ref a) σ "dict":=by
 obtain⟨o,h⟩:=h
 exact y0A (A8.refD h)
theorem tyL{xs:List V}(h:At σ a (.list xs)):TyR C (.ref a) σ "list":=by
 obtain⟨o,h⟩:=h
 exact y0B (A8.refL h)
end
theorem keys_miss:typeLookup (.type "list") "keys"=pure none:=by rw[typeLookup_type,builtinLookup_eq_fast];kernel_rfl
theorem getAttr?_miss{prog:Program}{w:World}{A:Around}{E:Value->Shared->Prop}{s:Shared}{a:Addr}{xs:Array Value}{k:Nat}{Q:Option Value->Shared->Prop}
  (hx:s.heap.get? a=some (z0q xs k)) (hA:A.handled=none)
  (h:∀h' tk,(∀b o,s.heap.get? b=some o->h'.get? b=some o)->Q none {s with heap:=h',toks:=tk}):
  wpAny (model prog w) A (getAttr? (.ref a) "keys") Q E s:=by
 obtain⟨hp,g,d,tk,os⟩:=s
 have hT:∀tk',(⟨hp,g,d,tk',os⟩:Shared).TypeIs (.ref a) "list":=λ_=>⟨_,hx,rfl⟩
 have f1:=sub_AttributeError
 have f3:=F.slot_list_getattribute.lookup
 have f4:=F.slot_list_getattribute.bind (.ref a)
 have f5:=am_list_getattr_none
 unfold getAttr? getAttrBy? getAttrBy
 repeat (any_goals (first|assumption|exact hT _|((with_reducible show wpAny _ _ (call (Value.builtin "list.__getattribute__") _ _) _ _ _);refine call_meets F.slot_list_getattribute (hT _) am_entry_list_getattribute (F.args_list_getattribute_2 _ _) (meets_getattribute_miss_list a xs k #[] "keys" _ keys_miss (by decide+kernel) (by decide+kernel)) ⟨hx,hA,λh' tk' e hx'=> ?_⟩)|wp_step))
 obtain⟨t',u',he⟩:=hx'.there
 show wpAny _ _ (getattributeRaised _ _ _ _ _ _ _) _ _ _
 unfold getattributeRaised
 repeat (any_goals (first|assumption|wp_step))
 exact h _ _ hx'.keeps
theorem D2:entryFor table "dict.update.loop"=some Builtin.«dict.update.loop»:=entryFor_of_tree (by kernel_rfl)
theorem B7:plainId "dict.update.loop"=true:=by decide+kernel
section
variable {prog:Program} {w:World} {K:Type} [DecidableEq K] {knd:KeyKind prog w K} {A:Around} {E:Value->Shared->Prop}
def y0p(knd:KeyKind prog w K)(h:Heap)(v:Value)(p:K×Value):Prop:=∃t o key n,v= .ref t/\h.get? t=some o/\o.cls= .type "tuple"/\o.data= .seq #[key,p.2] n/\knd.is p.1 key=true
theorem z7K{S I ax:Addr}{ws:Array Value}{R:Result->Shared->Prop}(hh:A.handled=none)(hIS:I≠S)(hax:ax≠I)(hxS:ax≠S)(ps:List (K×Value))(hl:ps.length=ws.size)(hz:ps.length<=1000):
  ∀(k i:Nat) (s:Shared) (acc:List (K×Value)),ws.size-i=k->i<=ws.size->s.heap.IsListIter I ax i->s.heap.IsList ax ws->s.heap.DictOf knd S acc->acc.length<=i->
   (∀(j:Nat) v p,ws[j]? =some v->ps[j]? =some p->y0p knd s.heap v p)->(∀(j:Nat) t,ws[j]? =some (.ref t)->t≠I/\t≠S)->
   (∀h' tk,h'.DictOf knd S (merged acc (ps.drop i))->(∀b o,b≠S->b≠I->s.heap.get? b=some o->h'.get? b=some o)->R (.ok (.ret .none)) {s with heap:=h',toks:=tk})->
   codeAny (model prog w) A (.builtin "dict.update.loop" ⟨[.ref S,.ref I,rawInt i,.none],[]⟩) R s:=by
 intro k
 induction k with
 |zero=>
  intro i s acc hk hi hit hL hD hacc hP hne hR
  have hin:i=ws.size:=Nat.le_antisymm hi (Nat.le_of_sub_eq_zero hk)
  subst hin
  have W:=Walks.list (prog:=prog) (w:=w) (A:=A.in1) hh I ax hax ws
  refine codeAny_builtin D2 ?_
  rw[Around.under_plainId B7 _]
  show wpAny _ A.in1 (pyNext (.ref I)>>=_) _ _ s
  refine Bx (W.done s _ _ ⟨hit,hL⟩ λh' tk hkp=> ?_)
  show wpAny _ _ (Builtin.Dict.addKeywords S []>>=_) _ _ _
  refine Bx (wpAny_pure (wpAny_pure (hR h' tk ?_ λb o hb hbI e=>hkp b o (by simpa using hbI) e)))
  rw[List.drop_eq_nil_of_le (Bp hl)]
  show h'.DictOf knd S acc
  refine nG λhG=> ?_
  obtain⟨o,es,ep,ho,r⟩:=hD
  refine hG ?_
  exact⟨o,es,ep,hkp S o (by simpa using hIS.symm) ho,r⟩
 |succ k ih=>
  intro i s acc hk hi hit hL hD hacc hP hne hR
  have hlt:i<ws.size:=Nat.lt_of_sub_eq_succ hk
  have W:=Walks.list (prog:=prog) (w:=w) (A:=A.in1) hh I ax hax ws
  refine codeAny_builtin D2 ?_
  rw[Around.under_plainId B7 _]
  show wpAny _ A.in1 (pyNext (.ref I)>>=_) _ _ s
  refine Bx (W.item i s _ _ hlt ⟨hit,hL⟩ λv h' tk hv hst' hkp=> ?_)
  have hv':ws[i]? =some v:=hv
  obtain⟨p,hp⟩:∃p,ps[i]? =some p:=⟨_,Ar (hl▸hlt)⟩
  refine nG λhG=> ?_
  obtain⟨t,o,key,n,rfl,ho,hc,hd,hkey⟩:=hP i v p hv' hp
  refine hG ?_
  have hnt:=hne i t hv'
  have ho':h'.get? t=some o:=hkp t o (by simpa using hnt.1) ho
  have hD':h'.DictOf knd S acc:=by
   refine nG λhG=> ?_
   obtain⟨o,es,ep,ho,r⟩:=hD
   refine hG ?_
   exact⟨o,es,ep,hkp S o (by simpa using hIS.symm) ho,r⟩
  refine Bx (wpAny_holding ?_)
  refine Bx (wpAny_tryCatch ?_)
  unfold Builtin.Dict.pairItems
  refine Bx (wpAny_typeOf (T:="tuple") ⟨o,ho',hc⟩ ?_)
  rw[if_pos (by decide)]
  unfold seqItems?
  refine Bx (Bx (wpAny_loadPart ho' ?_))
  rw[hd]
  refine wpAny_pure (wpAny_pure ?_)
  show wpAny _ _ (holding [key,p.2] (dictSet S key p.2)) _ _ _
  refine wpAny_holding (wpAny_dictSet_pairs (hsz:=z0i (Ac (AZ (AG hacc (hl▸hlt))) (nD hz rfl))) hkey hD' λh₁ hm₁ hs₁=> ?_)
  refine wpAny_pure ⟨plainId_quiet B7 _,?_⟩
  have kp2:∀b o,b≠S->b≠I->s.heap.get? b=some o->h₁.get? b=some o:=λb o hb hbI e=>(hs₁.2 b hb).trans (hkp b o (by simpa using hbI) e)
  have e1:rawInt (i:Int)= .int i 0:=rfl
  refine ih (i+1) _ (stored acc p.1 p.2) (by rw[Nat.sub_add_eq,hk];rfl) hlt ?_ ?_ hm₁ (Ac (stored_length_le _ _ _) (Bh hacc)) (λj v q hv hq=> ?_) hne λh'' tk'' hD'' hk''=> ?_
  ·obtain⟨oi,h1,h2⟩:=hst'.1;exact⟨oi,(hs₁.2 I hIS).trans h1,h2⟩
  ·obtain⟨ol,h1,h2⟩:=hst'.2;exact⟨ol,(hs₁.2 ax hxS).trans h1,h2⟩
  ·refine nG λhG=> ?_
   obtain⟨t2,o2,key2,n2,rfl,ho2,r2⟩:=hP j v q hv hq
   refine hG ?_
   exact⟨t2,o2,key2,n2,rfl,kp2 t2 o2 (hne j t2 hv).2 (hne j t2 hv).1 ho2,r2⟩
  ·refine hR h'' tk'' ?_ λb o hb hbI e=>hk'' b o hb hbI (kp2 b o hb hbI e)
   have:ps.drop i=p::ps.drop (i+1):=by
    obtain⟨hlt',e⟩:=An.mp hp
    rw[List.drop_eq_getElem_cons hlt',e]
   rw[this]
   exact hD''
end
section
variable {C:Cx} {d:Nat} {σ:Sto} {Q:VP} {G D:Gh} {s:Shared} {K:Type} [DecidableEq K]
noncomputable def y0V(ps:List (K×V)):List (K×V):=ps.foldl (λacc p=>z2t acc p.1 p.2) []
theorem KR.merged{w:World}{l:List (K×Value)}{r:List (K×V)}(h:KR w D l r):∀{a:List (K×Value)} {b:List (K×V)},KR w D a b->KR w D (PySem.merged a l) (r.foldl (λacc p=>z2t acc p.1 p.2) b):=by
 induction h with
 |nil=>intro a b hab;exact hab
 | @cons k v x l r hv _ ih=>intro a b hab;exact ih (hab.stored hv)
theorem y1m(kk:KK C.prog C.w K)(R:RelC C G D σ s):∀{ps:List (K×V)} {vs:List Value},A6 C.w D vs (ps.map λp=>V.tup [kk.v p.1,p.2])->
  ∃cps,KR C.w D cps ps/\(∀(j:Nat) v p,vs[j]? =some v->cps[j]? =some p->y0p kk.knd s.heap v p)/\∀(j:Nat) t,vs[j]? =some (.ref t)->∃o,s.heap.get? t=some o:=λ{ps}=>by
 induction ps with
 |nil=>intro vs h;obtain rfl:=A6.nilI h;exact⟨[],.nil,(λj v p e=>by simp at e),λj t e=>by simp at e⟩
 |cons p ps ih=>
  intro vs h
  refine nG λhG=> ?_
  obtain⟨y,r,rfl,h1,h2⟩:=A6.consI h
  refine hG ?_
  refine nG λhG=> ?_
  obtain⟨cps,hk,hp,ht⟩:=ih h2
  refine hG ?_
  refine nG λhG=> ?_
  obtain⟨t,o,us,n,rfl,e,hc,hd,hr⟩:=VR.tupI h1
  refine hG ?_
  refine nG λhG=> ?_
  obtain⟨key,_,rfl,a1,hr⟩:=A6.consI hr
  refine hG ?_
  refine nG λhG=> ?_
  obtain⟨val,_,rfl,a3,hr⟩:=A6.consI hr
  refine hG ?_
  obtain rfl:=A6.nilI hr
  refine⟨(p.1,val)::cps,.cons (k:=p.1) a3 hk,λj=> ?_,λj=> ?_⟩
  ·cases j with
   |zero=>intro v q e1 e2;obtain rfl:=Bs e1;obtain rfl:=Bs e2;exact⟨t,o,key,n,rfl,R.d _ _ e,hc,hd,kk.isOf a1⟩
   |succ j=>exactλv q e1 e2=>hp j v q e1 e2
  ·cases j with
   |zero=>intro t' e1;cases Bs e1;exact⟨o,R.d _ _ e⟩
   |succ j=>exact ht j
theorem z8D [HM C](kk:KK C.prog C.w K){x:V}{ps:List (K×V)}{P:Sto->Prop}(h:A8 σ x (.list (ps.map λp=>V.tup [kk.v p.1,p.2])) P)(hz:ps.length<=1000)
  (q:∀a o,A4 σ a->Q (.ref a) ((a,o,.dict (z02 kk (y0V ps)))::σ)):KW C d (.type "dict") [x] σ Q:=λA G D s v vs hA R hv hss=>by
 apply VR.typeE hv
 apply A6.consE hss;intro _ _ h1 h2
 ·skip
  apply A6.nilE h2
  apply A8.isListE h R h1;intro ax ws n ho hr
  refine nG λhG=> ?_
  obtain⟨cps,hk,hp,ht⟩:=y1m kk R hr
  refine hG ?_
  have hlen:cps.length=ws.size:=by rw[hk.length,<-Bz,hr.length,Ab]
  refine callType_codes (Q₁:=λobj s₁=>obj= .ref s.heap.objs.size/\s₁={s with heap:=s.heap.push {cls:= .type "dict",data:= .dict #[]}}) F.kt_called_dict (F.kt_typeCall_dict_1 _) F.entry_dict_init (kt_code_dict_new _ ⟨rfl,rfl⟩) ?_
  rintro obj s₁ ⟨rfl,rfl⟩
  have hnew:(s.heap.push {cls:= .type "dict",data:= .dict #[]}).DictOf kk.knd s.heap.objs.size []:=Heap.DictOf.new s.heap
  have ho1:(s.heap.push {cls:= .type "dict",data:= .dict #[]}).get? ax=some (z0q ws n):=Heap.get?_push_of_some _ ho
  refine⟨hnew.typeIs,F.args_dict_init_2 _ _,?_⟩
  unfold Builtin.«dict.__init__»
  refine Bx ?_
  unfold Builtin.Dict.selfAndRest
  refine Bx (wpAny_notOrdered_dict hnew.typeIs ?_)
  show wpAny _ _ (pure (s.heap.objs.size,[Value.ref ax])) _ _ _
  refine wpAny_pure ?_
  show wpAny _ _ (Builtin.Dict.updateFrom "dict.__init__" s.heap.objs.size (.ref ax) [] .none) _ _ _
  unfold Builtin.Dict.updateFrom
  refine Bx (wpAny_typeOf (T:="list") ⟨_,ho1,rfl⟩ ?_)
  rw[if_pos (by decide)]
  refine Bx (getAttr?_miss ho1 hA.hh λh' tk hkp=> ?_)
  simp only[Option.isNone_none,if_true]
  refine Bx (wpAny_rule ?_)
  have ho2:h'.get? ax=some (z0q ws n):=hkp _ _ ho1
  have hL:h'.IsList ax ws:=⟨_,ho2,rfl,n,rfl⟩
  have hD2:h'.DictOf kk.knd s.heap.objs.size []:=by
   refine nG λhG=> ?_
   obtain⟨o,es,ep,ho,r⟩:=hnew
   refine hG ?_
   exact⟨o,es,ep,hkp _ o ho,r⟩
  have hdlt:s.heap.objs.size<h'.objs.size:=by obtain⟨o,es,ep,ho,r⟩:=hD2;exact Heap.lt_size ho
  have haxlt:ax<h'.objs.size:=Heap.lt_size ho2
  refine Bx (wpAny_pyIter_list (s:={s with heap:=h',toks:=tk}) hL ?_)
  have liveS:∀t o,s.heap.get? t=some o->t≠s.heap.objs.size/\t≠h'.objs.size:=λt o e=>⟨Bq (Heap.lt_size e),Bq (Heap.lt_size (hkp _ _ (Heap.get?_push_of_some _ e)))⟩
  have kp3:∀(oI:Obj) b o,s.heap.get? b=some o->(h'.push oI).get? b=some o:=λoI b o e=>Heap.get?_push_of_some _ (hkp _ _ (Heap.get?_push_of_some _ e))
  refine wpAny_pure ⟨plainId_quiet B7 _,z7K (knd:=kk.knd) (A:=A.in1) hA.hh (Nat.ne_of_gt hdlt) (Bq haxlt) (liveS _ _ ho).1 cps hlen (by rw[hk.length];exact hz) _ 0 _ [] rfl (Nat.zero_le _) ⟨_,Heap.get?_push_size _ rfl,rfl,rfl⟩ (hL.push _) (by
   refine nG λhG=> ?_
   obtain⟨o,es,ep,ho,r⟩:=hD2
   refine hG ?_
   exact⟨o,es,ep,Heap.get?_push_of_some _ ho,r⟩) (AN _) (λj v p e1 e2=> ?_) (λj t e1=> ?_) λh'' tk'' hD'' hk''=>⟨rfl,?_⟩⟩
  ·obtain⟨t,o,key,n',rfl,ho',r⟩:=hp j v p (by rw[Array.getElem?_toList];exact e1) e2
   exact⟨t,o,key,n',rfl,kp3 _ _ _ ho',r⟩
  ·obtain⟨o,e⟩:=ht j t (by rw[Array.getElem?_toList];exact e1)
   exact⟨(liveS t o e).2,(liveS t o e).1⟩
  ·refine nG λhG=> ?_
   obtain⟨o',ho',hr'⟩:=HR.ofDict kk hD'' (hk.merged (.nil:KR C.w D ([]:List (K×Value)) []))
   refine hG ?_
   have kp4:∀b o,s.heap.get? b=some o->h''.get? b=some o:=λb o e=>hk'' b o (liveS b o e).1 (liveS b o e).2 (kp3 _ b o e)
   have R':=R.keep (h':=h'') tk'' kp4
   refine⟨.ref _,D,_,DX.refl _ _,.ref _,?_,q _ o' R.fresh⟩
   refine⟨R'.same,R'.bs,R'.g,R'.d,R'.base,?_,λa ha=> ?_,λa ha=> ?_,λp hp'=> ?_,λp hp'=> ?_⟩
   ·exact Au.mpr ⟨R.new_notFoot,R.nd⟩
   ·rcases Ae.mp ha with rfl|h
    ·exact R.new_G
    ·exact R.offG a h
   ·rcases Ae.mp ha with rfl|h
    ·exact R.new_D
    ·exact R.offD a h
   ·rcases Ae.mp hp' with rfl|h
    ·exact ho'
    ·exact R'.pl p h
   ·rcases Ae.mp hp' with rfl|h
    ·exact hr'
    ·exact R'.sto p h
end
section
variable {C:Cx} {η:Env} {ν:List Str} {gl:LV} {own:Bool} {d:Nat} {m:Loc} {σ:Sto} {tgt:Expr} {body:List Stmt} {P:Sto->Prop} {QS:FP}
noncomputable def LS(I:Loc->Sto->Prop)(P:Sto->Prop)(QS:FP):FP
 | .next,m,σ=>P σ/\I m σ
 | .cont,m,σ=>P σ/\I m σ
 | .brk,m,σ=>QS .next m σ
 | .ret v,m,σ=>QS (.ret v) m σ
theorem y0n{I:Loc->Sto->Prop}{X:V}(q:QS (.ret X) m σ):LS I P QS (.ret X) m σ:=q
theorem z8J{I:Loc->Sto->Prop}(hP:P σ)(q:I m σ):LS I P QS .next m σ:=⟨hP,q⟩
theorem z6p(I:Nat->Loc->Sto->Prop):∀(ys:List V) (k:Nat) (m:Loc) (σ:Sto),
  (∀(i:Nat) X,ys[i]? =some X->∀m σ,I (k+i) m σ->AA C η ν gl own d (assign tgt η) X m σ λm₁ σ₁=>AS C η ν gl own d (execs body η) m₁ σ₁ (LS (I (k+i+1)) P QS))->
  (∀m σ,I (k+ys.length) m σ->QS .next m σ)->I k m σ->z6n C η ν gl own d tgt body P QS ys m σ
 |[],k,m,σ,_,hq,hI=>hq m σ hI
 |X::ys,k,m,σ,h,hq,hI=>by
  intro A G D s v hA R hv
  refine By (h 0 X rfl m σ hI A G D s v hA R hv) (λu s' hpp=> ?_) λ_ _ e=>e
  obtain⟨m',D',σ',a,c,e⟩:=hpp
  refine⟨m',D',σ',a,c,e.mono λfl m₂ σ₂ q=> ?_⟩
  have ih:I (k+1) m₂ σ₂->z6n C η ν gl own d tgt body P QS ys m₂ σ₂:=λhI'=>z6p I ys (k+1) m₂ σ₂ (λi Y hY m σ hm=>by
    have:=h (i+1) Y (by simpa using hY) m σ (by rw[show k+(i+1)=k+1+i from Nat.add_right_comm k i 1];exact hm)
    rw[show k+(i+1)=k+1+i from Nat.add_right_comm k i 1] at this
    exact this) (λm σ hm=>hq m σ (by rw[Aq,show k+(ys.length+1)=k+1+ys.length from Nat.add_right_comm k _ 1];exact hm)) hI'
  cases fl with
  |next=>exact⟨q.1,ih q.2⟩
  |cont=>exact⟨q.1,ih q.2⟩
  |brk=>exact q
  |ret v=>exact q
theorem y1r{n:Int}(h0:0<=n)(h1:n<=1000):Builtin.Range.small 0 n 1=true:=small_one (by decide) (by decide) (AQ (by decide) h0) (Int.lt_of_le_of_lt h1 (by decide))
set_option tactic.hygienic true in
theorem y2G{n:Int}(h0:0<=n):Builtin.Range.rangeSize 0 n 1=(n.toNat:Int):=by
 rw[rangeSize_one,Int.toNat_of_nonneg h0]
 split
 ·exact Int.sub_zero n
 ·rename_i h;exact Int.le_antisymm h0 (Int.not_lt.mp h)
theorem z7v{n:Nat}(h:n<=1000):Builtin.Range.small 0 (n:Int) 1=true:=y1r (Bl n) (Bk.mpr h)
theorem z7w(n:Nat):Builtin.Range.rangeSize 0 (n:Int) 1=((n:Nat):Int):=y2G (Bl n)
theorem z4j{n i:Nat}{X:V}(h:(z07 0 1 n)[i]? =some X):i<n/\X=V.int (i:Int):=by
 have hi:i<n:=by simpa[z07] using(An.mp h).1
 rw[z07,Al,List.getElem?_range hi] at h
 exact⟨hi,by simpa using h.symm⟩
theorem z1z{n:Nat}{X:V}(h:X∈z07 0 1 n):∃i:Nat,i<n/\X=V.int (i:Int):=by
 obtain⟨i,hi⟩:=List.mem_iff_getElem?.mp h
 exact⟨i,z4j hi⟩
theorem z00(n:Nat):(z07 0 1 n).length=n:=by unfold z07;rw[Ab,BA]
theorem z4k(n:Nat):z07 0 1 n=(List.range n).map λi:Nat=>V.int (i:Int):=by
 unfold z07
 exact List.map_congr_left λi _=>by rw[Int.zero_add,Int.mul_one]
theorem z0E{α β:Type}{l:List α}{f:α->β}{n:Nat}(h:l.length<=n)(hn:n<=100000):(l.map f).length<=sizeLine:=by rw[Ab];exact z0i (Ac h hn)
theorem z2h{α β:Type}{l:List α}{f:α->β}{i:Nat}{x:α}(h:l[i]? =some x):(l.map f)[i]? =some (f x):=by rw[Al,h];rfl
theorem y3P(I:Nat->Loc->Sto->Prop){iter:Expr}{p:Pos}(h:AI C η ν gl own d iter tgt m σ λys P σ₁=>I 0 m σ₁/\(∀(i:Nat) X,ys[i]? =some X->∀m σ,I i m σ->AA C η ν gl own d (assign tgt η) X m σ λm₁ σ₁=>AS C η ν gl own d (execs body η) m₁ σ₁ (LS (I (i+1)) P QS))/\(∀m σ,I ys.length m σ->QS .next m σ))
  (hs:autoParam (∀x,foldedSetIterable iter η x=pure x) auF):AS C η ν gl own d (exec (.For tgt iter body [] p) η) m σ QS:=
 z4q (λA G D s hA R=>By (h A G D s hA R) (λx s₁ h₁=>By h₁ (λit s₂ hpp=>by obtain⟨D',σ',xs,P,a,b,c1,c2,c3⟩:=hpp;exact⟨D',σ',xs,P,a,b,z6p I xs 0 m σ' (λi X hX m σ hm=>by
  have:=c2 i X hX m σ (by simpa using hm)
  simpa using this) (λm σ hm=>c3 m σ (by simpa using hm)) c1⟩) λ_ _ e=>e) λ_ _ e=>e) hs
theorem y0u(I:Nat->Loc->Sto->Prop){iter:Expr}{p:Pos}(h:AI C η ν gl own d iter tgt m σ λys P σ₁=>I 0 m σ₁/\(∀(i:Nat) X,ys[i]? =some X->∀m σ,I i m σ->∀QB:FP,(∀m σ,P σ->I (i+1) m σ->QB .next m σ)->(∀Y m σ,QS (.ret Y) m σ->QB (.ret Y) m σ)->AA C η ν gl own d (assign tgt η) X m σ λm₁ σ₁=>AS C η ν gl own d (execs body η) m₁ σ₁ QB)/\(∀m σ,I ys.length m σ->QS .next m σ))
  (hs:autoParam (∀x,foldedSetIterable iter η x=pure x) auF):AS C η ν gl own d (exec (.For tgt iter body [] p) η) m σ QS:=
 y3P I (λA G D s hA R=>By (h A G D s hA R) (λx s₁ h₁=>By h₁ (λit s₂ hpp=>by obtain⟨D',σ',xs,P,a,b,c1,c2,c3⟩:=hpp;exact⟨D',σ',xs,P,a,b,c1,λi X hX m σ hm=>c2 i X hX m σ hm _ (λm σ hP hI=>z8J hP hI) λY m σ q=>y0n q,c3⟩) λ_ _ e=>e) λ_ _ e=>e) hs
variable {x:Str} {pp:Pos} {caps:List Str} {elt c:Expr} {ms:Loc} {Z:List V->Sto->Prop}
theorem z60(I:Nat->List V->Sto->Prop)(hk:η.kindOf x=some .local):∀(xs:List V) (k:Nat) (acc:List V) (o:Option V) (σ:Sto),
  (∀(i:Nat) X,xs[i]? =some X->∀acc σ,I (k+i) acc σ->AT C η (x::caps) gl false d (eval elt η) (some X::ms) σ λY σ'=>P σ'/\I (k+i+1) (acc++[Y]) σ')->
  (∀acc σ,I (k+xs.length) acc σ->Z acc σ)->I k acc σ->z0P C η (x::caps) gl d (.Name x pp) elt [] P Z xs acc (o::ms) σ
 |[],k,acc,o,σ,_,hq,hI=>hq acc σ hI
 |X::xs,k,acc,o,σ,h,hq,hI=>by
  refine z0w F4.head ?_ (.inr hk)
  refine⟨λ_=>(h 0 X rfl acc σ hI).mono λY σ' ⟨hP,hI'⟩=>⟨hP,z60 I hk xs (k+1) (acc++[Y]) (some X) σ' (λi Y hY acc σ hm=> ?_) (λacc σ hm=>hq acc σ ?_) hI'⟩,λe=>by cases e⟩
  ·have:=h (i+1) Y (by simpa using hY) acc σ (by rw[show k+(i+1)=k+1+i from Nat.add_right_comm k i 1];exact hm)
   rw[show k+(i+1)=k+1+i from Nat.add_right_comm k i 1] at this
   exact this
  ·rw[Aq,show k+(xs.length+1)=k+1+xs.length from Nat.add_right_comm k _ 1];exact hm
variable {Q:VP}
theorem z8B{X Y:V}{k:Int}(h0:0<=k)(h1:k<2)(q:Q X σ)(q':Q Y σ):C2 C d (.lst [X,Y]) (.int k) σ Q:=by
 rcases(show k=0∨k=1 by lia) with rfl|rfl
 ·exact z42 (.lst _) (by decide) (by decide) (X:=X) rfl q
 ·exact z42 (.lst _) (by decide) (by decide) (X:=Y) rfl q'
theorem z0I{x:V}{xs:List V}{P:Sto->Prop}{i:Nat}{X:V}(h:A8 σ x (.list xs) P)(hi:i<1000)(hx:xs[i]? =some X)(q:Q X σ):C2 C d x (.int (i:Int)) σ Q:=
 z42 h (Bl i) (Int.ofNat_lt.mpr (AY hi (by decide))) (by rw[Int.toNat_natCast];exact hx) q
theorem y0a{xs:List V}{k:Int}(h0:0<=k)(h1:k<xs.length)(hs:xs.length<2^40)(q:∀X∈xs,Q X σ):C2 C d (.lst xs) (.int k) σ Q:=by
 have hk:k.toNat<xs.length:=(Int.toNat_lt h0).mpr h1
 exact z42 (.lst _) h0 (Int.lt_trans h1 (Int.ofNat_lt.mpr (AY hs (by decide)))) (X:=xs[k.toNat]) (Ar hk) (q _ (List.getElem_mem hk))
theorem z8A{x y:Str}(q:Q (.bool (x !=y)) σ):AC2 C d (compareOp .NotEq) (.str x) (.str y) σ Q:=λA G D s v u hA R hv hu=>by
 apply VR.strE hv;intro _;apply VR.strE hu;intro _;exact PyProof.Rows.ne_str (A0.now R (.bool _) q)
theorem z79{y:Str}{p' pe p:Pos}(q:∀a o,A4 σ a->∃m',F4 ν m y (.ref a) m'/\QS .next m' ((a,o,.list [])::σ))(hk:autoParam (own=true) auR)
  (hs:autoParam (swapsWith (.List [] pe) (some (.Name y p')) p.line η=pure false) auR):AS C η ν gl own d (exec (.Assign [.Name y p'] (.List [] pe) p) η) m σ QS:=
 z1F (z1Z (z0e ⟨Nat.zero_le _,q⟩)) hk hs
theorem z78{y:Str}{p' pe p:Pos}(q:∀a o,A4 σ a->∃m',F4 ν m y (.ref a) m'/\QS .next m' ((a,o,.dict [])::σ))(hk:autoParam (own=true) auR)
  (hs:autoParam (swapsWith (.Dict [] [] pe) (some (.Name y p')) p.line η=pure false) auR):AS C η ν gl own d (exec (.Assign [.Name y p'] (.Dict [] [] pe) p) η) m σ QS:=
 z1F (z3E q) hk hs
theorem z39{a:Addr}{o:Obj}{xs:List V}{X:V}(hl:xs.length<=sizeLine)(q:∀o',Q .none ((a,o',.list (xs++[X]))::σ)):KW C d (.bi "list.append") [.ref a,X] ((a,o,.list xs)::σ) Q:=
 z43 (λo'=>F9.head) hl q
theorem z8M{a:Addr}{o:Obj}{kvs:LV}{k:Str}{X:V}{PS:Sto->Prop}(hn:(kvs.map (·.1)).Nodup)(hl:kvs.length<=sizeLine)(q:∀o',PS ((a,o',dS (z2t kvs k X))::σ)):SetR C d (.ref a) (.str k) X ((a,o,dS kvs)::σ) PS:=
 z48 (KK.str C.prog C.w) (σ':=λo'=>(a,o',dS (z2t kvs k X))::σ) (λo'=>F9.head) hn hl q
theorem z15{K:Type}[DecidableEq K]{kvs:List (K×V)}{k:K}{X:V}(h:k∉kvs.map (·.1)):z2t kvs k X=kvs++[(k,X)]:=by
 unfold z2t
 rw[if_neg]
 intro e
 obtain⟨p,hp,hk⟩:=List.any_eq_true.mp e
 exact h (Ah.mpr ⟨p,hp,by simpa using hk⟩)
theorem z0U{K:Type}[DecidableEq K]{kvs:List (K×V)}{k:K}(h:k∉kvs.map (·.1)):vAt kvs k=none:=by
 unfold vAt
 rw[List.find?_eq_none.mpr]
 ·rfl
 ·intro p hp e;exact h (Ah.mpr ⟨p,hp,by simpa using e⟩)
theorem z0R{K:Type}[DecidableEq K]{kvs:List (K×V)}{k:K}{X:V}(hn:(kvs.map (·.1)).Nodup)(h:(k,X)∈kvs):vAt kvs k=some X:=by
 induction kvs with
 |nil=>cases h
 |cons p r ih=>
  obtain⟨k',Y⟩:=p
  have hn':=Au.mp hn
  rcases Ae.mp h with e|h
  ·cases e;simp[vAt]
  ·have hne:k'≠k:=λe=>hn'.1 (by rw[e];exact Ah.mpr ⟨_,h,rfl⟩)
   have:=ih hn'.2 h
   unfold vAt at this⊢
   rw[List.find?_cons];simpa[hne] using this
theorem z6L{P:Str->Prop}:∀{ys:List V},(∀y∈ys,∃w,y= .str w/\P w)->∃ws:List Str,ys=ws.map V.str/\∀w∈ws,P w
 |[],_=>⟨[],rfl,λ_ h=>by cases h⟩
 |y::ys,h=>by
  obtain⟨ws,rfl,hw⟩:=z6L λz hz=>h z (.tail _ hz)
  obtain⟨w,rfl,hp⟩:=h y (.head _)
  exact⟨w::ws,rfl,λz hz=>by rcases Ae.mp hz with rfl|hz;exact hp;exact hw z hz⟩
end
section
variable {C:Cx} {d:Nat} {σ:Sto} {Q:VP}
theorem z37{f:Addr}{xs:List V}(h:CW C d (.ref f) xs σ λx σ'=>∃a o ys τ,x= .ref a/\σ'=(a,o,.list ys)::τ/\Q (.lst ys) τ):CW C d (.ref f) xs σ Q:=λA G D s vs hA R hv=>
 codeAny_mono (h A G D s vs hA R hv) λr s' q=>by
  cases r with
  |error e=>exact q
  |ok fl=>
   cases fl<;>first|exact q.elim|skip
   obtain⟨x,D',σ',dx,hx,R',a,o,ys,τ,rfl,rfl,q⟩:=q
   cases hx
   obtain⟨R3,dx3,hv3⟩:=R'.freezeL (u:=[]) (v:=τ) rfl
   exact⟨.lst ys,_,τ,dx.trans dx3,hv3,R3,q⟩
end
section
variable {C:Cx} {η:Env} {ν:List Str} {gl:LV} {own:Bool} {d:Nat} {m m':Loc} {σ:Sto} {Q:VP} {QS:FP} {G D:Gh} {s:Shared} {A:Around} {K:Type} [DecidableEq K]
theorem A8.p{x:V}{ao:AO}{P:Sto->Prop}(h:A8 σ x ao P):P σ:=by cases h<;>first|trivial|assumption
theorem A8.mono{τ:Sto}{x:V}{ao:AO}{P:Sto->Prop}(h:A8 σ x ao P)(hs:∀p∈σ,p∈τ):A8 τ x ao P:=by
 cases h with
 |lst=>exact .lst _
 |dct=>exact .dct _
 |refL h=>exact .refL (hs _ h)
 |refD h=>exact .refD (hs _ h)
theorem y1V(kk:KK C.prog C.w K){a:Addr}{kvs:List (K×V)}(hs:z0J C)(hm:At σ a (.dict (z02 kk kvs)))(hn:(kvs.map (·.1)).Nodup)(hl:kvs.length<=sizeLine)
  (q:∀b o,A4 σ b->Q (.ref b) ((b,o,.dict (z02 kk kvs))::σ)):KW C d (.type "dict") [.ref a] σ Q:=λA G D s v vs hA R hv hss=>by
 apply VR.typeE hv
 obtain⟨o,hm⟩:=hm
 apply A6.consE hss;intro _ _ h1 h2
 apply A6.nilE h2
 apply VR.refE h1
 ·skip
  obtain⟨cvs,hD,hk⟩:=RelC.dcH R kk hm hn
  refine kt_call_dict (R.notSys hs hm) hD (by rw[hk.length];exact hl) λh' hD' hsb=> ?_
  have R1:=R.newM (z1G #[] 0) (.dict []) ⟨#[],0,rfl,.nil⟩ rfl (λ_ _=>rfl)
  obtain⟨o',ho',hr'⟩:=HR.ofDict kk hD' hk
  exact⟨.ref _,D,_,DX.refl _ _,.ref _,R1.upd (F9.head (o':=o') (x':= .dict (z02 kk kvs))) s.toks (z0C _ _) hsb rfl ho' hr',q _ _ R.fresh⟩
end
noncomputable def z12(c:Nat):Bool:=decide (97<=c)&&decide (c<=122)
def Lt(x:Str):Prop:=∀c∈x.cps.toList,z12 c=true
theorem Lt.append{x y:Str}(hx:Lt x)(hy:Lt y):Lt (x++y):=by
 intro c hc
 have:c∈(x.cps++y.cps).toList:=hc
 rw[Array.toList_append,Ad] at this
 rcases this with h|h
 ·exact hx c h
 ·exact hy c h
theorem z0l(x y:Str):(x++y).length=x.length+y.length:=by
 show(x.cps++y.cps).size=_
 rw[Array.size_append];rfl
theorem Lt.slice{x:Str}(hx:Lt x)(l u:Option Int):Lt (Txt.slice x l u):=by
 unfold Txt.slice
 split
 ·exact hx
 ·intro c hc
  simp only[List.mem_filterMap] at hc
  obtain⟨i,_,e⟩:=hc
  exact hx c (by simpa using Array.mem_of_getElem? e)
theorem z3m{α:Type}(xs:Array α):∀(l:List Nat),(∀i∈l,i<xs.size)->(l.filterMap (xs[·]?)).length=l.length
 |[],_=>rfl
 |i::l,h=>by
  have hi:=h i (.head _)
  rw[List.filterMap_cons,Array.getElem?_eq_getElem hi]
  simp[z3m xs l λj hj=>h j (.tail _ hj)]
set_option tactic.hygienic true in
theorem z4l{x:Str}(l u:Option Int)(h:∀i∈Builtin.Str.strSliceIndices l u 1 x.length,i<x.length):(Txt.slice x l u).length=(Builtin.Str.strSliceIndices l u 1 x.length).length:=by
 unfold Txt.slice
 split
 ·rename_i h1;simp at h1;exact h1.symm
 ·show(List.toArray _).size=_
  rw[List.size_toArray,z3m x.cps _ h]
set_option tactic.hygienic true in
theorem sr1{a b:Nat}(h:a<=b):sliceRange (a:Int) (b:Int) 1=(List.range (b-a)).map λk=>a+k:=by
 obtain⟨c,rfl⟩:=Nat.exists_eq_add_of_le h
 have e:(if(a:Int)<((a+c:Nat):Int) then(((a+c:Nat):Int)-a+1-1)/1 else 0)=(c:Int):=by
  rw[Int.ediv_one,Int.add_sub_cancel]
  split
  ·rw[Int.natCast_add,Int.add_comm,Int.add_sub_cancel]
  ·rename_i h;rw[Nat.le_zero.mp (Nat.le_of_add_le_add_left (show a+c<=a+0 from Bk.mp (Int.not_lt.mp h)))];rfl
 show(List.range (if(a:Int)<((a+c:Nat):Int) then(((a+c:Nat):Int)-a+1-1)/1 else 0).toNat).map _=_
 rw[e,Int.toNat_natCast,Nat.add_sub_cancel_left]
 refine List.map_congr_left λk _=> ?_
 rw[Int.one_mul]
 exact Int.toNat_natCast (a+k)
theorem z5R{n l:Nat}(h:n<=l):max 0 (min (if(n:Int)<0 then(n:Int)+l else n) (l:Int))=(n:Int):=by
 rw[if_neg (Int.not_lt.mpr (Bl n)),Int.min_eq_left (Bk.mpr h),Int.max_eq_right (Bl n)]
theorem z57{x:Str}{n:Nat}(h:n<=x.length):(Txt.slice x none (some (n:Int))).length=n:=by
 have e:Builtin.Str.strSliceIndices none (some (n:Int)) 1 x.length=(List.range (n-0)).map λk=>0+k:=by
  show sliceRange ((0:Nat):Int) (max 0 (min (if(n:Int)<0 then(n:Int)+x.length else n) (x.length:Int))) 1=_
  rw[z5R h,sr1 (Nat.zero_le n)]
 rw[z4l,e,Ab,BA]
 ·rfl
 ·rw[e];intro i hi
  obtain⟨j,hj,rfl⟩:=Ah.mp hi
  rw[AP];exact AF (Bv.mp hj) h
theorem z58{x:Str}{n:Nat}(h:n<=x.length):(Txt.slice x (some (n:Int)) none).length=x.length-n:=by
 have e:Builtin.Str.strSliceIndices (some (n:Int)) none 1 x.length=(List.range (x.length-n)).map λk=>n+k:=by
  show sliceRange (max 0 (min (if(n:Int)<0 then(n:Int)+x.length else n) (x.length:Int))) (x.length:Int) 1=_
  rw[z5R h,sr1 h]
 rw[z4l,e,Ab,BA]
 rw[e];intro i hi
 obtain⟨j,hj,rfl⟩:=Ah.mp hi
 exact Nat.add_lt_of_lt_sub' (Bv.mp hj)
theorem y0W(ps:List Str):∀(acc:Array Nat),(∀c∈acc.toList,z12 c=true)->(∀p∈ps,Lt p/\p.length=1)->
  (∀c∈(ps.foldl (λacc p=>acc++(Str.ofString "").cps++p.cps) acc).toList,z12 c=true)/\(ps.foldl (λacc p=>acc++(Str.ofString "").cps++p.cps) acc).size=acc.size+ps.length:=by
 have e0:(Str.ofString "").cps= #[]:=by decide+kernel
 rw[e0]
 induction ps with
 |nil=>intro acc h _;exact⟨h,rfl⟩
 |cons p ps ih=>
  intro acc h hp
  have h1:=hp p (.head _)
  have:=ih (acc++ #[]++p.cps) (by
   intro c hc
   simp only[Array.append_empty,Array.toList_append,Ad] at hc
   rcases hc with hc|hc
   ·exact h c hc
   ·exact h1.1 c hc) (λq hq=>hp q (.tail _ hq))
  refine⟨this.1,?_⟩
  rw[List.foldl_cons,this.2]
  have:p.cps.size=1:=h1.2
  rw[Array.append_empty,Array.size_append,this];exact Nat.add_right_comm _ 1 _
theorem y2o{ps:List Str}(hp:∀p∈ps,Lt p/\p.length=1):Lt (Txt.join "" ps)/\(Txt.join "" ps).length=ps.length:=by
 unfold Txt.join Builtin.Str.glued
 cases ps with
 |nil=>exact⟨λc hc=>by simp[Str.empty] at hc,rfl⟩
 |cons p ps=>
  have h1:=hp p (.head _)
  have:=y0W ps p.cps h1.1 λq hq=>hp q (.tail _ hq)
  refine⟨this.1,?_⟩
  show(ps.foldl (λacc p=>acc++(Str.ofString "").cps++p.cps) p.cps).size=_
  rw[this.2]
  have:p.cps.size=1:=h1.2
  rw[this];exact Nat.add_comm 1 _
theorem z6z{ps:List Str}(hp:∀p∈ps,p.length=1)(hl:ps.length<=1000):JoinOk "" ps=true:=by
 unfold JoinOk
 have e0:(Str.ofString "").length=0:=by decide+kernel
 have:∀(l:List Str) (n:Nat),(∀p∈l,p.length=1)->l.foldl (λ(a:Nat) (p:Str)=>a+p.length+(Str.ofString "").length) n=n+l.length:=by
  intro l
  induction l with
  |nil=>intro n _;rfl
  |cons p l ih=>intro n h;rw[List.foldl_cons,ih _ (λq hq=>h q (.tail _ hq)),h p (.head _),e0];exact Nat.add_right_comm n 1 l.length
 have h2:ps.toArray.foldl (λ(a:Nat) (p:Str)=>a+p.length+(Str.ofString "").length) 0=ps.length:=by
  rw[<-Array.foldl_toList];rw[this _ _ hp];simp
 rw[h2]
 unfold Builtin.Str.tooLong
 simp
 exact nD hl rfl
theorem z22{α:Type}(xs:List α):∀(l:List Nat),(∀i∈l,i<xs.length)->(l.filterMap (xs[·]?)).length=l.length
 |[],_=>rfl
 |i::l,h=>by
  have hi:=h i (.head _)
  rw[List.filterMap_cons,Ar hi]
  simp[z22 xs l λj hj=>h j (.tail _ hj)]
set_option tactic.hygienic true in
theorem srm{n:Nat}:sliceRange ((n:Int)-1) (-1) (-1)=(List.range n).map λk=>n-1-k:=by
 have e:(if(n:Int)-1> -1 then((n:Int)-1- -1- -1-1)/ -(-1) else 0)=(n:Int):=by
  rw[show-(-1:Int)=1 from rfl,Int.ediv_one]
  split
  ·rw[Int.sub_neg,Int.sub_neg,Int.add_sub_cancel,Int.sub_add_cancel]
  ·rename_i h;exact(Int.le_antisymm (show(n:Int)<=0 from Int.le_add_of_sub_right_le (Int.not_lt.mp h)) (Bl n)).symm
 show(List.range (if(n:Int)-1> -1 then((n:Int)-1- -1- -1-1)/ -(-1) else 0).toNat).map _=_
 rw[e,Int.toNat_natCast]
 exact List.map_congr_left λk _=>by rw[Int.neg_one_mul,<-Int.sub_eq_add_neg,Int.sub_sub,Nat.sub_sub];exact Int.toNat_sub n (1+k)
theorem y1v{xs:List V}{k:Int}(h:k=1∨k= -1):(slL xs none none (some k)).length=xs.length:=by
 have key:∀l:List Nat,(∀i∈l,i<xs.length)->l.length=xs.length->(l.filterMap (xs[·]?)).length=xs.length:=λl h1 h2=>(z22 xs l h1).trans h2
 rcases h with rfl|rfl
 ·have e:sliceRange ((0:Nat):Int) (xs.length:Int) 1=_:=sr1 (Nat.zero_le xs.length)
  show((sliceRange ((0:Nat):Int) (xs.length:Int) 1).filterMap (xs[·]?)).length=_
  rw[e]
  refine key _ (λi hi=> ?_) (by rw[Ab,BA];rfl)
  obtain⟨j,hj,rfl⟩:=Ah.mp hi
  rw[AP];exact Bv.mp hj
 ·show((sliceRange ((xs.length:Int)-1) (-1) (-1)).filterMap (xs[·]?)).length=_
  rw[srm]
  refine key _ (λi hi=> ?_) (by rw[Ab,BA])
  obtain⟨j,hj,rfl⟩:=Ah.mp hi
  exact AG (Nat.sub_le _ _) (Nat.sub_lt (AG (Nat.zero_le _) (Bv.mp hj)) Nat.one_pos)
theorem let_size:("abcdefghijklmnopqrstuvwxyz":Str).cps.size=26:=by decide+kernel
theorem let_lt:Lt ("abcdefghijklmnopqrstuvwxyz":Str):=by
 have:("abcdefghijklmnopqrstuvwxyz":Str).cps.toList.all z12=true:=by decide+kernel
 intro c hc
 exact AK.mp this c hc
theorem z8f{k:Int}(h0:0<=k)(h1:k<26):∃c,("abcdefghijklmnopqrstuvwxyz":Str).cps[k.toNat]? =some c/\z12 c=true:=by
 have hk:k.toNat<("abcdefghijklmnopqrstuvwxyz":Str).cps.size:=by rw[let_size];exact(Int.toNat_lt h0).mpr h1
 refine⟨_,Array.getElem?_eq_getElem hk,let_lt _ (by simp)⟩
theorem let_small:∀c<128,(!(Builtin.Str.occurrences ("abcdefghijklmnopqrstuvwxyz":Str) ⟨#[c]⟩ 0 (Str.length "abcdefghijklmnopqrstuvwxyz") 1).isEmpty)=z12 c:=by
 decide+kernel
theorem z8j{c:Nat}(h:z12 c=true):Lt ⟨#[c]⟩:=by
 intro k hk
 simp at hk
 subst hk;exact h
structure A7(x:Str):Prop where
 lo:1<=x.length
 hi:x.length<=8
 lt:Lt x
class inductive Bf (nx:Str->List Str):Nat->List Str->List Str->List Str->Prop
 |nil {f:List Str}:Bf nx 0 f [] f
 |skip {n:Nat} {f w r:List Str} {x:Str}:x∈f->Bf nx n f w r->Bf nx (n+1) f (x::w) r
 |take {n:Nat} {f w r:List Str} {x:Str}:x∉f->Bf nx n (f++[x]) (w++nx x) r->Bf nx (n+1) f (x::w) r
section
variable {nx:Str->List Str}
theorem Bf.len{n:Nat}{f w r:List Str}(h:Bf nx n f w r):w.length<=n:=by
 induction h with
 |nil=>exact AN _
 |skip _ _ ih=>exact Bh ih
 |take _ _ ih=>exact Bh (Ac (by rw[Ag];exact Bn _ _) ih)
theorem Bf.rlen{n:Nat}{f w r:List Str}(h:Bf nx n f w r):r.length<=f.length+n:=by
 induction h with
 |nil=>exact AN _
 |skip _ _ ih=>exact Nat.le_succ_of_le ih
 |take _ _ ih=>rw[Ag] at ih;exact Ac ih (Bp (Nat.add_right_comm _ 1 _))
theorem Bf.all{P:Str->Prop}(hn:∀x,∀y∈nx x,P y){n:Nat}{f w r:List Str}(h:Bf nx n f w r):(∀x∈f,P x)->(∀x∈w,P x)->∀x∈r,P x:=by
 induction h with
 |nil=>exactλh _=>h
 |skip _ _ ih=>exactλh1 h2=>ih h1 λx hx=>h2 x (.tail _ hx)
 | @take n f w r x _ _ ih=>
  intro h1 h2
  refine ih (λy hy=> ?_) λy hy=> ?_
  ·rcases Ad.mp hy with h|h
   ·exact h1 y h
   ·rw[Af.mp h];exact h2 _ (.head _)
  ·rcases Ad.mp hy with h|h
   ·exact h2 y (.tail _ h)
   ·exact hn x y h
theorem Bf.drop{n:Nat}{f u r:List Str}(h:Bf nx n f u r):∀{w1 w2:List Str} {y:Str},u=w1++y::w2->(y∈f∨y∈w1)->∃k,k<=n/\Bf nx k f (w1++w2) r:=by
 induction h with
 |nil=>intro w1 w2 y e _;simp at e
 | @skip n f w r x hx h ih=>
  intro w1 w2 y e hy
  cases w1 with
  |nil=>simp at e;obtain⟨rfl,rfl⟩:=e;exact⟨n,Nat.le_succ n,h⟩
  |cons z w1=>
   simp at e;obtain⟨rfl,rfl⟩:=e
   obtain⟨k,hk,hb⟩:=ih rfl (by
    rcases hy with h|h
    ·exact .inl h
    ·rcases Ae.mp h with rfl|h
     ·exact .inl hx
     ·exact .inr h)
   exact⟨k+1,Bh hk,.skip hx hb⟩
 | @take n f w r x hx h ih=>
  intro w1 w2 y e hy
  cases w1 with
  |nil=>
   simp at e;obtain⟨rfl,rfl⟩:=e
   rcases hy with h|h
   ·exact absurd h hx
   ·cases h
  |cons z w1=>
   simp at e;obtain⟨rfl,rfl⟩:=e
   obtain⟨k,hk,hb⟩:=ih (w1:=w1) (w2:=w2++nx x) (y:=y) (by simp) (by
    rcases hy with h|h
    ·exact .inl (Ai _ h)
    ·rcases Ae.mp h with rfl|h
     ·exact .inl (Aj _ (.head _))
     ·exact .inr h)
   exact⟨k+1,Bh hk,.take hx (by simpa using hb)⟩
noncomputable def z01(f ys:List Str):List Str:=ys.foldl (λg y=>if g.any (·==y) then g else g++[y]) f
theorem any_mem{xs:List Str}{k:Str}:xs.any (·==k)=true↔k∈xs:=by simp[List.any_eq_true]
theorem E2:∀{ys f:List Str},f.Nodup->(z01 f ys).Nodup
 |[],f,h=>h
 |y::ys,f,h=>by
  show(z01 (if f.any (·==y) then f else f++[y]) ys).Nodup
  refine E2 ?_
  by_cases e:f.any (·==y)=true
  ·rw[if_pos e];exact h
  ·rw[if_neg e]
   exact List.nodup_append.mpr ⟨h,by simp,λa ha b hb=>by rw[Af.mp hb];exactλe2=>e (any_mem.mpr (e2▸ha))⟩
theorem z65(f ys:List Str)(y:Str):z01 f (ys++[y])=if(z01 f ys).any (·==y) then z01 f ys else z01 f ys++[y]:=by
 unfold z01;rw[List.foldl_append];rfl
theorem F7:∀(ys f:List Str),(z01 f ys).length<=f.length+ys.length
 |[],f=>AN _
 |y::ys,f=>by
  show(z01 (if f.any (·==y) then f else f++[y]) ys).length<=_
  have:=F7 ys (if f.any (·==y) then f else f++[y])
  by_cases e:f.any (·==y)=true
  ·rw[if_pos e] at this⊢;exact Nat.le_succ_of_le this
  ·rw[if_neg e] at this⊢;rw[Ag] at this;exact Ac this (Bp (Nat.add_right_comm _ 1 _))
theorem Bf.news{r f:List Str}:∀{ys w:List Str} {n:Nat},Bf nx n f (w++ys) r->∃k v,k<=n/\Bf nx k f v r/\z01 (f++w) ys=f++v
 |[],w,n,h=>⟨n,w,AN _,by simpa using h,rfl⟩
 |y::ys,w,n,h=>by
  show∃k v,k<=n/\Bf nx k f v r/\z01 (if(f++w).any (·==y) then f++w else(f++w)++[y]) ys=f++v
  by_cases e:(f++w).any (·==y)=true
  ·rw[if_pos e]
   obtain⟨k,hk,hb⟩:=h.drop rfl (Ad.mp (any_mem.mp e))
   obtain⟨k',v,hk',hb',e'⟩:=Bf.news hb
   exact⟨k',v,Ac hk' hk,hb',e'⟩
  ·rw[if_neg e]
   obtain⟨k',v,hk',hb',e'⟩:=Bf.news (ys:=ys) (w:=w++[y]) (n:=n) (by simpa using h)
   exact⟨k',v,hk',hb',by rw[<-e'];simp⟩
noncomputable def rest(nx:Str->List Str)(U f:List Str):Nat:=((U.filter λx=> !f.any (·==x)).map λx=>(nx x).length).sum
theorem z9e(U f:List Str)(x:Str):rest nx U (f++[x])<=rest nx U f:=by
 induction U with
 |nil=>exact AN _
 |cons u U ih=>
  unfold rest at*
  simp only[List.filter_cons]
  by_cases e:f.any (·==u)=true
  ·have e2:(f++[x]).any (·==u)=true:=by rw[List.any_append,e];rfl
   simp only[e,e2,Bool.not_true,Bool.false_eq_true,if_false];exact ih
  ·have e':f.any (·==u)=false:=eq_false_of_ne_true e
   simp only[e',Bool.not_false,if_true]
   split
   ·exact Be ih _
   ·exact Ac ih (Nat.le_add_left _ _)
theorem y2F{U f:List Str}{x:Str}(hx:x∈U)(hf:x∉f):rest nx U (f++[x])+(nx x).length<=rest nx U f:=by
 induction U with
 |nil=>cases hx
 |cons u U ih=>
  by_cases e:u=x
  ·subst e
   have h1:f.any (·==u)=false:=by
    cases h:f.any (·==u) with
    |false=>rfl
    |true=>exact absurd (any_mem.mp h) hf
   have h2:(f++[u]).any (·==u)=true:=any_mem.mpr (by simp)
   have:=z9e (nx:=nx) U f u
   unfold rest at*
   simp only[List.filter_cons,h1,h2,Bool.not_true,Bool.not_false,Bool.false_eq_true,if_false,if_true,Ap,List.sum_cons]
   rw[Nat.add_comm];exact Be this _
  ·have ih:=ih (by
    rcases Ae.mp hx with h|h
    ·exact absurd h.symm e
    ·exact h)
   have h2:(f++[x]).any (·==u)=f.any (·==u):=by
    rw[List.any_append]
    have:([x].any λy=>y==u)=false:=by simp;exactλh=>e h.symm
    rw[this,Bool.or_false]
   unfold rest at*
   simp only[List.filter_cons,h2]
   split
   ·rw[Ap,List.sum_cons,Ap,List.sum_cons,Nat.add_assoc];exact Be ih _
   ·exact ih
theorem y0D{U:List Str}(hU:∀x,x∉U->nx x=[]):∀(n:Nat) (f w:List Str),w.length+rest nx U f<=n->∃k r,k<=n/\Bf nx k f w r
 |n,f,[],_=>⟨0,f,Nat.zero_le _,.nil⟩
 |0,f,x::w,h=>by simp at h
 |n+1,f,x::w,h=>by
  have h:w.length+rest nx U f<=n:=Nat.le_of_succ_le_succ (Ac (Bp (Nat.add_right_comm w.length (rest nx U f) 1)) h)
  by_cases e:x∈f
  ·obtain⟨k,r,hk,hb⟩:=y0D hU n f w h
   exact⟨k+1,r,Bh hk,.skip e hb⟩
  ·obtain⟨k,r,hk,hb⟩:=y0D hU n (f++[x]) (w++nx x) (by
    by_cases hx:x∈U
    ·rw[Ag,Nat.add_assoc,Nat.add_comm (nx x).length];exact Ac (Be (y2F hx e) _) h
    ·rw[hU x hx,Az];exact Ac (Be (z9e U f x) _) h)
   exact⟨k+1,r,Bh hk,.take e hb⟩
theorem y1q{U f:List Str}{b:Nat}(h:∀x,(nx x).length<=b):rest nx U f<=b*U.length:=by
 induction U with
 |nil=>exact Nat.zero_le _
 |cons u U ih=>
  have:=h u
  unfold rest at*
  simp only[List.filter_cons]
  rw[Aq,Nat.mul_succ]
  split
  ·rw[Ap,List.sum_cons,Nat.add_comm];exact Bd ih this
  ·exact Ac ih (Bn _ _)
theorem z8V{α:Type}:∀{l:List α} {j:Nat} {x:α},l[j]? =some x->l.drop j=x::l.drop (j+1)
 |[],_,_,h=>by simp at h
 |a::l,0,x,h=>by simp at h;subst h;rfl
 |a::l,j+1,x,h=>z8V (l:=l) (by simpa using h)
end
section
variable {M:Model} {A:Around} {E:Value->Shared->Prop} {s:Shared}
end
section
variable {C:Cx} {η:Env} {ν:List Str} {gl gl':LV} {own:Bool} {d:Nat} {m m':Loc} {σ σ':Sto}
variable {A:Around} {G D D₀ D₁:Gh} {s:Shared}
theorem z8x{Q:VP}{x y:V}{xs ys:List V}{P P':Sto->Prop}(h:A8 σ x (.list xs) P)(h':A8 σ y (.list ys) P')(hl:xs.length+ys.length<=sizeLine)(q:∀a o,A4 σ a->Q (.ref a) ((a,o,.list (xs++ys))::σ)):AC2 C d (binaryOp .Add) x y σ Q:=λA G D s v u hA R hv hu=>by
 apply A8.isListE h R hv;intro a ws n ho hr
 apply A8.isListE h' R hu;intro b zs n' ho' hr'
 have e1:ws.size=xs.length:=by rw[<-hr.length];simp
 have e2:zs.size=ys.length:=by rw[<-hr'.length];simp
 refine concat_meets ⟨_,ho,rfl⟩ ⟨_,ho',rfl⟩ noFill_list_add seq_list_add F.slot_list_add F.entry_list_add (F.args_list_add_2 _ _) (PyProof.Rows.list_addW a b ws zs n n' none none #[] #[] (by rw[e1,e2];exact hl)) ⟨ho,ho',?_⟩
 have e:ws++zs=(ws.toList++zs.toList).toArray:=by simp
 rw[e]
 exact⟨.ref _,D,_,DX.refl _ _,.ref _,R.newM (z0q (ws.toList++zs.toList).toArray 0) (.list (xs++ys)) ⟨_,0,rfl,by simpa using hr.append hr'⟩ rfl (λ_ _=>rfl),q _ _ R.fresh⟩
end
section
variable {C:Cx} {η:Env} {ν:List Str} {gl:LV} {own:Bool} {d:Nat} {m m':Loc} {σ:Sto} {Q:VP} {QS:FP} {G D:Gh} {s:Shared} {A:Around} {K:Type} [DecidableEq K]
class inductive F2 {α β:Type} (R:α->β->Prop):List α->List β->Prop
 |nil:F2 R [] []
 |cons {a:α} {b:β} {as:List α} {bs:List β}:R a b->F2 R as bs->F2 R (a::as) (b::bs)
theorem y0m{a b c:Int}(ha:0<=b-a)(hb:b-a<=1000)(hc:0<c)(hc2:c<=1000)(q:Q (.rng a b c) σ):KW C d (.type "range") [.int a,.int b,.int c] σ Q:=λA G D s v vs hA R hv hs=>by
 apply VR.typeE hv
 apply A6.consE hs;intro _ _ h1 hr
 apply A6.consE hr;intro _ _ h2 hr
 apply A6.consE hr;intro _ _ h3 hr
 apply A6.nilE hr
 apply VR.intE h1;intro t1
 apply VR.intE h2;intro t2
 apply VR.intE h3;intro t3
 refine call_range_3 (Int.ne_of_gt hc) ?_ (.inl (PyProof.noPylong_small (by obtain⟨k,rfl⟩:=Int.eq_ofNat_of_zero_le (Int.le_of_lt hc);exact AG (Bk.mp hc2) (by decide))))
 obtain⟨R',dx⟩:=R.newF {cls:= .type "range",data:= .fields #[.int a _,.int b _,.int c _]}
 exact⟨_,_,σ,dx,.rng (z0T ..),R',q⟩
theorem z7d{x:Int}(h0:0<=x)(h1:x<=2000):Builtin.Range.rangeFitsLong x=true:=by
 unfold Builtin.Range.rangeFitsLong
 rw[AE (AQ (by decide) h0),AE (Int.lt_of_le_of_lt h1 (by decide))];rfl
theorem z72 [HM C]{caps:List Str}{x y:Str}{elt:Expr}{p1 p2 pt:Pos}{kt:Nat}{P:Sto->Prop}{Z:List V->Sto->Prop}{ms:Loc}{Gd:V×V->V->Prop}(hk1:η.kindOf x=some .local)(hk2:η.kindOf y=some .local)(hP:P σ)(ps:List (V×V)):
  ∀(acc:List V) (o1 o2:Option V),(∀p∈ps,∀K:VP,(∀Y,Gd p Y->K Y σ)->AT C η (x::y::caps) gl false d (eval elt η) (some p.1::some p.2::ms) σ K)->(∀ys:List V,F2 Gd ps ys->Z (acc++ys) σ)->
   z0P C η (x::y::caps) gl d (.Tuple [.Name x p1,.Name y p2] kt pt) elt [] P Z (ps.map λp=>V.tup [p.1,p.2]) acc (o1::o2::ms) σ:=by
 induction ps with
 |nil=>intro acc o1 o2 _ q;simpa[z0P] using q [] .nil
 |cons p ps ih=>
  intro acc o1 o2 h q
  refine z9R (z0w F4.head (z0w (F4.tail F4.head) ?_ (.inr hk2)) (.inr hk1))
  refine⟨λ_=>h p (.head _) _ λY hY=>⟨hP,ih (acc++[Y]) _ _ (λY hY=>h Y (.tail _ hY)) λys hs=> ?_⟩,λe=>by cases e⟩
  rw[Ao]
  exact q (Y::ys) (.cons hY hs)
open AutoSeq1 (wpAny_loadPart')
open MeetsSeq
end
section
variable {C:Cx} {η:Env} {ν:List Str} {gl:LV} {own:Bool} {d:Nat} {m m':Loc} {σ:Sto} {Q:VP} {QI:List V->(Sto->Prop)->Sto->Prop}
theorem y3r [HM C]{np p:Pos}{e tgt:Expr}(h:AT C η ν gl own d (eval (.Name "reversed" np) η) m σ λF σ₁=>F= .type "reversed"/\AL C η ν gl own d (spliced (backTo p (starEach [e] η))) m σ₁ λXs σ₂=>∃X xs P,Xs=[X]/\A8 σ₂ X (.list xs) P/\QI xs.reverse P σ₂)
  (he:autoParam (starEach [e] η=(false,eval e η)::starEach [] η) auR) (hplain:autoParam ((backTo p (starEach [] η)).any (·.1)=false) auR):
  AI C η ν gl own d (.Call (.Name "reversed" np) [e] [] p) tgt m σ QI:=λA G D s hA R=>by
 refine wpAny_Call_ofName (h.run hA R λv s₁ F D₁ σ₁ a b c hpp=> ?_)
 obtain⟨hF,hk⟩:=hpp
 subst hF
 refine z0K (F:= .type "reversed") trivial b (by rw[he];exact hplain) ?_
 rw[he] at hk⊢
 refine Calls.evalArgs_plain (AL.run hk hA c λvs s₂ Xs D₂ σ₂ a' b' c' hpp=> ?_)
 obtain⟨X,xs,P,hX,hH,q⟩:=hpp
 refine⟨c'.toRelC.baseIn,?_⟩
 subst hX
 apply VR.typeE b
 apply A6.consE b';intro _ _ h1 h2
 apply A6.nilE h2
 apply A8.runLE hH c'.toRelC h1;intro ax vs n ho hr hP hst
 have hl:s₂.heap.IsList ax vs:=⟨_,ho,rfl,n,rfl⟩
 have hne:ax≠s₂.heap.objs.size:=Bq (Heap.lt_size ho)
 have hz:vs.size=xs.length:=by rw[<-hr.length,Bz]
 have hit:(s₂.heap.push (revObj ax ((vs.size:Int)-1))).IsRevIter s₂.heap.objs.size ax ((vs.size:Int)-1-((0:Nat):Int)):=⟨_,Heap.get?_push_size _ rfl,rfl,by simp[revObj]⟩
 refine call_reversed_list hl (wpAny_pyIter_revIter hit ⟨D₂,σ₂,xs.reverse,P,a.trans a',⟨s₂.heap.objs.size,_,_,_,rfl,IW.two (Walks.listRev hA.hh s₂.heap.objs.size ax hne vs) (by rw[List.length_reverse];exact hz) ?_ (λi h st=>by obtain⟨_,⟨o,ho,hc,_⟩,_⟩:=st;exact⟨o,_,ho,hc,by decide⟩) (λh st=>by obtain⟨_,_,o,ho,_⟩:=st;exact⟨o,ho⟩),⟨Nat.zero_le _,hit,hl.push _⟩,c'.push _,c'.offNew (z0q #[] 0),hP,y05 ho hst⟩,q⟩)
 ·intro i u X e hX
  have hi:i<xs.length:=by rw[<-List.length_reverse];exact(An.mp hX).1
  rw[List.getElem?_reverse hi] at hX
  obtain⟨u',e',r⟩:=hr.get hX
  rw[Array.getElem?_toList,<-hz,e] at e';cases e';exact r
theorem y3z{x:V}{ns:List Int}{k:Int}{P:Sto->Prop}(h:A8 σ x (.list (ns.map V.int)) P)(q:Q (.bool (ns.any (·==k))) σ):AC2 C d (compareOp .In) (.int k) x σ Q:=λA G D s v u hA R hv hu=>by
 apply A8.isLE h R hu;intro a ws hL hr
 apply VR.intE hv;intro t
 exact PyProof.Rows.in_list_ints (vs:=ws.toList) (by simpa using hL) hr.ints (A0.now R (.bool _) q)
end
section
variable {C:Cx} {η:Env} {ν:List Str} {gl:LV} {own:Bool} {d:Nat} {m:Loc} {σ:Sto} {Q:VP} {QI:List V->(Sto->Prop)->Sto->Prop}
noncomputable def z7W(xs ys:List V):List V:=(xs.zip ys).map λp=>V.tup [p.1,p.2]
theorem z9n{xs ys:List V}{i:Nat}{X:V}(h:(z7W xs ys)[i]? =some X):∃Y Z,xs[i]? =some Y/\ys[i]? =some Z/\X= .tup [Y,Z]:=by
 unfold z7W at h
 rw[Al] at h
 cases e:(xs.zip ys)[i]? with
 |none=>rw[e] at h;cases h
 |some p=>rw[e] at h;cases h;obtain⟨h1,h2⟩:=List.getElem?_zip_eq_some.mp e;exact⟨_,_,h1,h2,rfl⟩
theorem IW.more{A:Around}{D:Gh}{tgt:Expr}{I:Addr}{fp wr:List Addr}{xs:List V}{St:Nat->Heap->Prop}(W:IW C A tgt I fp wr D xs St){t:Addr}(ht:t∈fp)(hl:∀i h,St i h->∃o,h.get? t=some o/\¬frk o):IW C A tgt I fp (t::wr) D xs St where
 live:=λi h st a ha=>by
  rcases Ae.mp ha with rfl|ha
  ·exact hl i h st
  ·exact W.live i h st a ha
 sub:=λb hb=>by
  rcases Ae.mp hb with rfl|hb
  ·exact ht
  ·exact W.sub b hb
 old:=λb hb hn=>W.old b hb λh=>hn (.tail _ h)
 frame:=W.frame
 item:=λi X s K hX st h=>W.item i X s K hX st λv s₁ hq=>h v s₁ λQ' q=>hq Q' λh' tk a b c=>q h' tk a b λb o hb e=>c b o (λh=>hb (.tail _ h)) e
 self:=W.self
 done:=λs K st h=>W.done s K st λh' tk c=>h h' tk λb o hb e=>c b o (λh=>hb (.tail _ h)) e
theorem z9T [HM C]{np p:Pos}{e1 e2:Expr}{elts:List Expr}{k:Nat}{pos:Pos}(h:AT C η ν gl own d (eval (.Name "zip" np) η) m σ λF σ₁=>F= .type "zip"/\AL C η ν gl own d (spliced (backTo p (starEach [e1,e2] η))) m σ₁ λXs σ₂=>∃X Y xs ys P P',Xs=[X,Y]/\A8 σ₂ X (.list xs) P/\A8 σ₂ Y (.list ys) P'/\QI (z7W xs ys) (λσ=>P σ/\P' σ) σ₂)
  (he:autoParam (starEach [e1,e2] η=(false,eval e1 η)::starEach [e2] η) auR) (hplain:autoParam ((backTo p (starEach [e2] η)).any (·.1)=false) auR):
  AI C η ν gl own d (.Call (.Name "zip" np) [e1,e2] [] p) (.Tuple elts k pos) m σ QI:=λA G D s hA R=>by
 refine wpAny_Call_ofName (h.run hA R λv s₁ F D₁ σ₁ a b c hpp=> ?_)
 obtain⟨hF,hk⟩:=hpp
 subst hF
 refine z0K (F:= .type "zip") trivial b (by rw[he];exact hplain) ?_
 rw[he] at hk⊢
 refine Calls.evalArgs_plain (AL.run hk hA c λvs s₂ Xs D₂ σ₂ a' b' c' hpp=> ?_)
 refine nG λhG=> ?_
 obtain⟨X,Y,xs,ys,P,P',hX,hH,hH',q⟩:=hpp
 refine hG ?_
 refine⟨c'.toRelC.baseIn,?_⟩
 subst hX
 apply VR.typeE b
 apply A6.consE b';intro _ _ h1 h2'
 apply A6.consE h2';intro _ _ h2 h3
 apply A6.nilE h3
 apply A8.runLE hH c'.toRelC h1;intro ax ws n ho hr hP hst
 apply A8.runLE hH' c'.toRelC h2;intro ay us n' ho' hr' hP' hst'
 refine call_zip_2 (xs:=ws) (ys:=us) ⟨_,ho,rfl,n,rfl⟩ ⟨_,ho',rfl,n',rfl⟩ λh' z1 z2 z3 z4 z5 hsz hkp=>wpAny_pyIter_zip z1 ?_
 have R':A3 C η ν gl own G D₂ m σ₂ {s₂ with heap:=h'}:=c'.back (c'.lifted.keep s₂.toks hkp) (DX.refl _ _)
 have offn:∀b,s₂.heap.objs.size<=b->G b=none/\D₂ b=none/\b∉A5 σ₂/\¬z2y η ν b:=λb hb=>⟨by
   cases e:G b with
   |none=>rfl
   |some o=>obtain⟨_,h,_⟩:=c'.g _ _ e;exact absurd (Heap.lt_size h) (BC.mpr hb),by
   cases e:D₂ b with
   |none=>rfl
   |some o=>exact absurd (Heap.lt_size (c'.d _ _ e)) (BC.mpr hb),λhf=>absurd (c'.toRelC.footLt hf) (BC.mpr hb),λhm=>by
   obtain⟨o,eo⟩:=c'.mineLives hm
   exact absurd (Heap.lt_size eo) (BC.mpr hb)⟩
 have hlt0:=Heap.lt_size ho
 have hlt0':=Heap.lt_size ho'
 generalize hN:s₂.heap.objs.size=N at*
 have hlt: @LT.lt Nat _ ax N:=hlt0
 have hlt': @LT.lt Nat _ ay N:=hlt0'
 have Dz:ZipApart (N+4) (N+2) (N+3) N (N+1) ax ay:=by
  have q:∀{a k:Nat},a<N->a<N+k:=λh=>AF h (Bn _ _)
  have p:∀{j k:Nat},j<k->N+j<N+k:=λh=>Nat.add_lt_add_left h _
  have z:∀{k:Nat},0<k->N<N+k:=λh=>Nat.lt_add_of_pos_right h
  constructor<;>first|exact Bq hlt|exact Nat.ne_of_gt hlt|exact Bq hlt'|exact Nat.ne_of_gt hlt'|exact Bq (z (by decide))|exact Nat.ne_of_gt (z (by decide))|exact Bq (p (by decide))|exact Nat.ne_of_gt (p (by decide))|exact Bq (q hlt)|exact Nat.ne_of_gt (q hlt)|exact Bq (q hlt')|exact Nat.ne_of_gt (q hlt')
 refine⟨D₂,σ₂,z7W xs ys,(λσ=>P σ/\P' σ),a.trans a',⟨N+4,_,_,_,rfl,IW.more (t:=N+2) (IW.ofWalksT (WalksT.zip2 hA.hh (N+4) (N+2) (N+3) N (N+1) ax ay Dz ws us) (by simp[z7W];rw[<-hr.length,<-hr'.length];simp) ?_ ?_ ?_) (by simp) (λi h st=>⟨_,st.2.1,nfC (frN (by decide))⟩),⟨z1,z2,⟨_,_,z3⟩,z4,z5,⟨_,hkp _ _ ho,rfl,n,rfl⟩,⟨_,hkp _ _ ho',rfl,n',rfl⟩⟩,R',?_,⟨hP,hP'⟩,?_⟩,q⟩
 ·rintro i vals X ⟨x,y,hx,hy,rfl⟩ hX
  refine nG λhG=> ?_
  obtain⟨Y,Z,hY,hZ,rfl⟩:=z9n hX
  refine hG ?_
  refine nG λhG=> ?_
  obtain⟨u,e,r⟩:=hr.get hY
  refine hG ?_
  refine nG λhG=> ?_
  obtain⟨u',e',r'⟩:=hr'.get hZ
  refine hG ?_
  rw[Array.getElem?_toList,hx] at e;cases e
  rw[Array.getElem?_toList,hy] at e';cases e'
  exact⟨_,rfl,.cons r (.cons r' .nil)⟩
 ·intro i h st
  refine nG λhG=> ?_
  obtain⟨y1,_,⟨_,_,y3⟩,⟨_,y4,c4,_⟩,⟨_,y5,c5,_⟩,_⟩:=st
  refine hG ?_
  exact(Aa.mpr ⟨⟨_,y1,nfC (frN (by decide))⟩,(Aa.mpr ⟨⟨_,y3,nfC (frN (by decide))⟩,(Aa.mpr ⟨⟨_,y4,nfC (by rw[c4];exact frN (by decide))⟩,(Aa.mpr ⟨⟨_,y5,nfC (by rw[c5];exact frN (by decide))⟩,(λ_ h=>nomatch h)⟩)⟩)⟩)⟩)
 ·intro b hb _ h st e1
  refine nG λhG=> ?_
  obtain⟨y1,y2,⟨_,_,y3⟩,⟨_,y4,_⟩,⟨_,y5,_⟩,⟨_,y6,_⟩,⟨_,y7,_⟩⟩:=st
  refine hG ?_
  obtain⟨o,ho⟩:=(show∀b∈[N+4,N+2,N+3,N,N+1,ax,ay],∃o,h.get? b=some o from(Aa.mpr ⟨⟨_,y1⟩,(Aa.mpr ⟨⟨_,y2⟩,(Aa.mpr ⟨⟨_,y3⟩,(Aa.mpr ⟨⟨_,y4⟩,(Aa.mpr ⟨⟨_,y5⟩,(Aa.mpr ⟨⟨_,y6⟩,(Aa.mpr ⟨⟨_,y7⟩,(λ_ h=>nomatch h)⟩)⟩)⟩)⟩)⟩)⟩)⟩)) b hb
  rw[ho] at e1;cases e1
 ·exactλb hb=>offn b ((show∀b∈[N+2,N+4,N+3,N,N+1],N<=b from(Aa.mpr ⟨Bn _ _,(Aa.mpr ⟨Bn _ _,(Aa.mpr ⟨Bn _ _,(Aa.mpr ⟨AN _,(Aa.mpr ⟨Bn _ _,(λ_ h=>nomatch h)⟩)⟩)⟩)⟩)⟩)) b hb)
 ·intro G' D' σ' s' Rx hsb hP2
  exact(Aa.mpr ⟨λhn=>absurd (.tail _ (.head _)) hn,(Aa.mpr ⟨λhn=>absurd (.head _) hn,(Aa.mpr ⟨λhn=>absurd (.tail _ (.tail _ (.head _))) hn,(Aa.mpr ⟨λhn=>absurd (.tail _ (.tail _ (.tail _ (.head _)))) hn,(Aa.mpr ⟨λhn=>absurd (.tail _ (.tail _ (.tail _ (.tail _ (.head _))))) hn,(Aa.mpr ⟨λ_ o2 e2=>by rw[hkp _ _ ho] at e2;cases e2;exact hst G' D' σ' s' Rx hsb hP2.1,(Aa.mpr ⟨λ_ o2 e2=>by rw[hkp _ _ ho'] at e2;cases e2;exact hst' G' D' σ' s' Rx hsb hP2.2,(λ_ h=>nomatch h)⟩)⟩)⟩)⟩)⟩)⟩)⟩)
def EqV(C:Cx)(σ:Sto)(n:Nat)(x y:V):Prop:=∀(A:Around) (G D:Gh) (s:Shared) (v u:Value),A.units+n<cLine->RelC C G D σ s->VR C.w D v x->VR C.w D u y->SeqAt.EqAt A s v u true
theorem EqV.mono{n n':Nat}{x y:V}(h:EqV C σ n x y)(hn:n<=n'):EqV C σ n' x y:=λA G D s v u hu=>h A G D s v u (AG (Be hn _) hu)
theorem EqV.none:EqV C σ 0 .none .none:=λA G D s v u hl R hv hu=>by rw[hv.noneI,hu.noneI];exact .same _
theorem EqV.bool{b:Bool}:EqV C σ 0 (.bool b) (.bool b):=λA G D s v u hl R hv hu=>by rw[hv.boolI,hu.boolI];exact .same _
theorem EqV.ref{a:Addr}:EqV C σ 0 (.ref a) (.ref a):=λA G D s v u hl R hv hu=>by rw[hv.refI,hu.refI];exact .same _
theorem EqV.int{i:Int}:EqV C σ 0 (.int i) (.int i):=λA G D s v u hl R hv hu=>by
 apply VR.intE hv;intro t1;apply VR.intE hu;intro t2
 have:=SeqAt.EqAt.int_int (A:=A) (s:=s) i t1 i t2
 rw[BD] at this;exact this
theorem EqV.str{i:Str}:EqV C σ 0 (.str i) (.str i):=λA G D s v u hl R hv hu=>by
 apply VR.strE hv;intro t1;apply VR.strE hu;intro t2
 have:=SeqAt.EqAt.str_str (A:=A) (s:=s) i t1 i t2
 rw[BD] at this;exact this
theorem z6I{n:Nat}{xs ys:List V}{A:Around}{G D:Gh}{s:Shared}{ws zs:Array Value}(hl:A.units+(n+1)<cLine)(R:RelC C G D σ s)(hr:A6 C.w D ws.toList xs)(hr':A6 C.w D zs.toList ys)
  (h:∀(j:Nat) X Y,xs[j]? =some X->ys[j]? =some Y->EqV C σ n X Y):∀j (h1:j<ws.size) (h2:j<zs.size),SeqAt.EqAt A.in1 s ws[j] zs[j] true:=λj h1 h2=>by
 obtain⟨X,eX,rX⟩:=hr.get' (i:=j) (u:=ws[j]) (by rw[Array.getElem?_toList];exact Array.getElem?_eq_getElem h1)
 obtain⟨Y,eY,rY⟩:=hr'.get' (i:=j) (u:=zs[j]) (by rw[Array.getElem?_toList];exact Array.getElem?_eq_getElem h2)
 exact h j X Y eX eY A.in1 G D s _ _ (AG (Bp (Nat.add_right_comm A.units 1 n)) hl) R rX rY
theorem z3I(n:Nat):(List.range n).all (λ_=>true)=true:=by simp
theorem EqV.tup{n:Nat}{xs ys:List V}(hz:xs.length=ys.length)(h:∀(j:Nat) X Y,xs[j]? =some X->ys[j]? =some Y->EqV C σ n X Y):EqV C σ (n+1) (.tup xs) (.tup ys):=λA G D s v u hl R hv hu=>by
 apply VR.isTE R hv;intro a ws _ hT hr
 apply VR.isTE R hu;intro b zs _ hT' hr'
 by_cases e:a=b
 ·subst e;exact .same _
 ·have:=SeqAt.RcAt.tuples (e:=λ_=>true) hT hT' (AG (Bn _ _) hl) (z6I hl R hr hr' h)
  rw[z3I,show(ws.size==zs.size)=true by rw[<-Bz,hr.length,<-Bz,hr'.length,hz];simp] at this
  exact .of_refs e this
theorem EqV.list{n:Nat}{x y:V}{xs ys:List V}{P P':Sto->Prop}(hx:A8 σ x (.list xs) P)(hy:A8 σ y (.list ys) P')(hz:xs.length=ys.length)(h:∀(j:Nat) X Y,xs[j]? =some X->ys[j]? =some Y->EqV C σ n X Y):EqV C σ (n+1) x y:=λA G D s v u hl R hv hu=>by
 apply A8.isListE hx R hv;intro a ws k ho hr
 apply A8.isListE hy R hu;intro b zs k' ho' hr'
 by_cases e:a=b
 ·subst e;exact .same _
 ·have:=SeqAt.RcAt.lists (e:=λ_=>true) ⟨_,ho,rfl,k,rfl⟩ ⟨_,ho',rfl,k',rfl⟩ (by rw[<-Bz,hr.length,<-Bz,hr'.length,hz]) (AG (Bn _ _) hl) (z6I hl R hr hr' h)
  rw[z3I] at this
  exact .of_refs e this
theorem EqV.le{n:Nat}{x y:V}(h:EqV C σ 0 x y):EqV C σ n x y:=h.mono (Nat.zero_le _)
theorem z5t{A:Around}{d n:Nat}(hA:C9 C A d)(hn:n<=100):A.units+n<cLine:=AF (Nat.add_lt_add_of_lt_of_le (AG (Bn _ _) hA.units) hn) (by decide)
theorem y3E{n:Nat}{xs ys:List V}(hz:xs.length=ys.length)(h:∀(j:Nat) X Y,xs[j]? =some X->ys[j]? =some Y->EqV C σ n X Y)(hn:n<=60)(q:Q (.bool false) σ):AC2 C d (compareOp .NotEq) (.tup xs) (.tup ys) σ Q:=λA G D s v u hA R hv hu=>by
 apply VR.isTE R hv;intro a ws _ hT hr
 apply VR.isTE R hu;intro b zs _ hT' hr'
 have:=SeqAt.RcNeAt.tuples (e:=λ_=>true) hT hT' hA.line0 (z6I (z5t hA (Nat.succ_le_of_lt (AG hn (by decide)))) R hr hr' h)
 rw[z3I,show(ws.size==zs.size)=true by rw[<-Bz,hr.length,<-Bz,hr'.length,hz];simp] at this
 exact this C.prog C.w _ _ (A0.now R (.bool _) q)
theorem z70{n:Nat}{x y:V}{xs ys:List V}{P P':Sto->Prop}(hx:A8 σ x (.list xs) P)(hy:A8 σ y (.list ys) P')(hz:xs.length=ys.length)(h:∀(j:Nat) X Y,xs[j]? =some X->ys[j]? =some Y->EqV C σ n X Y)(hn:n<=60)(q:Q (.bool false) σ):AC2 C d (compareOp .NotEq) x y σ Q:=λA G D s v u hA R hv hu=>by
 apply A8.isListE hx R hv;intro a ws k ho hr
 apply A8.isListE hy R hu;intro b zs k' ho' hr'
 have:=SeqAt.RcNeAt.lists (e:=λ_=>true) ⟨_,ho,rfl,k,rfl⟩ ⟨_,ho',rfl,k',rfl⟩ (by rw[<-Bz,hr.length,<-Bz,hr'.length,hz]) hA.line0 (z6I (z5t hA (Nat.succ_le_of_lt (AG hn (by decide)))) R hr hr' h)
 rw[z3I] at this
 exact this C.prog C.w _ _ (A0.now R (.bool _) q)
theorem M_extend:B9 "list" "extend" "list.extend":=⟨F.plainAttrs_list,F.slot_list_extend,F.type_list_extend⟩
end
noncomputable def z3x(K:W.Frag)(a:Addr):FuncData:=match K.lookup a with
 |some o=>match o.data with
  | .func fd=>fd
  |_=>default
 |none=>default
noncomputable def y3Z(K:W.Frag)(a:Addr):Bool:=match K.lookup a with
 |some o=>match o.data with
  | .func _=>true
  |_=>false
 |none=>false
noncomputable def z6s(fd:FuncData):List Stmt:=match fd.body with
 | .stmts b=>b
 |_=>[]
noncomputable def y31(fd:FuncData):Bool:=match fd.body with
 | .stmts _=>true
 |_=>false
noncomputable def y2f(K:W.Frag)(a:Addr)(ν gs:List Str):Bool:=
 y3Z K a&&(y31 (z3x K a)&&((z3x K a).closure.isEmpty&&(W.codeIn K (z3x K a).code (z3x K a).qualname&&(Nat.beq (z3x K a).globals mainGlobals&&(Nat.beq (z3x K a).builtins builtinsNs&&z3T (z3x K a).scope ν gs)))))
section
variable {C:Cx} {d:Nat} {σ:Sto} {Q:VP}
theorem y0X{K:W.Frag}{a:Addr}(h:y3Z K a=true):∃o,K.lookup a=some o/\o.data= .func (z3x K a):=by
 unfold y3Z at h
 unfold z3x
 cases e:K.lookup a with
 |none=>rw[e] at h;cases h
 |some o=>
  rw[e] at h
  refine⟨o,rfl,?_⟩
  have h:(match o.data with
   | .func _=>true
   |_=>false)=true:=h
  show o.data= .func (match o.data with
   | .func fd=>fd
   |_=>default)
  cases e2:o.data<;>rw[e2] at h<;>first|(cases h;done)|rfl
theorem y0Y{fd:FuncData}(h:y31 fd=true):fd.body= .stmts (z6s fd):=by
 unfold y31 at h
 unfold z6s
 cases e:fd.body<;>rw[e] at h<;>first|(cases h;done)|rfl
theorem z0M [NF C]{K:W.Frag}(H:K.In C.base){a:Addr}(ν:List Str)(gl:LV){xs:List V}(e:y2f K a ν (gl.map (·.1))=true)(e8:∀vs:List Value,vs.length=xs.length->bindArgs (z3x K a) ⟨vs,[]⟩=pure ((ν.take xs.length).zip vs))(e9:Nat.ble xs.length ν.length=true)(hgl:∀p∈gl,z04 C p.1 p.2)
  (h:∀η,η.scope=(z3x K a).scope->AS C η ν gl true d (execs (z6s (z3x K a)) η) (xs.map some++(ν.drop xs.length).map λ_=>none) σ (y1W Q)):CW C (d+1) (.ref a) xs σ Q:=by
 unfold y2f at e
 simp only[AC] at e
 obtain⟨e1,e2,e3,e4,e5,e6,e7⟩:=e
 obtain⟨o,k1,k2⟩:=y0X e1
 have hl:(ν.take xs.length).length=xs.length:=by rw[AR];exact Nat.min_eq_left (AH e9)
 refine y4z (params:=ν.take xs.length) (others:=ν.drop xs.length) ⟨⟨o,H a o k1,k2⟩,y0Y e2,List.isEmpty_iff.mp e3,W.codeRec_of H e4,Nat.eq_of_beq_eq_true e5,Nat.eq_of_beq_eq_true e6,λvs hv=>e8 vs (hv.trans hl)⟩ hl.symm ?_ hgl ?_
 ·rw[List.take_append_drop];exact e7
 ·rw[List.take_append_drop];exact h
theorem vs0{P:List Value->Prop}(h:P []):∀vs:List Value,vs.length=0->P vs:=λvs e=>by rw[List.length_eq_zero_iff.mp e];exact h
theorem vsS{P:List Value->Prop}{n:Nat}(h:∀a,∀vs:List Value,vs.length=n->P (a::vs)):∀vs:List Value,vs.length=n+1->P vs:=λvs e=>by
 cases vs with
 |nil=>cases e
 |cons a vs=>exact h a vs (Nat.succ.inj e)
theorem vs1{P:List Value->Prop}(h:∀a,P [a]):∀vs:List Value,vs.length=1->P vs:=vsS λa=>vs0 (P:=λvs=>P (a::vs)) (h a)
theorem vs2{P:List Value->Prop}(h:∀a b,P [a,b]):∀vs:List Value,vs.length=2->P vs:=vsS λa=>vs1 (P:=λvs=>P (a::vs)) (h a)
theorem vs3{P:List Value->Prop}(h:∀a b c,P [a,b,c]):∀vs:List Value,vs.length=3->P vs:=vsS λa=>vs2 (P:=λvs=>P (a::vs)) (h a)
theorem vs4{P:List Value->Prop}(h:∀a b c d,P [a,b,c,d]):∀vs:List Value,vs.length=4->P vs:=vsS λa=>vs3 (P:=λvs=>P (a::vs)) (h a)
theorem vs5{P:List Value->Prop}(h:∀a b c d e,P [a,b,c,d,e]):∀vs:List Value,vs.length=5->P vs:=vsS λa=>vs4 (P:=λvs=>P (a::vs)) (h a)
theorem vs6{P:List Value->Prop}(h:∀a b c d e f,P [a,b,c,d,e,f]):∀vs:List Value,vs.length=6->P vs:=vsS λa=>vs5 (P:=λvs=>P (a::vs)) (h a)
end
section
variable {C:Cx} {η:Env} {ν:List Str} {gl:LV} {own:Bool} {d:Nat} {m:Loc} {σ τ ρ:Sto} {Q:VP} {QS:FP}
theorem z4e(h:List.Perm ρ σ):List.Perm (A5 ρ) (A5 σ):=by
 induction h with
 |nil=>exact .refl _
 |cons p _ ih=>obtain⟨a,o,x⟩:=p;exact ih.append_left _
 |swap p q l=>
  obtain⟨a,o,x⟩:=p
  obtain⟨b,o',y⟩:=q
  exact List.perm_append_comm_assoc ..
 |trans _ _ a b=>exact a.trans b
theorem z80{b:Addr}(h:b∈A5 σ):∃p∈σ,b∈z0z p.1 p.2.2:=by
 induction σ with
 |nil=>cases h
 |cons p r ih=>
  obtain⟨a,o,x⟩:=p
  rcases Ad.mp h with h|h
  ·exact⟨_,.head _,h⟩
  ·obtain⟨p,hp,hb⟩:=ih h
   exact⟨p,.tail _ hp,hb⟩
open Classical in
theorem z1W{f:Addr}{xs:List V}(hp:List.Perm ρ (σ++τ))(h:CW C d (.ref f) xs τ λr τ'=>(A5 (σ++τ')).Nodup->Q r (σ++τ')):CW C d (.ref f) xs ρ Q:=by
 intro A G D s vs hA R hv
 have fp:=z4e hp
 rw[z0s] at fp
 obtain⟨n1,n2,n3⟩:=List.nodup_append.mp (fp.nodup_iff.mp R.nd)
 have inF:∀b∈A5 σ,b∈A5 ρ:=λb hb=>fp.mem_iff.mpr (Ai _ hb)
 have inT:∀b∈A5 τ,b∈A5 ρ:=λb hb=>fp.mem_iff.mpr (Aj _ hb)
 have mS:∀p∈σ,p∈ρ:=λp h=>hp.mem_iff.mpr (Ai _ h)
 have mT:∀p∈τ,p∈ρ:=λp h=>hp.mem_iff.mpr (Aj _ h)
 have lives:∀b∈A5 σ,∃o,s.heap.get? b=some o:=λb hb=>by
  obtain⟨p,hp,hb⟩:=z80 hb
  exact(R.pl p (mS p hp)).lives b hb
 generalize hG:(λb=>if b∈A5 σ then s.heap.get? b else G b:Gh)=G'
 have gIn:∀b∈A5 σ,G' b=s.heap.get? b:=λb hb=>by rw[<-hG];exact if_pos hb
 have gOut:∀b,b∉A5 σ->G' b=G b:=λb hb=>by rw[<-hG];exact if_neg hb
 clear hG
 have gG:∀b o,G b=some o->G' b=some o:=λb o e=>by
  rw[gOut b λhb=>by rw[R.offG b (inF b hb)] at e;cases e];exact e
 have R':RelC C G' D τ s:=⟨R.same,R.bs,λb o e=>(by
   by_cases hb:b∈A5 σ
   ·rw[gIn b hb] at e;exact⟨o,e,.refl o⟩
   ·rw[gOut b hb] at e;exact R.g b o e),R.d,λb o e=>gG b o (R.base b o e),n2,
  λb hb=>(by rw[gOut b λh=>n3 b h b hb rfl];exact R.offG b (inT b hb)),λb hb=>R.offD b (inT b hb),λp hp=>R.pl p (mT p hp),λp hp=>R.sto p (mT p hp)⟩
 refine codeAny_mono (h A G' D s vs hA R' hv) λr s' q=> ?_
 cases r with
 |error e=>exact q
 |ok fl=>
  cases fl<;>first|exact q.elim|skip
  obtain⟨x,D',τ',dx,hx,R2,q⟩:=q
  have nd2:(A5 (σ++τ')).Nodup:=by
   rw[z0s]
   refine List.nodup_append.mpr ⟨n1,R2.nd,λa ha b hb e=> ?_⟩
   subst e
   have e:=R2.offG a hb
   obtain⟨o,ho⟩:=lives a ha
   rw[gIn a ha,ho] at e;cases e
  refine⟨x,D',σ++τ',dx.less λb g=> ?_,hx,⟨R2.same,R2.bs,λb o e=>R2.g b o (gG b o e),R2.d,R.base,nd2,λb hb=> ?_,λb hb=> ?_,λp hp=> ?_,λp hp=> ?_⟩,q nd2⟩
  ·cases e:G b with
   |none=>exact absurd e g
   |some o=>rw[gG b o e];exact nofun
  ·rw[z0s] at hb
   rcases Ad.mp hb with hb|hb
   ·exact R.offG b (inF b hb)
   ·cases e:G b with
    |none=>rfl
    |some o=>rw[<-gG b o e];exact R2.offG b hb
  ·rw[z0s] at hb
   rcases Ad.mp hb with hb|hb
   ·exact dx.off b (R.offD b (inF b hb)) (by obtain⟨o,ho⟩:=lives b hb;rw[gIn b hb,ho];exact nofun)
   ·exact R2.offD b hb
  ·rcases Ad.mp hp with hp|hp
   ·exact(R.pl p (mS p hp)).at λb hb ob e=>R2.ge (by rw[gIn b (z06 (a:=p.1) (ob:=p.2.1) (o:=p.2.2) hp b hb)];exact e) ((R.pl p (mS p hp)).nf (R.sto p (mS p hp)) b hb ob e)
   ·exact R2.pl p hp
  ·rcases Ad.mp hp with hp|hp
   ·exact(R.sto p (mS p hp)).mono dx.sub
   ·exact R2.sto p hp
end
section
set_option genSizeOf false
set_option genInjectivity false
inductive TK where
 |str|int|bool|tup|lst|dct
noncomputable def TK.n:TK->String
 | .str=>"str"| .int=>"int"| .bool=>"bool"| .tup=>"tuple"| .lst=>"list"| .dct=>"dict"
noncomputable def TK.no:TK->Nat
 | .str=>0| .int=>1| .bool=>2| .tup=>3| .lst=>4| .dct=>5
noncomputable def TK.is(a b:TK):Bool:=Nat.beq a.no b.no||(Nat.beq a.no 2&&Nat.beq b.no 1)
noncomputable def tkOf:V->Option (Option TK)
 | .none=>some none| .bool _=>some (some .bool)| .int _=>some (some .int)| .str _=>some (some .str)| .tup _=>some (some .tup)| .lst _=>some (some .lst)| .dct _=>some (some .dct)|_=>none
noncomputable def y2l(x:V)(t:TK):Option Bool:=match tkOf x with
 |some (some k)=>some (k.is t)
 |some none=>some false
 |none=>none
noncomputable def vK:V->Nat×Int×Str×String
 | .int a=>(1,a,"","")
 | .str a=>(2,0,a,"")
 | .bi s=>(5,0,"",s)
 | .type s=>(6,0,"",s)
 | .ref a=>(7,(a:Int),"","")
 |_=>(0,0,"","")
noncomputable def inO(X:V):Option Int:=match X with
 | .int a=>some a
 |_=>none
noncomputable def stO(X:V):Option Str:=match X with
 | .str a=>some a
 |_=>none
noncomputable def boO(X:V):Option Bool:=match X with
 | .bool a=>some a
 |_=>none
noncomputable def tuO(X:V):Option (List V):=match X with
 | .tup a=>some a
 |_=>none
noncomputable def two{α β:Type}(x y:Option α)(f:α->α->Option β)(o:Option β):Option β:=match x with
 |some a=>match y with
  |some b=>f a b
  |none=>none
 |none=>o
noncomputable def z5F(X Y:V)(f:Int->Int->Option V):Option V:=two (inO X) (inO Y) f none
noncomputable def y2C(b:Int)(f:Nat->Option V):Option V:=match b with
 | .ofNat (k+1)=>f k
 |_=>none
noncomputable def y14(op:Operator)(X Y:V):Option V:=match op with
 | .Add=>z5F X Y λa b=>some (.int (a+b))
 | .Sub=>z5F X Y λa b=>some (.int (a-b))
 | .Mod=>z5F X Y λa b=>y2C b λk=>some (.int (a.fmod (.ofNat (k+1))))
 | .FloorDiv=>z5F X Y λa b=>y2C b λk=>match Nat.blt (k+1) 1073741824 with
  |true=>some (.int (a.fdiv (.ofNat (k+1))))
  |false=>none
 |_=>none
noncomputable def eqV(X Y:V)(n:Bool->V):Option V:=two (inO X) (inO Y) (λa b=>some (n (decide (a=b)))) (two (stO X) (stO Y) (λa b=>some (n (a==b))) none)
noncomputable def isV(X Y:V)(n:Bool->V):Option V:=match Y.isNone with
 |true=>some (n X.isNone)
 |false=>two (boO X) (boO Y) (λa b=>some (n (a==b))) none
noncomputable def y0I(op:CmpOp)(X Y:V):Option V:=match op with
 | .Lt=>z5F X Y λa b=>some (.bool (decide (a<b)))
 | .LtE=>z5F X Y λa b=>some (.bool (decide (a<=b)))
 | .Gt=>z5F X Y λa b=>some (.bool (decide (b<a)))
 | .GtE=>z5F X Y λa b=>some (.bool (decide (b<=a)))
 | .Eq=>eqV X Y .bool
 | .NotEq=>eqV X Y λb=> .bool (!b)
 | .Is=>isV X Y .bool
 | .IsNot=>isV X Y λb=> .bool (!b)
 |_=>none
noncomputable def y1A(X:V)(k:Nat):Option V:=match tuO X with
 |some xs=>xs[k]?
 |none=>none
structure B2(P:Prop):Prop where
 out:P
theorem LK{P:Prop}(h:P):B2 P:=⟨h⟩
section
variable {C:Cx} {d:Nat} {X Y Z:V} {σ:Sto} {Q:VP}
theorem ffo{α:Type}{a:α}{P:Prop}(h:none=some a):P:=nomatch h
theorem z83{a:Int}(h:inO X=some a):X= .int a:=by
 cases X<;>first|exact congrArg V.int (Bs h)|exact ffo h
theorem y3m{a:Str}(h:stO X=some a):X= .str a:=by
 cases X<;>first|exact congrArg V.str (Bs h)|exact ffo h
theorem y28{a:Bool}(h:boO X=some a):X= .bool a:=by
 cases X<;>first|exact congrArg V.bool (Bs h)|exact ffo h
theorem y41{a:List V}(h:tuO X=some a):X= .tup a:=by
 cases X<;>first|exact congrArg V.tup (Bs h)|exact ffo h
theorem V.isN_i(h:X.isNone=true):X= .none:=by
 cases X<;>first|rfl|exact ff h
theorem z9i{α:Type}{x y:Option α}{f:α->α->Option V}{o:Option V}(h:two x y f o=some Z):(∃a b,x=some a/\y=some b/\f a b=some Z)∨o=some Z:=by
 cases x with
 |none=>exact .inr h
 |some a=>cases y with
  |none=>exact nomatch h
  |some b=>exact .inl ⟨a,b,rfl,rfl,h⟩
theorem z5g{f:Int->Int->Option V}(h:z5F X Y f=some Z):∃a b,X= .int a/\Y= .int b/\f a b=some Z:=by
 rcases z9i h with⟨a,b,e1,e2,h⟩|h
 ·exact⟨a,b,z83 e1,z83 e2,h⟩
 ·exact nomatch h
theorem z7s{b:Int}{f:Nat->Option V}(h:y2C b f=some Z):∃k:Nat,b=((k+1:Nat):Int)/\f k=some Z:=by
 unfold y2C at h
 split at h
 ·exact⟨_,rfl,h⟩
 ·cases h
theorem y1o{k:Nat}:((k+1:Nat):Int)≠0:=λh=>nomatch h
theorem z3g{f:Int->Int->V}{g:Value->Value->Sem Value}(h:z5F X Y (λa b=>some (f a b))=some Z)(q:Q Z σ)(k:∀a b,Q (f a b) σ->AC2 C d g (.int a) (.int b) σ Q):AC2 C d g X Y σ Q:=by
 obtain⟨a,b,rfl,rfl,h⟩:=z5g h
 exact k a b (Bs h▸q)
theorem y15{op:Operator}(h:y14 op X Y=some Z)(q:Q Z σ):AC2 C d (binaryOp op) X Y σ Q:=by
 cases op with
 |Add=>exact z3g h q λ_ _ q=>z6X q
 |Sub=>exact z3g h q λ_ _ q=>y4x q
 |Mod=>
  obtain⟨a,b,rfl,rfl,h'⟩:=z5g h
  obtain⟨k,rfl,h2⟩:=z7s h'
  exact z6Y (Bs h2▸q) y1o
 |FloorDiv=>
  obtain⟨a,b,rfl,rfl,h'⟩:=z5g h
  obtain⟨k,rfl,h2⟩:=z7s h'
  cases hk:Nat.blt (k+1) 1073741824 with
  |true=>rw[hk] at h2;exact z8y (Bs h2▸q) y1o (Nat.blt_eq.mp hk)
  |false=>rw[hk] at h2;exact nomatch h2
 |_=>exact ffo h
theorem y0N{n:Bool->V}{op:CmpOp}(h:eqV X Y n=some Z)(q:Q Z σ)(h1:∀a b:Int,Q (n (decide (a=b))) σ->AC2 C d (compareOp op) (.int a) (.int b) σ Q)(h2:∀a b:Str,Q (n (a==b)) σ->AC2 C d (compareOp op) (.str a) (.str b) σ Q):AC2 C d (compareOp op) X Y σ Q:=by
 rcases z9i h with⟨a,b,e1,e2,h⟩|h
 ·rw[z83 e1,z83 e2];exact h1 a b (Bs h▸q)
 ·rcases z9i h with⟨a,b,e1,e2,h⟩|h
  ·rw[y3m e1,y3m e2];exact h2 a b (Bs h▸q)
  ·exact nomatch h
theorem y00{n:Bool->V}{op:CmpOp}(h:isV X Y n=some Z)(q:Q Z σ)(h1:Q (n X.isNone) σ->AC2 C d (compareOp op) X .none σ Q)(h2:∀a b:Bool,Q (n (a==b)) σ->AC2 C d (compareOp op) (.bool a) (.bool b) σ Q):AC2 C d (compareOp op) X Y σ Q:=by
 unfold isV at h
 cases hn:Y.isNone with
 |true=>rw[hn] at h;rw[V.isN_i hn];exact h1 (Bs h▸q)
 |false=>
  rw[hn] at h
  rcases z9i h with⟨a,b,e1,e2,h⟩|h
  ·rw[y28 e1,y28 e2];exact h2 a b (Bs h▸q)
  ·exact nomatch h
theorem z3e{op:CmpOp}(h:y0I op X Y=some Z)(q:Q Z σ):AC2 C d (compareOp op) X Y σ Q:=by
 cases op with
 |Lt=>exact z3g h q λ_ _ q=>y4A q
 |LtE=>exact z3g h q λ_ _ q=>y49 q
 |Gt=>exact z3g h q λ_ _ q=>y3y q
 |GtE=>exact z3g h q λ_ _ q=>y48 q
 |Eq=>exact y0N h q (λ_ _ q=>y3w q) λ_ _ q=>z3l q
 |NotEq=>exact y0N (n:=λb=> .bool (!b)) h q (λ_ _ q=>y4B q) λ_ _ q=>z8A q
 |Is=>exact y00 h q (λq=>z97 q) λ_ _ q=>y3B q
 |IsNot=>exact y00 (n:=λb=> .bool (!b)) h q (λq=>z6Z q) λ_ _ q=>z9u q
 |_=>exact ffo h
theorem y1B{k:Nat}(h:y1A X k=some Z)(hk:Nat.blt k 1000=true)(q:Q Z σ):C2 C d X (.int (k:Int)) σ Q:=by
 unfold y1A at h
 cases e:tuO X with
 |none=>rw[e] at h;exact nomatch h
 |some xs=>
  rw[e] at h;rw[y41 e]
  exact y21 (Bl k) (Int.ofNat_lt.mpr (AY (Nat.blt_eq.mp hk) (by decide))) h q
theorem y32{i:Int}{t:TK}(q:Q (.bool (TK.int.is t)) σ):KW C d (.bi "isinstance") [.int i,.type t.n] σ Q:=z75 λA G D s v R h1=>by
 apply VR.intE h1;intro _
 cases t with
 |str=>exact IsiPair.int_str (A0.now (R.tok _) (.bool _) q)
 |int=>exact IsiPair.int_int (A0.now R (.bool _) q)
 |bool=>exact IsiPair.int_bool (A0.now (R.tok _) (.bool _) q)
 |tup=>exact IsiPair.int_tuple (A0.now (R.tok _) (.bool _) q)
 |lst=>exact IsiPair.int_list (A0.now (R.tok _) (.bool _) q)
 |dct=>exact IsiPair.int_dict (A0.now (R.tok _) (.bool _) q)
theorem y2k{b:Bool}{t:TK}(q:Q (.bool (TK.bool.is t)) σ):KW C d (.bi "isinstance") [.bool b,.type t.n] σ Q:=z75 λA G D s v R h1=>by
 apply VR.boolE h1
 cases t with
 |str=>exact IsiPair.bool_str (A0.now (R.tok _) (.bool _) q)
 |int=>exact IsiPair.bool_int (A0.now R (.bool _) q)
 |bool=>exact IsiPair.bool_bool (A0.now R (.bool _) q)
 |tup=>exact IsiPair.bool_tuple (A0.now (R.tok _) (.bool _) q)
 |lst=>exact IsiPair.bool_list (A0.now (R.tok _) (.bool _) q)
 |dct=>exact IsiPair.bool_dict (A0.now (R.tok _) (.bool _) q)
theorem y33{x:Str}{t:TK}(q:Q (.bool (TK.str.is t)) σ):KW C d (.bi "isinstance") [.str x,.type t.n] σ Q:=z75 λA G D s v R h1=>by
 apply VR.strE h1;intro _
 cases t with
 |str=>exact IsiPair.str_str (A0.now R (.bool _) q)
 |int=>exact IsiPair.str_int (A0.now (R.tok _) (.bool _) q)
 |bool=>exact IsiPair.str_bool (A0.now (R.tok _) (.bool _) q)
 |tup=>exact IsiPair.str_tuple (A0.now (R.tok _) (.bool _) q)
 |lst=>exact IsiPair.str_list (A0.now (R.tok _) (.bool _) q)
 |dct=>exact IsiPair.str_dict (A0.now (R.tok _) (.bool _) q)
theorem is_none{t:TK}(q:Q (.bool false) σ):KW C d (.bi "isinstance") [.none,.type t.n] σ Q:=z75 λA G D s v R h1=>by
 apply VR.noneE h1
 cases t with
 |str=>exact IsiPair.NoneType_str (A0.now (R.tok _) (.bool _) q)
 |int=>exact IsiPair.NoneType_int (A0.now (R.tok _) (.bool _) q)
 |bool=>exact IsiPair.NoneType_bool (A0.now (R.tok _) (.bool _) q)
 |tup=>exact IsiPair.NoneType_tuple (A0.now (R.tok _) (.bool _) q)
 |lst=>exact IsiPair.NoneType_list (A0.now (R.tok _) (.bool _) q)
 |dct=>exact IsiPair.NoneType_dict (A0.now (R.tok _) (.bool _) q)
theorem y34{xs:List V}{t:TK}(q:Q (.bool (TK.tup.is t)) σ):KW C d (.bi "isinstance") [.tup xs,.type t.n] σ Q:=z75 λA G D s v R h1=>by
 obtain⟨a,o,vs,n,rfl,e,hc,hd,hr⟩:=h1.tupI
 cases t with
 |str=>exact IsiPair.tuple_str (R.d _ _ e) hc (A0.now (R.tok _) (.bool _) q)
 |int=>exact IsiPair.tuple_int (R.d _ _ e) hc (A0.now (R.tok _) (.bool _) q)
 |bool=>exact IsiPair.tuple_bool (R.d _ _ e) hc (A0.now (R.tok _) (.bool _) q)
 |tup=>exact IsiPair.tuple_tuple (R.d _ _ e) hc (A0.now R (.bool _) q)
 |lst=>exact IsiPair.tuple_list (R.d _ _ e) hc (A0.now (R.tok _) (.bool _) q)
 |dct=>exact IsiPair.tuple_dict (R.d _ _ e) hc (A0.now (R.tok _) (.bool _) q)
theorem y02{x:V}{xs:List V}{P:Sto->Prop}(h:A8 σ x (.list xs) P){t:TK}(q:Q (.bool (TK.lst.is t)) σ):KW C d (.bi "isinstance") [x,.type t.n] σ Q:=z75 λA G D s v R h1=>by
 apply A8.isListE h R h1;intro a ws n ho hr
 cases t with
 |str=>exact IsiPair.list_str ho rfl (A0.now (R.tok _) (.bool _) q)
 |int=>exact IsiPair.list_int ho rfl (A0.now (R.tok _) (.bool _) q)
 |bool=>exact IsiPair.list_bool ho rfl (A0.now (R.tok _) (.bool _) q)
 |tup=>exact IsiPair.list_tuple ho rfl (A0.now (R.tok _) (.bool _) q)
 |lst=>exact IsiPair.list_list ho rfl (A0.now R (.bool _) q)
 |dct=>exact IsiPair.list_dict ho rfl (A0.now (R.tok _) (.bool _) q)
theorem y01{x:V}{xs:List (V×V)}{P:Sto->Prop}(h:A8 σ x (.dict xs) P){t:TK}(q:Q (.bool (TK.dct.is t)) σ):KW C d (.bi "isinstance") [x,.type t.n] σ Q:=z75 λA G D s v R h1=>by
 apply A8.isDictE h R h1;intro a ws n ho
 cases t with
 |str=>exact IsiPair.dict_str ho rfl (A0.now (R.tok _) (.bool _) q)
 |int=>exact IsiPair.dict_int ho rfl (A0.now (R.tok _) (.bool _) q)
 |bool=>exact IsiPair.dict_bool ho rfl (A0.now (R.tok _) (.bool _) q)
 |tup=>exact IsiPair.dict_tuple ho rfl (A0.now (R.tok _) (.bool _) q)
 |lst=>exact IsiPair.dict_list ho rfl (A0.now (R.tok _) (.bool _) q)
 |dct=>exact IsiPair.dict_dict ho rfl (A0.now R (.bool _) q)
theorem z3y{t:TK}{b:Bool}(h:y2l X t=some b)(q:Q (.bool b) σ):KW C d (.bi "isinstance") [X,.type t.n] σ Q:=by
 have k:∀{a:Bool},some a=some b->Q (.bool a) σ:=λh=>(Bs h).symm▸q
 cases X with
 |none=>exact is_none (k h)
 |bool _=>exact y2k (k h)
 |int _=>exact y32 (k h)
 |str _=>exact y33 (k h)
 |tup _=>exact y34 (k h)
 |lst _=>exact y02 (.lst _) (k h)
 |dct _=>exact y01 (.dct _) (k h)
 |_=>exact nomatch h
def cQ(o:Option V)(σ:Sto)(Q:VP)(L:Prop):Prop:=match o with
 |some Z=>Q Z σ
 |none=>B2 L
theorem y3R{a b:Int}{L:Prop}(h:0<b)(q:Q (.int (a.fmod b)) σ):cQ (y14 .Mod (.int a) (.int b)) σ Q L:=by
 obtain⟨k,rfl⟩:=Int.eq_succ_of_zero_lt h
 exact q
theorem y18{a:Int}{n:Nat}{L:Prop}(h:0<n)(q:∀k:Nat,k<n->Q (.int (k:Int)) σ):cQ (y14 .Mod (.int a) (.int (n:Int))) σ Q L:=by
 have hp:(0:Int)<(n:Int):=Int.ofNat_lt.mpr h
 refine y3R hp ?_
 obtain⟨k,e⟩:=Int.eq_ofNat_of_zero_le (Ba a hp)
 rw[e]
 exact q k (Int.ofNat_lt.mp (e▸Bb a hp))
theorem z0B{x:V}{xs:List V}{P:Sto->Prop}{n:Nat}(h:A8 σ x (.list xs) P)(hn:xs.length=n)(hl:xs.length<=sizeLine)(q:Q (.int (n:Int)) σ):KW C d (.bi "len") [x] σ Q:=z6k h hl (by rw[hn];exact q)
def cB(o:Option V)(σ:Sto)(Q:Bool->Sto->Prop)(L:Prop):Prop:=match o with
 |some (.bool b)=>Q b σ
 |_=>B2 L
def cIf(b:Bool)(A B:Prop):Prop:=match b with
 |true=>A
 |false=>B
theorem z2H{b:Bool}{A B:Prop}(h:b=true)(a:A):cIf b A B:=by subst h;exact a
theorem z1o{b:Bool}{A B:Prop}(h:b=false)(a:B):cIf b A B:=by subst h;exact a
theorem z0p{b:Bool}{A B:Prop}(h:b=true->A)(k:b=false->B):cIf b A B:=by
 cases b with
 |true=>exact h rfl
 |false=>exact k rfl
theorem z4r{b:Bool}{A B:Prop}(w:cIf b A B):(b=true->A)/\(b=false->B):=by
 cases b with
 |true=>exact⟨λ_=>w,λe=>nomatch e⟩
 |false=>exact⟨(λe=>nomatch e),λ_=>w⟩
end
structure Fx where
 C:Cx
 env:Env
 vars:List Str
 gl:LV
 own:Bool
 d:Nat
 fns:List Nat
 ml:List (Nat×Str×Nat)
 al:List (Nat×Str)
set_option genCtorIdx false in
inductive C8 where
 |L (i:Nat)|P (X:V)|len|raw (e:Expr)|sub|S (k:Nat)|B (o:Operator)|G (o:CmpOp)|cm2 (o:CmpOp) (r:List C8)|una (o:UnaryOp)
 |O (o:BoolOp) (r:List C8)|tup (n:Nat)|lst (n:Nat)|call (G:V) (n:Nat)|Q (t:TK)|Y (ty:String)|H (G:V) (n:Nat)|mI (c:Nat) (nm:Str)|slc
 |tcmp (o:CmpOp)|K (o:CmpOp)|tcm2 (o:CmpOp) (r:List C8)|V|not|M (o:BoolOp) (r:List C8)
 |I (a b:List C8)|A (i:Nat)|asgL (i:Nat)|asgD (i:Nat)|asg2 (i j:Nat)|ret|pop|att (c:Nat) (nm:Str)|dic|setI|drp|X (s:Stmt)|cut (a:List C8)|forR (i:Nat) (b:List C8)|forL (i:Nat) (b:List C8)|forL2 (i j:Nat) (b:List C8)|forDS (i:Nat) (b:List C8)|forDI (i:Nat) (b:List C8)|forV (i:Nat) (b:List C8)|forE (i j:Nat) (b:List C8)
inductive Cat where
 |e|o|l|b|m|s|r
structure D9 where
 k:Cat
 ok:Fx->Bool
 ex:Expr
 exs:List Expr
 st:Stmt
 sts:List Stmt
 c:List C8->List C8
 cv:BoolOp->List C8->List C8
noncomputable def D0:D9:=⟨.o,λ_=>true,.Name "" ⟨0,0,0,0⟩,[],.Pass ⟨0,0,0,0⟩,[],λc=> .P .none::c,λ_ c=>c⟩
noncomputable def dE(ex:Expr)(ok:Fx->Bool)(c:List C8->List C8):D9:={D0 with k:= .e,ok:=ok,ex:=ex,c:=c}
noncomputable def dL(exs:List Expr)(ok:Fx->Bool)(c:List C8->List C8)(cv:BoolOp->List C8->List C8):D9:={D0 with k:= .l,ok:=ok,exs:=exs,c:=c,cv:=cv}
noncomputable def dB(ex:Expr)(ok:Fx->Bool)(c:List C8->List C8):D9:={D0 with k:= .b,ok:=ok,ex:=ex,c:=c}
noncomputable def dM(exs:List Expr)(ok:Fx->Bool)(cv:BoolOp->List C8->List C8):D9:={D0 with k:= .m,ok:=ok,exs:=exs,cv:=cv}
noncomputable def d1(st:Stmt)(ok:Fx->Bool)(c:List C8->List C8):D9:={D0 with k:= .s,ok:=ok,st:=st,c:=c}
noncomputable def dS1(sts:List Stmt)(ok:Fx->Bool)(c:List C8->List C8):D9:={D0 with k:= .r,ok:=ok,sts:=sts,c:=c}
noncomputable def okE(F:Fx)(D:D9):Bool:=match D.k with| .e=>D.ok F|_=>false
noncomputable def okO(F:Fx)(D:D9):Bool:=match D.k with| .e=>D.ok F| .o=>true|_=>false
noncomputable def exo(D:D9):Option Expr:=match D.k with| .e=>some D.ex|_=>none
noncomputable def okL(F:Fx)(D:D9):Bool:=match D.k with| .l=>D.ok F|_=>false
noncomputable def okB(F:Fx)(D:D9):Bool:=match D.k with| .b=>D.ok F|_=>false
noncomputable def okM(F:Fx)(D:D9):Bool:=match D.k with| .m=>D.ok F|_=>false
noncomputable def ok1(F:Fx)(D:D9):Bool:=match D.k with| .s=>D.ok F|_=>false
noncomputable def okS(F:Fx)(D:D9):Bool:=match D.k with| .r=>D.ok F|_=>false
noncomputable def isK(e:Expr)(n:Nat):Bool:=Nat.beq e.ctorIdx n
noncomputable def z3A(e:Expr):Bool:= !isK e 22
noncomputable def z5j(e:Expr):Bool:=isK e 23||(isK e 21||(isK e 16||(isK e 2||isK e 20)))
noncomputable def y30(e:Expr):Bool:=isK e 23
noncomputable def z8i(e:Expr):Bool:= !isK e 16
noncomputable def z4h(e:Expr):Bool:= !(isK e 8||(isK e 9||isK e 10))
noncomputable def y3i(e:Expr):Bool:= !isK e 25
noncomputable def y1n(e:Expr):Bool:= !(isK e 0||(isK e 1||(isK e 3||(isK e 5||isK e 15))))
noncomputable def conV:Const->Option V
 | .int k=>some (.int k)| .str k=>some (.str k)| .bool k=>some (.bool k)| .none=>some .none|_=>none
noncomputable def veq(X Y:V):Bool:=cond (Nat.beq (vK X).1 0) false (Nat.beq (vK X).1 (vK Y).1&&((vK X).2.1==(vK Y).2.1&&((vK X).2.2.1==(vK Y).2.2.1&&(vK X).2.2.2==(vK Y).2.2.2)))
noncomputable def okG(x:Str)(X:V):Option (Str×V)->Bool
 |some p=>(p.1==x)&&veq p.2 X
 |none=>false
noncomputable def isF(fns:List Nat)(X:V):Bool:=Nat.beq (vK X).1 5||(Nat.beq (vK X).1 6||(Nat.beq (vK X).1 7&&fns.contains (vK X).2.1.toNat))
noncomputable def y3Y(id:String)(n:Str)(o:Option (Str×V)):Bool:=okG n (.bi id) o
noncomputable def y0Z(id:String)(n:Str)(o:Option (Str×V)):Bool:=okG n (.type id) o
noncomputable def bms:List (String×Str×String):=[("list","append","list.append"),("list","pop","list.pop"),("list","clear","list.clear"),("list","insert","list.insert"),("dict","get","dict.get"),("dict","pop","dict.pop"),("dict","setdefault","dict.setdefault"),("dict","update","dict.update"),("dict","clear","dict.clear"),("str","join","str.join")]
def z2b(m:Loc)(i:Nat)(X:V)(k:Loc->Prop):Prop:=match Nat.blt i m.length with
 |true=>k (m.set i (some X))
 |false=>False
def st1(s:List V)(k:V->List V->Prop):Prop:=match s with
 |X::s=>k X s
 |[]=>False
def nlF(s:List V)(k:Prop):Prop:=match s with
 |[]=>k
 |_::_=>False
def tpF(X:V)(k:List V->Prop):Prop:=match X with
 | .tup xs=>k xs
 |_=>False
def y1z(X:V)(k:V->V->Prop):Prop:=tpF X λxs=>st1 xs λx xs=>st1 xs λy xs=>nlF xs (k x y)
def y5i(X:V)(k:V->V->V->Prop):Prop:=tpF X λxs=>st1 xs λx xs=>st1 xs λy xs=>st1 xs λz xs=>nlF xs (k x y z)
noncomputable def z11(R:Loc->Sto->Prop)(Q:FP):FP
 | .next,m,σ=>R m σ
 |f,m,σ=>Q f m σ
noncomputable def inf:C8->Nat×Nat×Nat×Nat×List C8×List C8×V
 | .L i=>(1,i,0,0,[],[],.none)| .P X=>(2,0,0,0,[],[],X)| .S k=>(3,k,0,0,[],[],.none)| .cm2 _ r=>(8,0,0,0,r,[],.none)| .Q t=>(9,t.no,0,0,[],[],.none)| .len=>(10,0,0,0,[],[],.none)| .raw e=>(29,e.pos.line,e.pos.col,e.pos.endCol,[],[],.none)
 | .Y ty=>(11,0,0,0,[],[],.bi ty)| .X _=>(13,0,0,0,[],[],.none)| .tcmp _=>(14,0,0,0,[],[],.none)| .tcm2 _ r=>(15,0,0,0,r,[],.none)| .asgL i=>(17,i,0,0,[],[],.none)| .asgD i=>(18,i,0,0,[],[],.none)| .asg2 i j=>(19,i,j,0,[],[],.none)
 | .forR i b=>(20,i,0,0,b,[],.none)| .forV i b=>(21,i,0,0,b,[],.none)| .forE i j b=>(22,i,j,0,b,[],.none)| .forL i b=>(23,i,0,0,b,[],.none)| .forL2 i j b=>(24,i,j,0,b,[],.none)| .forDS i b=>(25,i,0,0,b,[],.none)| .forDI i b=>(26,i,0,0,b,[],.none)
 | .drp=>(27,0,0,0,[],[],.none)| .cut a=>(28,0,0,0,a,[],.none)| .O _ r=>(0,0,0,0,r,[],.none)| .M _ r=>(0,0,0,0,r,[],.none)| .I a b=>(0,0,0,0,a,b,.none)| .A i=>(0,i,0,0,[],[],.none)| .att k _=>(0,k,0,0,[],[],.none)| .mI k _=>(0,k,0,0,[],[],.none)
 | .call G _=>(0,0,0,0,[],[],G)| .H G _=>(0,0,0,0,[],[],G)|_=>(0,0,0,0,[],[],.none)
noncomputable def exA(x:Str×Pos)(e:Expr)(l:List Expr):(Str×Pos)×Nat×List Expr×Nat×Pos×Expr×List Expr:=(x,0,[],0,⟨0,0,0,0⟩,e,l)
noncomputable def exB(e:Expr)(l:List Expr):(Str×Pos)×Nat×List Expr×Nat×Pos×Expr×List Expr:=exA ("",⟨0,0,0,0⟩) e l
noncomputable def eX(e:Expr):(Str×Pos)×Nat×List Expr×Nat×Pos×Expr×List Expr:=match e with
 | .Name x p=>exA (x,p) e []
 | .Constant _ k p=>(("",p),k,[],0,p,e,[])
 | .Subscript a b _=>exB e [a,b]
 | .BinOp a _ b _=>exB e [a,b]
 | .Compare a _ cs _=>exB e (a::cs)
 | .UnaryOp _ a _=>exB e [a]
 | .BoolOp _ es _=>exB e es
 | .Tuple es k p=>(("",p),0,es,k,p,.Slice none none none p,es)
 | .List _ _=>exB e []
 | .Dict _ _ _=>exB e []
 | .Slice _ _ _ _=>exB e []
 | .Attribute a x p=>exA (x,p) a []
 | .Call f es _ p=>(("",p),0,es,0,p,f,f::es)
 |_=>exB e []
noncomputable def nm(e:Expr):Str×Pos:=(eX e).1
noncomputable def lsE(e:Expr):List Expr×Nat×Pos×Expr×List Expr:=(eX e).2.2
noncomputable def cnK(e:Expr):Nat:=(eX e).2.1
noncomputable def y1j{α:Type}:Nat->List α->(α->Prop)->Prop
 |_,[],_=>False
 |0,x::_,K=>K x
 |n+1,_::l,K=>y1j n l K
noncomputable def exK:List Nat->Expr->(Expr->Prop)->Prop
 |[],e,K=>K e
 |i::r,e,K=>y1j i (lsE e).2.2.2.2 λe=>exK r e K
noncomputable def stA(s:Stmt):Option Expr×List (List Stmt):=match s with
 | .Assign _ e _=>(some e,[])
 | .Return o _=>(o,[])
 | .Expr e _=>(some e,[])
 | .If c a b _=>(some c,[a,b])
 | .For _ it b _ _=>(some it,[b])
 | .While _ b _ _=>(none,[b])
 |_=>(none,[])
def exS(s:Stmt)(K:Expr->Prop):Prop:=match(stA s).1 with
 |some e=>K e
 |none=>False
noncomputable def stK:List Nat->List Stmt->(Stmt->Prop)->Prop
 |i::j::r,ss,K=>y1j i ss λs=>y1j j (stA s).2 λss=>stK r ss K
 |i::[],ss,K=>y1j i ss K
 |[],_,_=>False
noncomputable def allK:List (List Nat×Option (List Nat))->List Stmt->(List (Stmt ⊕ Expr)->Prop)->Prop
 |[],_,K=>K []
 |p::ps,ss,K=>stK p.1 ss λs=>match p.2 with
  |none=>allK ps ss λl=>K (.inl s::l)
  |some q=>exS s λe=>exK q e λe=>allK ps ss λl=>K (.inr e::l)
structure TC where
 k:List C8
 r:List (Stmt ⊕ Expr):=[]
 p:List (List Nat×Option (List Nat)):=[]
def st2(s:List V)(k:V->V->List V->Prop):Prop:=st1 s λY s=>st1 s λX s=>k X Y s
def stB(s:List V)(k:Bool->List V->Prop):Prop:=st1 s λX s=>match X with
 | .bool b=>k b s
 |_=>False
noncomputable def stN:Nat->List V->List V->(List V->List V->Prop)->Prop
 |0,s,acc,k=>k acc s
 |n+1,s,acc,k=>st1 s λX s=>stN n s (X::acc) k
section
variable (F:Fx)
abbrev Fx.at(t:Sem Value)(m:Loc)(σ:Sto)(Q:VP):Prop:=AT F.C F.env F.vars F.gl F.own F.d t m σ Q
def y39(o:Option (Option V))(Q:V->Prop):Prop:=match o with
 |some (some X)=>Q X
 |_=>False
def y2P(X:V)(k:List V->Prop)(L:Prop):Prop:=match X with
 | .tup xs=>k xs
 |_=>B2 L
def oI(o:BoolOp)(b:Bool)(x y:Prop):Prop:=match o with
 | .And=>cIf b x y
 | .Or=>cIf b y x
noncomputable def boV(o:BoolOp):V:=match o with
 | .And=> .bool false
 | .Or=> .bool true
def tvW(X:V)(k:Bool->Prop)(L:Prop):Prop:=match X with
 | .bool b=>k b
 |_=>B2 L
inductive LoopL(X:V)(m:Loc)(σ:Sto)(Q:FP)(B:V->(FP)->Loc->Sto->Prop)(R:Loc->Sto->Prop):Prop
 |mk (xs:List V) (P:Sto->Prop) (I:Nat->Loc->Sto->Prop):A8 σ X (.list xs) P->I 0 m σ->(∀(i:Nat) Y,xs[i]? =some Y->∀m σ,I i m σ->∀QB:FP,(∀m σ,P σ->I (i+1) m σ->QB .next m σ)->(∀Z m σ,Q (.ret Z) m σ->QB (.ret Z) m σ)->B Y QB m σ)->(∀m σ,I xs.length m σ->R m σ)->LoopL X m σ Q B R
inductive LoopG(g:List V->List V)(X:V)(m:Loc)(σ:Sto)(Q:FP)(B:V->(FP)->Loc->Sto->Prop)(R:Loc->Sto->Prop):Prop
 |mk (xs:List V) (P:Sto->Prop) (I:Nat->Loc->Sto->Prop):A8 σ X (.list xs) P->I 0 m σ->(∀(i:Nat) Y,(g xs)[i]? =some Y->∀m σ,I i m σ->∀QB:FP,(∀m σ,P σ->I (i+1) m σ->QB .next m σ)->(∀Z m σ,Q (.ret Z) m σ->QB (.ret Z) m σ)->B Y QB m σ)->(∀m σ,I (g xs).length m σ->R m σ)->LoopG g X m σ Q B R
inductive LoopR(X:V)(m:Loc)(σ:Sto)(Q:FP)(B:V->(FP)->Loc->Sto->Prop)(R:Loc->Sto->Prop):Prop
 |mk (n:Nat) (I:Nat->Loc->Sto->Prop):X= .int (n:Int)->n<=1000->I 0 m σ->(∀i:Nat,i<n->∀m σ,I i m σ->∀QB:FP,(∀m σ,I (i+1) m σ->QB .next m σ)->(∀Z m σ,Q (.ret Z) m σ->QB (.ret Z) m σ)->B (.int (i:Int)) QB m σ)->(∀m σ,I n m σ->R m σ)->LoopR X m σ Q B R
inductive LoopD{C:Cx}{K:Type}[DecidableEq K](kk:KK C.prog C.w K)(X:V)(m:Loc)(σ:Sto)(Q:FP)(B:V->(FP)->Loc->Sto->Prop)(R:Loc->Sto->Prop):Prop
 |mk (a:Addr) (o:Obj) (kvs:List (K×V)) (I:Nat->Loc->Sto->Prop):X= .ref a->z0J C->(a,o,AO.dict (z02 kk kvs))∈σ->(kvs.map (·.1)).Nodup->I 0 m σ->(∀(i:Nat) (p:K×V),kvs[i]? =some p->∀m σ,I i m σ->∀QB:FP,(∀m σ,(a,o,AO.dict (z02 kk kvs))∈σ->I (i+1) m σ->QB .next m σ)->(∀Z m σ,Q (.ret Z) m σ->QB (.ret Z) m σ)->B (kk.v p.1) QB m σ)->(∀m σ,I kvs.length m σ->R m σ)->LoopD kk X m σ Q B R
abbrev WT:=List C8->List (List C8)->Loc->List V->Sto->Prop
def stp(w:(FP)->WT)(Q:FP)(i:C8)(c:List C8)(r:List (List C8))(m:Loc)(s:List V)(σ:Sto):Prop:=match i with
 | .L i=>y39 m[i]? λX=>w Q c r m (X::s) σ
 | .len=>st1 s λX s=>y2P X (λxs=>cIf (Nat.ble xs.length 1000) (w Q c r m (.int (xs.length:Int)::s) σ) (B2 (KW F.C F.d (.bi "len") [X] σ λY σ=>w Q c r m (Y::s) σ))) (KW F.C F.d (.bi "len") [X] σ λY σ=>w Q c r m (Y::s) σ)
 | .P X=>w Q c r m (X::s) σ
 | .raw e=>B2 (F.at (eval e F.env) m σ λX σ=>w Q c r m (X::s) σ)
 | .sub=>st2 s λX I s=>B2 (C2 F.C F.d X I σ λY σ=>w Q c r m (Y::s) σ)
 | .S k=>st1 s λX s=>cQ (y1A X k) σ (λY σ=>w Q c r m (Y::s) σ) (C2 F.C F.d X (.int (k:Int)) σ λY σ=>w Q c r m (Y::s) σ)
 | .B o=>st2 s λX Y s=>cQ (y14 o X Y) σ (λZ σ=>w Q c r m (Z::s) σ) (AC2 F.C F.d (binaryOp o) X Y σ λZ σ=>w Q c r m (Z::s) σ)
 | .G o=>st2 s λX Y s=>cQ (y0I o X Y) σ (λZ σ=>w Q c r m (Z::s) σ) (AC2 F.C F.d (compareOp o) X Y σ λZ σ=>w Q c r m (Z::s) σ)
 | .cm2 o e=>st2 s λX Y s=>cB (y0I o X Y) σ (λb σ=>cIf b (w Q e (c::r) m (Y::s) σ) (w Q c r m (.bool false::s) σ)) (AC2 F.C F.d (compareOp o) X Y σ λZ σ=>∃b,TR F.C F.d Z σ b/\(b=false->w Q c r m (Z::s) σ)/\(b=true->w Q e (c::r) m (Y::s) σ))
 | .una o=>st1 s λX s=>B2 (AC1 F.C F.d (unaryOp o) X σ λZ σ=>w Q c r m (Z::s) σ)
 | .O o e=>st1 s λX s=>tvW X (λb=>oI o b (w Q e (c::r) m s σ) (w Q c r m (X::s) σ)) (∃b,TR F.C F.d X σ b/\oI o b (w Q e (c::r) m s σ) (w Q c r m (X::s) σ))
 | .tup n=>stN n s [] λXs s=>w Q c r m (.tup Xs::s) σ
 | .lst n=>stN n s [] λXs s=>w Q c r m (.lst Xs::s) σ
 | .call G n=>stN n s [] λXs s=>B2 (KW F.C F.d G Xs σ λY σ=>w Q c r m (Y::s) σ)
 | .Q t=>st1 s λX s=>cQ ((y2l X t).map .bool) σ (λY σ=>w Q c r m (Y::s) σ) (KW F.C F.d (.bi "isinstance") [X,.type t.n] σ λY σ=>w Q c r m (Y::s) σ)
 | .Y ty=>st1 s λX s=>B2 (TyR F.C X σ ty/\w Q c r m (X::s) σ)
 | .H G n=>stN n s [] λXs s=>st1 s λX s=>B2 (KW F.C F.d G (X::Xs) σ λY σ=>w Q c r m (Y::s) σ)
 | .mI k nm=>st1 s λX s=>B2 (z4p k nm X σ λx=>w Q c r m (.ref x::s) σ)
 | .slc=>st2 s λY Z s=>st1 s λX s=>w Q c r m (.slc X Y Z::s) σ
 | .tcmp o=>st2 s λX Y s=>B2 (AC2 F.C F.d (compareOp o) X Y σ λZ σ=>TRX F.C F.d Z σ λb σ=>w Q c r m (.bool b::s) σ)
 | .K o=>st2 s λX Y s=>cB (y0I o X Y) σ (λb σ=>w Q c r m (.bool b::s) σ) (AC2 F.C F.d (compareOp o) X Y σ λZ σ=>TRX F.C F.d Z σ λb σ=>w Q c r m (.bool b::s) σ)
 | .tcm2 o e=>st2 s λX Y s=>cB (y0I o X Y) σ (λb σ=>cIf b (w Q e (c::r) m (Y::s) σ) (w Q c r m (.bool false::s) σ)) (AC2 F.C F.d (compareOp o) X Y σ λZ σ=>∃b,TR F.C F.d Z σ b/\(b=false->w Q c r m (.bool false::s) σ)/\(b=true->w Q e (c::r) m (Y::s) σ))
 | .V=>st1 s λX s=>tvW X (λb=>w Q c r m (.bool b::s) σ) (TRX F.C F.d X σ λb σ=>w Q c r m (.bool b::s) σ)
 | .not=>stB s λb s=>w Q c r m (.bool (!b)::s) σ
 | .M o e=>stB s λb s=>oI o b (w Q e (c::r) m s σ) (w Q c r m (boV o::s) σ)
 | .I a b=>stB s λv s=>cIf v (w Q a (c::r) m s σ) (w Q b (c::r) m s σ)
 | .A i=>st1 s λX s=>z2b m i X λm=>w Q c r m s σ
 | .asgL i=>∀a o,A4 σ a->z2b m i (.ref a) λm=>w Q c r m s ((a,o,.list [])::σ)
 | .asgD i=>∀a o,A4 σ a->z2b m i (.ref a) λm=>w Q c r m s ((a,o,.dict [])::σ)
 | .asg2 i j=>st1 s λX s=>y1z X λx y=>z2b m i x λm=>z2b m j y λm=>w Q c r m s σ
 | .ret=>st1 s λX _=>Q (.ret X) m σ
 | .pop=>st1 s λ_ s=>w Q c r m s σ
 | .att k nm=>st1 s λX s=>B2 (z5M k nm X σ λY=>w Q c r m (Y::s) σ)
 | .dic=>∀a o,A4 σ a->w Q c r m (.ref a::s) ((a,o,.dict [])::σ)
 | .setI=>st2 s λO I s=>st1 s λX s=>B2 (SetR F.C F.d O I X σ λσ=>w Q c r m s σ)
 | .drp=>B2 (∃τ,τ.Sublist σ/\w Q c r m s τ)
 | .X t=>B2 (AS F.C F.env F.vars F.gl F.own F.d (exec t F.env) m σ (z11 (λm σ=>w Q c r m s σ) Q))
 | .forR i b=>st1 s λX s=>B2 (LoopR X m σ Q (λY QB m σ=>z2b m i Y λm=>w QB b [] m [] σ) λm σ=>w Q c r m s σ)
 | .forDS i b=>st1 s λX s=>B2 (LoopD (KK.str F.C.prog F.C.w) X m σ Q (λY QB m σ=>z2b m i Y λm=>w QB b [] m [] σ) λm σ=>w Q c r m s σ)
 | .forDI i b=>st1 s λX s=>B2 (LoopD (KK.int F.C.prog F.C.w) X m σ Q (λY QB m σ=>z2b m i Y λm=>w QB b [] m [] σ) λm σ=>w Q c r m s σ)
 | .forV i b=>st1 s λX s=>B2 (LoopG List.reverse X m σ Q (λY QB m σ=>z2b m i Y λm=>w QB b [] m [] σ) λm σ=>w Q c r m s σ)
 | .forE i j b=>st1 s λX s=>B2 (LoopG z3L X m σ Q (λY QB m σ=>y1z Y λy z=>z2b m i y λm=>z2b m j z λm=>w QB b [] m [] σ) λm σ=>w Q c r m s σ)
 | .forL i b=>st1 s λX s=>B2 (LoopL X m σ Q (λY QB m σ=>z2b m i Y λm=>w QB b [] m [] σ) λm σ=>w Q c r m s σ)
 | .forL2 i j b=>st1 s λX s=>B2 (LoopL X m σ Q (λY QB m σ=>y1z Y λy z=>z2b m i y λm=>z2b m j z λm=>w QB b [] m [] σ) λm σ=>w Q c r m s σ)
 | .cut a=>B2 (∃I:Loc->Sto->Prop,(∀K:FP,(∀m σ,I m σ->K .next m σ)->(∀f m σ,(f= .next->False)->Q f m σ->K f m σ)->w K a [] m s σ)/\∀m σ,I m σ->w Q c r m s σ)
noncomputable def W:Nat->(FP)->WT
 |0,_,_,_,_,_,_=>False
 |n+1,Q,c,r,m,s,σ=>match c with
  |[]=>match r with
   |[]=>Q .next m σ
   |c::r=>W n Q c r m s σ
  |i::c=>stp F (W n) Q i c r m s σ
end
section
variable {C:Cx} {η:Env} {ν:List Str} {gl:LV} {own:Bool} {d:Nat}
theorem AC2.mono{f:Value->Value->Sem Value}{x y:V}{σ:Sto}{Q Q':VP}(h:AC2 C d f x y σ Q)(hQ:∀z σ',Q z σ'->Q' z σ'):AC2 C d f x y σ Q':=λA G D s v u hA R hv hu=>
 By (h A G D s v u hA R hv hu) (λ_ _ hp=>by obtain⟨z,D',σ',a,b,c,e⟩:=hp;exact⟨z,D',σ',a,b,c,hQ _ _ e⟩) λ_ _ e=>e
theorem AL.mono{t:Sem (List Value)}{m:Loc}{σ:Sto}{Q Q':List V->Sto->Prop}(h:AL C η ν gl own d t m σ Q)(hQ:∀xs σ',Q xs σ'->Q' xs σ'):AL C η ν gl own d t m σ Q':=λA G D s hA R=>
 By (h A G D s hA R) (λ_ _ hp=>by obtain⟨xs,D',σ',a,b,c,e⟩:=hp;exact⟨xs,D',σ',a,b,c,hQ _ _ e⟩) λ_ _ e=>e
theorem AB.mono{t:Sem Bool}{m:Loc}{σ:Sto}{P P':Bool->Sto->Prop}(h:AB C η ν gl own d t m σ P)(hP:∀b σ,P b σ->P' b σ):AB C η ν gl own d t m σ P':=
 λA G D s hA R=>h.run hA R λb s' D' σ' a c e=>⟨D',σ',a,c,hP _ _ e⟩
theorem y4Q{x:Str}{X:V}:∀{ν:List Str} {m:Loc} {i:Nat},ν[i]? =some x->m[i]? =some (some X)->Lk ν m x X:=λ{ν}=>by
 induction ν with
 |nil=>intro m i h k;cases h
 |cons a vs ih=>
  intro m i h k
  cases m with
  |nil=>cases k
  |cons b m=>
   cases i with
   |zero=>cases Bs h;cases Bs k;exact .head
   |succ i=>exact .tail (ih h k)
theorem y2E{x:Str}{X:V}:∀{ν:List Str} {m:Loc} {i:Nat},ν[i]? =some x->i<m.length->F4 ν m x X (m.set i (some X)):=λ{ν}=>by
 induction ν with
 |nil=>intro m i h;cases h
 |cons a vs ih=>
  intro m i h w
  cases m with
  |nil=>cases w
  |cons b m=>
   cases i with
   |zero=>cases Bs h;exact .head
   |succ i=>exact .tail (ih h (Nat.lt_of_succ_lt_succ w))
set_option tactic.hygienic true in
theorem z2D{x:Str}{X:V}{ν:List Str}{m:Loc}{i:Nat}{k:Loc->Prop}(h:ν[i]? =some x)(w:z2b m i X k):∃m',F4 ν m x X m'/\k m':=by
 unfold z2b at w
 split at w
 ·rename_i hb;exact⟨_,y2E h (Nat.blt_eq.mp hb),w⟩
 ·exact w.elim
theorem z1b{e:Expr}{rest:List Expr}(h:z3A e=true):starEach (e::rest) η=(false,eval e η)::starEach rest η:=by
 cases e<;>first|rfl|exact ff h
theorem z8Q{o:Expr}{name:Str}(h:z8i o=true):attributeBase o name η (eval o η)=eval o η:=by
 cases o<;>first|rfl|exact ff h
theorem y13{o:Expr}{name:Str}(h:y30 o=true):attributeBase o name η (eval o η)=eval o η:=
 Expr.Name.elim (motive_1:=λo=>attributeBase o name η (eval o η)=eval o η) o (Nat.eq_of_beq_eq_true h) λ_ _=>rfl
theorem y2N{o:Expr}(h:y30 o=true):∀u r,letTemporaryGo o u r=pure ():=
 Expr.Name.elim (motive_1:=λo=>∀u r,letTemporaryGo o u r=pure ()) o (Nat.eq_of_beq_eq_true h) λ_ _ _ _=>by with_unfolding_all exact rfl
theorem z4U{e:Expr}{t:Option Expr}{k:Nat}(h:z4h e=true):swapsWith e t k η=pure false:=by
 cases e<;>first|rfl|exact ff h
theorem z9L{e:Expr}{ts:List Expr}{k:Nat}{p:Pos}(h:y3i e=true):swappedStores [.Tuple ts k p] e η=pure none:=by
 cases e<;>first|rfl|exact ff h
theorem z9F{e:Expr}(h:y1n e=true):∀whole,isTrue e η whole=(do let v <-whole;standAt e.pos;holding [v] (truthy v)):=by
 cases e<;>first|(intro;rfl)|exact ff h
theorem y2v{ty id:String}{name:Str}(h:bms.contains (ty,name,id)=true):B9 ty name id:=by
 have h:=List.contains_iff_mem.mp h
 simp only[bms,Ae,Prod.mk.injEq,Av,or_false] at h
 rcases h with⟨rfl,rfl,rfl⟩|⟨rfl,rfl,rfl⟩|⟨rfl,rfl,rfl⟩|⟨rfl,rfl,rfl⟩|⟨rfl,rfl,rfl⟩|⟨rfl,rfl,rfl⟩|⟨rfl,rfl,rfl⟩|⟨rfl,rfl,rfl⟩|⟨rfl,rfl,rfl⟩|⟨rfl,rfl,rfl⟩
 ·exact M_append
 ·exact M_lpop
 ·exact M_lclear
 ·exact M_insert
 ·exact M_get
 ·exact M_pop
 ·exact M_setdefault
 ·exact M_update
 ·exact M_clear
 ·exact M_join
theorem z0a{a b:Bool}(h:(a&&b)=true):a=true/\b=true:=by rw[AC] at h;exact h
noncomputable def vI(p:Nat×Int×Str×String):V:=cond (Nat.beq p.1 1) (.int p.2.1) (cond (Nat.beq p.1 2) (.str p.2.2.1) (cond (Nat.beq p.1 5) (.bi p.2.2.2) (cond (Nat.beq p.1 6) (.type p.2.2.2) (.ref p.2.1.toNat))))
theorem y43{X:V}(h:Nat.beq (vK X).1 0=false):vI (vK X)=X:=by cases X<;>first|rfl|exact tf h
theorem y4r{X Y:V}(h:veq X Y=true):X=Y:=by
 unfold veq at h
 cases e:Nat.beq (vK X).1 0 with
 |true=>rw[e] at h;exact ff h
 |false=>
  rw[e] at h
  have h:=z0a h
  have h3:=z0a h.2
  have h4:=z0a h3.2
  have k:vK X=vK Y:=Prod.ext (Nat.eq_of_beq_eq_true h.1) (Prod.ext (BF h3.1) (Prod.ext (BF h4.1) (BF h4.2)))
  rw[<-y43 e,k,y43 (k▸e)]
set_option tactic.hygienic true in
theorem z4Q{x:Str}{X:V}{o:Option (Str×V)}(h:okG x X o=true):o=some (x,X):=by
 unfold okG at h
 split at h
 ·rename_i p
  rw[AC] at h
  rw[<-BF h.1,<-y4r h.2]
 ·cases h
theorem z7i{id:String}{n:Str}{o:Option (Str×V)}(h:y3Y id n o=true):o=some (n,.bi id):=z4Q h
theorem z3N{id:String}{n:Str}{o:Option (Str×V)}(h:y0Z id n o=true):o=some (n,.type id):=z4Q h
theorem y2i{fns:List Nat}(hf:∀a∈fns,z1g C (.ref a)){G:V}(h:isF fns G=true):z1g C G:=by
 cases G<;>first|exact trivial|exact hf _ (List.contains_iff_mem.mp h)|exact ff h
theorem y4X{s:List V}{k:V->List V->Prop}(h:st1 s k):∃x l,s=x::l/\k x l:=by
 cases s with
 |nil=>exact h.elim
 |cons x l=>exact⟨x,l,rfl,h⟩
theorem nlE{s:List V}{k:Prop}(h:nlF s k):s=[]/\k:=by
 cases s with
 |nil=>exact⟨rfl,h⟩
 |cons x l=>exact h.elim
theorem tpE{X:V}{k:List V->Prop}(h:tpF X k):∃xs,X= .tup xs/\k xs:=by
 unfold tpF at h;split at h
 ·exact⟨_,rfl,h⟩
 ·exact h.elim
theorem z7I{X:V}{k:V->V->Prop}(h:y1z X k):∃x y,X= .tup [x,y]/\k x y:=by
 obtain⟨xs,rfl,h⟩:=tpE h
 obtain⟨x,xs,rfl,h⟩:=y4X h
 obtain⟨y,xs,rfl,h⟩:=y4X h
 obtain⟨rfl,h⟩:=nlE h
 exact⟨x,y,rfl,h⟩
theorem z5a{ss:List Stmt}{R R':Loc->Sto->Prop}{Q:FP}(h:∀m σ,R m σ->AS C η ν gl own d (execs ss η) m σ (z11 R' Q)):∀f m σ,z11 R Q f m σ->y4I C η ν gl own d ss (z11 R' Q) f m σ
 | .next,m,σ,q=>h m σ q
 | .brk,m,σ,q=>q
 | .cont,m,σ,q=>q
 | .ret _,m,σ,q=>q
theorem orE{a b:Bool}{P:Prop}(h:(a||b)=true)(f:a=true->P)(g:b=true->P):P:=by
 cases a with
 |true=>exact f rfl
 |false=>exact g h
theorem z4T{e:Expr}(h:z5j e=true):∀x,foldedSetIterable e η x=pure x:=
 let M:=λe:Expr=>∀x,foldedSetIterable e η x=pure x
 orE h (λh=>Expr.Name.elim (motive_1:=M) e (Nat.eq_of_beq_eq_true h) λ_ _ _=>by with_unfolding_all exact rfl) λh=>
 orE h (λh=>Expr.Subscript.elim (motive_1:=M) e (Nat.eq_of_beq_eq_true h) λ_ _ _ _=>by with_unfolding_all exact rfl) λh=>
 orE h (λh=>Expr.Call.elim (motive_1:=M) e (Nat.eq_of_beq_eq_true h) λ_ _ _ _ _=>by with_unfolding_all exact rfl) λh=>
 orE h (λh=>Expr.BinOp.elim (motive_1:=M) e (Nat.eq_of_beq_eq_true h) λ_ _ _ _ _=>by with_unfolding_all exact rfl) λh=>Expr.Attribute.elim (motive_1:=M) e (Nat.eq_of_beq_eq_true h) λ_ _ _ _=>by with_unfolding_all exact rfl
theorem y1x{e t:Expr}{k:Nat}(h:z4h e=true):swapsWithSole [t] e k η=pure false:=by
 show swapsWith e (some t) k η=pure false
 exact z4U h
theorem y0S{es:List Expr}{p:Pos}(h1:(backTo p (starEach es η)).any (·.1)=false)(hl:Nat.blt es.length 30=true):
  ((backTo p (starEach es η)).all (λx=> !x.1)&&(backToKw p (keywordEach [] η)).all (λx=>x.1.isSome)&&decide (es.length+([]:List Keyword).length+(if([]:List Keyword).isEmpty then 0 else 1)<30))=true:=by
 have h2:(backTo p (starEach es η)).all (λx=> !x.1)=true:=by rw[<-List.not_any_eq_all_not,h1];rfl
 rw[h2]
 exact AE (Nat.blt_eq.mp hl)
end
section
variable {C:Cx} {d:Nat} {σ:Sto} {Q Q':VP}
theorem AC1.mono{f:Value->Sem Value}{x:V}(h:AC1 C d f x σ Q)(hQ:∀z σ',Q z σ'->Q' z σ'):AC1 C d f x σ Q':=λA G D s v hA R hv=>
 By (h A G D s v hA R hv) (λ_ _ hp=>by obtain⟨z,D',σ',a,b,c,e⟩:=hp;exact⟨z,D',σ',a,b,c,hQ _ _ e⟩) λ_ _ e=>e
theorem C2.mono{x i:V}(h:C2 C d x i σ Q)(hQ:∀z σ',Q z σ'->Q' z σ'):C2 C d x i σ Q':=λA G D s o v hA R ho hv=>by
 obtain⟨T,id,a,b,c⟩:=h A G D s o v hA R ho hv
 exact⟨T,id,a,b,By c (λ_ _ hp=>by obtain⟨z,D',σ',a,b,c,e⟩:=hp;exact⟨z,D',σ',a,b,c,hQ _ _ e⟩) λ_ _ e=>e⟩
theorem SetR.mono{x i v:V}{P P':Sto->Prop}(h:SetR C d x i v σ P)(hP:∀σ',P σ'->P' σ'):SetR C d x i v σ P':=λA G D s o k u hA R ho hk hu=>
 By (h A G D s o k u hA R ho hk hu) (λ_ _ hp=>by obtain⟨D',σ',a,b,e⟩:=hp;exact⟨D',σ',a,b,hP _ e⟩) λ_ _ e=>e
theorem y0F{o:Option V}{L L':Prop}(w:cQ o σ Q L)(h:∀Z,o=some Z->Q Z σ->L')(k:L->L'):L':=by
 cases o with
 |none=>exact k w.out
 |some Z=>exact h Z rfl w
theorem y16{o:Option V}{P:Bool->Sto->Prop}{L L':Prop}(w:cB o σ P L)(h:∀b,o=some (.bool b)->P b σ->L')(k:L->L'):L':=by
 unfold cB at w
 split at w
 ·exact h _ rfl w
 ·exact k w.out
theorem y1C{X:V}{k:Bool->Prop}{L L':Prop}(w:tvW X k L)(h:∀b,X= .bool b->k b->L')(g:L->L'):L':=by
 unfold tvW at w
 split at w
 ·exact h _ rfl w
 ·exact g w.out
theorem y4a{o:Option (Option V)}{k:V->Prop}{L:Prop}(w:y39 o k)(h:∀X,o=some (some X)->k X->L):L:=by
 unfold y39 at w
 split at w
 ·exact h _ rfl w
 ·exact w.elim
theorem y4p{X:V}{k:List V->Prop}{L L':Prop}(w:y2P X k L)(h:∀xs,X= .tup xs->k xs->L')(g:L->L'):L':=by
 unfold y2P at w
 split at w
 ·exact h _ rfl w
 ·exact g w.out
theorem y23{x:V}{xs:List V}{P:Sto->Prop}{k:List V->Prop}(h:A8 σ x (.list xs) P)(hl:xs.length<=sizeLine)(q:Q (.int (xs.length:Int)) σ):y2P x k (KW C d (.bi "len") [x] σ Q):=by
 cases h with
 |lst=>exact⟨z6k (.lst _) hl q⟩
 |refL h=>exact⟨z6k (.refL h) hl q⟩
theorem y4Y{s:List V}{k:V->List V->Prop}{X:V}(h:st1 (X::s) k):k X s:=h
theorem y2L{k:List V->List V->Prop}{s:List V}:∀{ys acc:List V},stN ys.length (ys++s) acc k->k (ys.reverse++acc) s:=λ{ys}=>by
 induction ys with
 |nil=>intro acc h;exact h
 |cons y ys ih=>
  intro acc h
  rw[List.reverse_cons,Ao]
  exact ih h
theorem z6K{k:List V->List V->Prop}{s xs:List V}{n:Nat}(hn:xs.length=n)(h:stN n (xs.reverse++s) [] k):k xs s:=by
 subst hn
 rw[<-List.length_reverse] at h
 have:=y2L h
 rwa [List.reverse_reverse,Az] at this
end
section
variable {F:Fx}
def WE(F:Fx)(Q:FP)(c:List C8)(r:List (List C8))(m:Loc)(s:List V)(σ:Sto):Prop:=∃n,W F n Q c r m s σ
variable {Q:FP} {i:C8} {c:List C8} {r:List (List C8)} {m:Loc} {s:List V} {σ:Sto}
theorem WE.step(h:WE F Q (i::c) r m s σ):∃n,stp F (W F n) Q i c r m s σ:=by
 obtain⟨n,h⟩:=h
 cases n with
 |zero=>exact h.elim
 |succ n=>exact⟨n,h⟩
theorem WE.end(h:WE F Q [] (c::r) m s σ):WE F Q c r m s σ:=by
 obtain⟨n,h⟩:=h
 cases n with
 |zero=>exact h.elim
 |succ n=>exact⟨n,h⟩
theorem WE.fin(h:WE F Q [] [] m s σ):Q .next m σ:=by
 obtain⟨n,h⟩:=h
 cases n with
 |zero=>exact h.elim
 |succ n=>exact h
def PE(F:Fx)(D:D9):Prop:=∀Q c r m s σ,WE F Q (D.c c) r m s σ->F.at (eval D.ex F.env) m σ λX σ=>WE F Q c r m (X::s) σ
structure PL(F:Fx)(D:D9):Prop where
 l:∀p Q c r m s σ,WE F Q (D.c c) r m s σ->AL F.C F.env F.vars F.gl F.own F.d (spliced (backTo p (starEach D.exs F.env))) m σ λXs σ=>Xs.length=D.exs.length/\WE F Q c r m (Xs.reverse++s) σ
 v:D.exs≠[]->∀o p Q c r m s σ,WE F Q (D.cv o c) r m s σ->F.at (boolOp p o (evalEach D.exs F.env)) m σ λX σ=>WE F Q c r m (X::s) σ
 n:D.exs=[]->∀c,D.c c=c
 p:∀p,(backTo p (starEach D.exs F.env)).any (·.1)=false
 s:∀e r,D.exs=e::r->starEach (e::r) F.env=(false,eval e F.env)::starEach r F.env/\∀p,(backTo p (starEach r F.env)).any (·.1)=false
def PB(F:Fx)(D:D9):Prop:=∀Q c r m s σ,WE F Q (D.c c) r m s σ->AB F.C F.env F.vars F.gl F.own F.d (isTrue D.ex F.env (eval D.ex F.env)) m σ λb σ=>WE F Q c r m (.bool b::s) σ
def PM(F:Fx)(D:D9):Prop:=∀o Q c r m s σ,WE F Q (D.cv o c) r m s σ->AB F.C F.env F.vars F.gl F.own F.d (allTrue o D.exs F.env) m σ λb σ=>WE F Q c r m (.bool b::s) σ
def P1(F:Fx)(D:D9):Prop:=F.own=true->∀Q c r m s σ,WE F Q (D.c c) r m s σ->AS F.C F.env F.vars F.gl F.own F.d (exec D.st F.env) m σ (z11 (λm σ=>WE F Q c r m s σ) Q)
def PS(F:Fx)(D:D9):Prop:=F.own=true->∀Q c r m s σ,WE F Q (D.c c) r m s σ->AS F.C F.env F.vars F.gl F.own F.d (execs D.sts F.env) m σ (z11 (λm σ=>WE F Q c r m s σ) Q)
def z3v(F:Fx)(D:D9):Prop:=match D.k with
 | .e=>D.ok F=true->PE F D
 | .o=>∀c,D.c c= .P .none::c
 | .l=>D.ok F=true->PL F D
 | .b=>D.ok F=true->PB F D
 | .m=>D.ok F=true->PM F D
 | .s=>D.ok F=true->P1 F D
 | .r=>D.ok F=true->PS F D
theorem gE{D:D9}(h:z3v F D)(k:okE F D=true):PE F D:=by
 unfold okE at k;unfold z3v at h;cases e:D.k<;>rw[e] at k h<;>first|exact h k|exact ff k
theorem gL{D:D9}(h:z3v F D)(k:okL F D=true):PL F D:=by
 unfold okL at k;unfold z3v at h;cases e:D.k<;>rw[e] at k h<;>first|exact h k|exact ff k
theorem gB{D:D9}(h:z3v F D)(k:okB F D=true):PB F D:=by
 unfold okB at k;unfold z3v at h;cases e:D.k<;>rw[e] at k h<;>first|exact h k|exact ff k
theorem gM{D:D9}(h:z3v F D)(k:okM F D=true):PM F D:=by
 unfold okM at k;unfold z3v at h;cases e:D.k<;>rw[e] at k h<;>first|exact h k|exact ff k
theorem g1{D:D9}(h:z3v F D)(k:ok1 F D=true):P1 F D:=by
 unfold ok1 at k;unfold z3v at h;cases e:D.k<;>rw[e] at k h<;>first|exact h k|exact ff k
theorem gS{D:D9}(h:z3v F D)(k:okS F D=true):PS F D:=by
 unfold okS at k;unfold z3v at h;cases e:D.k<;>rw[e] at k h<;>first|exact h k|exact ff k
theorem gO{D:D9}(h:z3v F D)(k:okO F D=true){Q':VP}(w:WE F Q (D.c c) r m s σ)(hQ:∀X σ,WE F Q c r m (X::s) σ->Q' X σ):APart F.C F.env F.vars F.gl F.own F.d (exo D) m σ Q':=by
 unfold okO at k;unfold z3v at h;unfold exo
 cases e:D.k<;>rw[e] at k h<;>first|exact ff k|skip
 ·exact z1v ((h k _ _ _ _ _ _ w).mono hQ)
 ·rw[h] at w
  obtain⟨n,w⟩:=w.step
  exact z1u (hQ _ _ ⟨n,w⟩)
theorem z6r{R R':Loc->Sto->Prop}(h:∀m σ,R m σ->R' m σ):∀f m σ,z11 R Q f m σ->z11 R' Q f m σ
 | .next,m,σ,q=>h m σ q
 | .brk,m,σ,q=>q
 | .cont,m,σ,q=>q
 | .ret _,m,σ,q=>q
theorem z9C{b:Bool}{x y:Prop}(w:oI .And b x y):(b=true->x)/\(b=false->y):=z4r w
theorem z9D{b:Bool}{x y:Prop}(w:oI .Or b x y):(b=true->y)/\(b=false->x):=z4r w
theorem z29{a b:D9}{i:C8}{P:V->VP}(ha:PE F a)(hb:PE F b)(w:WE F Q (a.c (b.c (i::c))) r m s σ)(h:∀n X Y σ,stp F (W F n) Q i c r m (Y::X::s) σ->P X Y σ):F.at (eval a.ex F.env) m σ λX σ=>F.at (eval b.ex F.env) m σ λY σ=>P X Y σ:=
 (ha _ _ _ _ _ _ w).mono λX σ₁ w=>(hb _ _ _ _ _ _ w).mono λY σ₂ w=>by obtain⟨n,w⟩:=w.step;exact h n X Y σ₂ w
theorem z6o{C:Cx}{η:Env}{ν:List Str}{gl:LV}{own:Bool}{d:Nat}{tgt:Expr}{body:List Stmt}{P:Sto->Prop}{QS:FP}(I:Nat->Loc->Sto->Prop)(ys:List V)(m:Loc)(σ:Sto)
  (h:∀(i:Nat) X,ys[i]? =some X->∀m σ,I i m σ->∀QB:FP,(∀m σ,P σ->I (i+1) m σ->QB .next m σ)->(∀Y m σ,QS (.ret Y) m σ->QB (.ret Y) m σ)->AA C η ν gl own d (assign tgt η) X m σ λm₁ σ₁=>AS C η ν gl own d (execs body η) m₁ σ₁ QB)
  (hq:∀m σ,I ys.length m σ->QS .next m σ) (h0:I 0 m σ):z6n C η ν gl own d tgt body P QS ys m σ:=
 z6p I ys 0 m σ (λi X hX m σ hm=>by
  rw[AP] at hm⊢
  exact h i X hX m σ hm _ (λm σ hP hI=>z8J hP hI) λY m σ q=>y0n q) (λm σ hm=>hq m σ (by rw[AP] at hm;exact hm)) h0
theorem z6t{D:D9}{n:Nat}(h:∀Q c r m s σ,WE F Q (D.c c) r m s σ->AS F.C F.env F.vars F.gl F.own F.d (execs D.sts F.env) m σ (z11 (λm σ=>WE F Q c r m s σ) Q))(w:W F n Q (D.c []) [] m [] σ):AS F.C F.env F.vars F.gl F.own F.d (execs D.sts F.env) m σ Q:=
 AS.mono (h Q [] [] m [] σ ⟨n,w⟩) λf m σ q=>by
  cases f with
  |next=>exact WE.fin q
  |brk=>exact q
  |cont=>exact q
  |ret x=>exact q
theorem z81 [HM F.C]{K:Type}[DecidableEq K](kk:KK F.C.prog F.C.w K){D:D9}{iter:Expr}{y:Str}{q2 p:Pos}{i:Nat}(ho:F.own=true)(hs:∀x,foldedSetIterable iter F.env x=pure x)(hb:∀Q c r m s σ,WE F Q (D.c c) r m s σ->AS F.C F.env F.vars F.gl F.own F.d (execs D.sts F.env) m σ (z11 (λm σ=>WE F Q c r m s σ) Q))(hi:F.vars[i]? =some y)
  (h:F.at (eval iter F.env) m σ λX σ=>∃n,LoopD kk X m σ Q (λY QB m σ=>z2b m i Y λm=>W F n QB (D.c []) [] m [] σ) λm σ=>W F n Q c r m s σ):AS F.C F.env F.vars F.gl F.own F.d (exec (.For (.Name y q2) iter D.sts [] p) F.env) m σ (z11 (λm σ=>WE F Q c r m s σ) Q):=by
 by_cases hsys:z0J F.C
 ·refine z4q (z8u kk hsys (h.mono λX σ₁ w=> ?_)) hs
  obtain⟨n,a,o,kvs,I,rfl,_,hm,hn,h0,hb1,he⟩:=w
  refine⟨a,o,kvs,rfl,hm,hn,z6o I _ _ _ (λj Y hY m σ hI QB hQB hQR=> ?_) (λm σ hI=>⟨n,he m σ (by rw[Ab] at hI;exact hI)⟩) h0⟩
  rw[Al] at hY
  obtain⟨p,hp,rfl⟩:=Bw.mp hY
  obtain⟨m',p',w⟩:=z2D (k:=λm=>W F n QB (D.c []) [] m [] σ) hi (hb1 j p hp m σ hI QB hQB hQR)
  exact z0w p' (z6t hb w) (.inl ho)
 ·refine z4q (λA G D' st hA R=>h.run hA R λv s₁ X D₁ σ₁ dx b c w=> ?_) hs
  obtain⟨n,a,o,kvs,I,_,hs2,_⟩:=w
  exact absurd hs2 hsys
theorem y4S{D:D9}(gl:PL F D){G X:V}{p:Pos}(w:WE F Q (D.c (.H G D.exs.length::c)) r m (X::s) σ):AL F.C F.env F.vars F.gl F.own F.d (spliced (backTo p (starEach D.exs F.env))) m σ λXs σ=>KW F.C F.d G (X::Xs) σ λY σ=>WE F Q c r m (Y::s) σ:=
 AL.mono (gl.l p _ _ _ _ _ _ w) λXs σ q=>by
  obtain⟨n,w⟩:=q.2.step
  exact KW.mono (B2.out (y4Y (z6K (k:=λXs s=>st1 s λX s=>B2 (KW F.C F.d G (X::Xs) σ λY σ=>W F n Q c r m (Y::s) σ)) q.1 w))) λY σ w=>⟨n,w⟩
theorem y3h{D:D9}(gl:PL F D){G X:V}(e:D.exs=[])(w:WE F Q (D.c (.H G D.exs.length::c)) r m (X::s) σ):KW F.C F.d G [X] σ λY σ=>WE F Q c r m (Y::s) σ:=by
 rw[gl.n e,e] at w
 obtain⟨n,w⟩:=w.step
 exact KW.mono (B2.out w) λY σ w=>⟨n,w⟩
theorem z9Y{D:D9}(gl:PL F D){ty id:String}{o:Expr}{nm:Str}{q p:Pos}{Z:VP}{P:VP}(hM:B9 ty nm id)(w:F.at (eval o F.env) m σ λX σ=>TyR F.C X σ ty/\Z X σ)(hl:∀X σ,Z X σ->AL F.C F.env F.vars F.gl F.own F.d (spliced (backTo p (starEach D.exs F.env))) m σ λXs σ=>KW F.C F.d (.bi id) (X::Xs) σ P)(hn:D.exs=[]->∀X σ,Z X σ->KW F.C F.d (.bi id) [X] σ P)(hb:attributeBase o nm F.env (eval o F.env)=eval o F.env)(h5:(q.endLine==p.line)=true)(h6:Nat.blt D.exs.length 30=true):F.at (eval (.Call (.Attribute o nm q) D.exs [] p) F.env) m σ P:=by
 have hs:=gl.s
 have hp:=gl.p p
 clear gl
 generalize D.exs=es at*
 cases es with
 |nil=>exact z9W hM (w.mono λX σ₁ w=>⟨w.1,hn rfl X σ₁ w.2⟩) hb h5
 |cons e es=>exact z3c hM (w.mono λX σ₁ w=>⟨w.1,hl X σ₁ w.2⟩) hb h5 (hs _ _ rfl).1 ((hs _ _ rfl).2 _) (y0S hp h6)
theorem z9Z{D:D9}(gl:PL F D){K:W.Frag}{c f:Addr}{o:Expr}{nm:Str}{q p:Pos}{Z:VP}{P:VP}(hM:B3 F.C K c nm f)(w:F.at (eval o F.env) m σ λX σ=>z4p c nm X σ λx=>Z (.ref x) σ)(hl:∀X σ,Z X σ->AL F.C F.env F.vars F.gl F.own F.d (spliced (backTo p (starEach D.exs F.env))) m σ λXs σ=>KW F.C F.d (.ref f) (X::Xs) σ P)(hn:D.exs=[]->∀X σ,Z X σ->KW F.C F.d (.ref f) [X] σ P)(hb:attributeBase o nm F.env (eval o F.env)=eval o F.env)(h5:(q.endLine==p.line)=true)(h6:Nat.blt D.exs.length 30=true):F.at (eval (.Call (.Attribute o nm q) D.exs [] p) F.env) m σ P:=by
 have hs:=gl.s
 have hp:=gl.p p
 clear gl
 generalize D.exs=es at*
 cases es with
 |nil=>exact z35 hM (w.mono λX σ₁ w=>by obtain⟨x,dx,fs,e1,e2,e3,w⟩:=w;exact⟨x,dx,fs,e1,e2,e3,hn rfl _ _ w⟩) hb h5
 |cons e es=>exact z4Z hM (w.mono λX σ₁ w=>by obtain⟨x,dx,fs,e1,e2,e3,w⟩:=w;exact⟨x,dx,fs,e1,e2,e3,hl _ _ w⟩) hb h5 (hs _ _ rfl).1 ((hs _ _ rfl).2 _) (y0S hp h6)
theorem y1g{D:D9}{n i:Nat}{y:Str}{p:Pos}{Y:V}(hi:(F.vars[i]? ==some y)=true)(hb:PS F D)(ho:F.own=true)(w:z2b m i Y λm=>W F n Q (D.c []) [] m [] σ):AA F.C F.env F.vars F.gl F.own F.d (assign (.Name y p) F.env) Y m σ λm σ=>AS F.C F.env F.vars F.gl F.own F.d (execs D.sts F.env) m σ Q:=by
 obtain⟨m',p',w⟩:=z2D (k:=λm=>W F n Q (D.c []) [] m [] σ) (BF hi) w
 exact z0w p' (z6t (hb ho) w) (.inl ho)
theorem y3k [HM F.C]{D:D9}{n i j k:Nat}{y z:Str}{p q u:Pos}{Y:V}(hi:(F.vars[i]? ==some y)=true)(hj:(F.vars[j]? ==some z)=true)(hb:PS F D)(ho:F.own=true)(w:y1z Y λy z=>z2b m i y λm=>z2b m j z λm=>W F n Q (D.c []) [] m [] σ):AA F.C F.env F.vars F.gl F.own F.d (assign (.Tuple [.Name y p,.Name z q] k u) F.env) Y m σ λm σ=>AS F.C F.env F.vars F.gl F.own F.d (execs D.sts F.env) m σ Q:=by
 obtain⟨A,B,rfl,w1⟩:=z7I w
 obtain⟨m1,p1,w⟩:=z2D (BF hi) w1
 exact z9R (z0w p1 (y1g hj hb ho w) (.inl ho)) rfl rfl
theorem z7k{tgt:Expr}{body:List Stmt}{n:Nat}{X:V}{B:V->(FP)->Loc->Sto->Prop}(w:LoopL X m σ Q B λm σ=>W F n Q c r m s σ)(h:∀Y QB m σ,B Y QB m σ->AA F.C F.env F.vars F.gl F.own F.d (assign tgt F.env) Y m σ λm σ=>AS F.C F.env F.vars F.gl F.own F.d (execs body F.env) m σ QB):∃xs P,A8 σ X (.list xs) P/\z6n F.C F.env F.vars F.gl F.own F.d tgt body P (z11 (λm σ=>WE F Q c r m s σ) Q) xs m σ:=by
 obtain⟨xs,P,I,hH,h0,hb,he⟩:=w
 exact⟨xs,P,hH,z6o I _ _ _ (λj Y hY m σ hI QB hQB hQR=>h _ _ _ _ (hb j Y hY m σ hI QB hQB hQR)) (λm σ hI=>⟨n,he m σ hI⟩) h0⟩
theorem z7j{g:List V->List V}{tgt:Expr}{body:List Stmt}{n:Nat}{X:V}{B:V->(FP)->Loc->Sto->Prop}(w:LoopG g X m σ Q B λm σ=>W F n Q c r m s σ)(h:∀Y QB m σ,B Y QB m σ->AA F.C F.env F.vars F.gl F.own F.d (assign tgt F.env) Y m σ λm σ=>AS F.C F.env F.vars F.gl F.own F.d (execs body F.env) m σ QB):∃Y xs P,[X]=[Y]/\A8 σ Y (.list xs) P/\z6n F.C F.env F.vars F.gl F.own F.d tgt body P (z11 (λm σ=>WE F Q c r m s σ) Q) (g xs) m σ:=by
 obtain⟨xs,P,I,hH,h0,hb,he⟩:=w
 exact⟨X,xs,P,rfl,hH,z6o I _ _ _ (λj Y hY m σ hI QB hQB hQR=>h _ _ _ _ (hb j Y hY m σ hI QB hQB hQR)) (λm σ hI=>⟨n,he m σ hI⟩) h0⟩
end
def KF(F:Fx):Prop:=(∀a∈F.fns,z1g F.C (.ref a))/\(∀q∈F.ml,∃K,B3 F.C K q.1 q.2.1 q.2.2)/\∀q∈F.al,∃K,F1 F.C K q.1 q.2
def GG(D:D9):Prop:=∀F:Fx,HM F.C->KF F->z3v F D
abbrev T:={D:D9//GG D}
noncomputable def T.L(i:Nat)(x:Str)(p:Pos):T:=⟨dE (.Name x p) (λF=>F.vars[i]? ==some x) λc=> .L i::c,λF H K (h:(F.vars[i]? ==some x)=true) Q c r m s σ w=>by obtain⟨n,w⟩:=WE.step w;exact y4a w λX hX w=>z6W (y4Q (BF h) hX) ⟨n,w⟩⟩
noncomputable def T.glb(i:Nat)(X:V)(x:Str)(p:Pos):T:=⟨dE (.Name x p) (λF=>okG x X F.gl[i]?) λc=> .P X::c,λF H K h Q c r m s σ w=>by obtain⟨n,w⟩:=WE.step w;exact z1j (Ak (z4Q h)) ⟨n,w⟩⟩
noncomputable def T.con(k:Const)(e:Nat)(p:Pos):T:=⟨dE (.Constant k e p) (λ_=>(conV k).isSome) λc=> .P ((conV k).getD .none)::c,λF H K=>by
 refineλh Q c r m s σ w=> ?_
 obtain⟨n,w⟩:=WE.step w
 cases k<;>first|exact ff h|skip
 all_goals first|exact z0n ⟨n,w⟩|exact z0r ⟨n,w⟩|exact z6j ⟨n,w⟩|exact z8v ⟨n,w⟩⟩
noncomputable def T.raw(e:Expr):T:=⟨dE e (λ_=>true) λc=> .raw e::c,λF H K _ Q c r m s σ w=>by obtain⟨n,w⟩:=WE.step w;exact AT.mono (B2.out w) λX σ w=>⟨n,w⟩⟩
noncomputable def T.no:T:=⟨D0,λF H K c=>rfl⟩
noncomputable def T.sub(a b:T)(p:Pos):T:=⟨dE (.Subscript a.1.ex b.1.ex p) (λF=>okE F a.1&&okE F b.1) λc=>a.1.c (b.1.c (.sub::c)),λF H K h Q c r m s σ w=>z0u (z29 (gE (a.2 F H K) (z0a h).1) (gE (b.2 F H K) (z0a h).2) w λn X Y σ w=>C2.mono (B2.out w) λZ σ w=>⟨n,w⟩)⟩
noncomputable def T.S(a:T)(k u:Nat)(q p:Pos):T:=⟨dE (.Subscript a.1.ex (.Constant (.int (k:Int)) u q) p) (λF=>okE F a.1&&Nat.blt k 1000) λc=>a.1.c (.S k::c),λF H K=>by
 have ha:=a.2 F H K
 refineλh Q c r m s σ w=>z0u ((gE ha (z0a h).1 _ _ _ _ _ _ w).mono λX σ₁ w=>z0n ?_)
 obtain⟨n,w⟩:=w.step
 exact y0F (Q:=λY σ=>W F n Q c r m (Y::s) σ) w (λZ e q=>y1B e (z0a h).2 ⟨n,q⟩) λw=>C2.mono w λZ σ w=>⟨n,w⟩⟩
noncomputable def T.B(o:Operator)(a b:T)(p:Pos):T:=⟨dE (.BinOp a.1.ex o b.1.ex p) (λF=>okE F a.1&&okE F b.1) λc=>a.1.c (b.1.c (.B o::c)),λF H K h Q c r m s σ w=>z0O (z29 (gE (a.2 F H K) (z0a h).1) (gE (b.2 F H K) (z0a h).2) w λn X Y σ w=>y0F (Q:=λY σ=>W F n Q c r m (Y::s) σ) w (λZ e q=>y15 e ⟨n,q⟩) λw=>AC2.mono w λZ σ w=>⟨n,w⟩)⟩
noncomputable def T.G(o:CmpOp)(a b:T)(p:Pos):T:=⟨dE (.Compare a.1.ex [o] [b.1.ex] p) (λF=>okE F a.1&&(okE F b.1&& !behindInMarks o b.1.ex)) λc=>a.1.c (b.1.c (.G o::c)),λF H K h Q c r m s σ w=>z6i (z29 (gE (a.2 F H K) (z0a h).1) (gE (b.2 F H K) (z0a (z0a h).2).1) w λn X Y σ w=>y0F (Q:=λY σ=>W F n Q c r m (Y::s) σ) w (λZ e q=>z3e e ⟨n,q⟩) λw=>AC2.mono w λZ σ w=>⟨n,w⟩) (Bool.not_eq_true' _▸(z0a (z0a h).2).2)⟩
noncomputable def T.cmp2(o o2:CmpOp)(a b e:T)(p:Pos):T:=⟨dE (.Compare a.1.ex [o,o2] [b.1.ex,e.1.ex] p) (λF=>okE F a.1&&(okE F b.1&&(okE F e.1&& !behindInMarks o2 e.1.ex))) λc=>a.1.c (b.1.c (.cm2 o (e.1.c [.G o2])::c)),λF H K=>by
 have ha:=a.2 F H K
 have hb:=b.2 F H K
 have he:=e.2 F H K
 refineλh Q c r m s σ w=>y1N (z29 (gE ha (z0a h).1) (gE hb (z0a (z0a h).2).1) w λn X Y σ w=> ?_) (Bool.not_eq_true' _▸(z0a (z0a (z0a h).2).2).2)
 have key:∀n σ,W F n Q (e.1.c [.G o2]) (c::r) m (Y::s) σ->F.at (eval e.1.ex F.env) m σ λW' σ₄=>AC2 F.C F.d (compareOp o2) Y W' σ₄ λX σ=>WE F Q c r m (X::s) σ:=λn σ w=>(gE he (z0a (z0a (z0a h).2).2).1 _ _ _ _ _ _ ⟨n,w⟩).mono λW' σ₄ w=>by
  obtain⟨n,w⟩:=WE.step w
  exact y0F (Q:=λY σ=>W F n Q [] (c::r) m (Y::s) σ) w (λZ e q=>z3e e (WE.end ⟨n,q⟩)) λw=>AC2.mono w λZ σ w=>WE.end ⟨n,w⟩
 refine y16 (P:=λb σ=>cIf b (W F n Q (e.1.c [.G o2]) (c::r) m (Y::s) σ) (W F n Q c r m (.bool false::s) σ)) w (λb e q=>z3e e ⟨b,z2X,λhb=> ?_,λhb=>key n σ ((z4r q).1 hb)⟩) λw=>AC2.mono w λZ σ w=> ?_
 ·subst hb;exact⟨n,(z4r q).2 rfl⟩
 ·obtain⟨v,t1,t2,t3⟩:=w
  exact⟨v,t1,λe=>⟨n,t2 e⟩,λe=>key n σ (t3 e)⟩⟩
noncomputable def T.una(o:UnaryOp)(a:T)(p:Pos):T:=⟨dE (.UnaryOp o a.1.ex p) (λF=>okE F a.1) λc=>a.1.c (.una o::c),λF H K h Q c r m s σ w=>z90 ((gE (a.2 F H K) h _ _ _ _ _ _ w).mono λX σ₁ w=>by obtain⟨n,w⟩:=w.step;exact AC1.mono (B2.out w) λZ σ w=>⟨n,w⟩)⟩
noncomputable def T.vbo(o:BoolOp)(as:T)(p:Pos):T:=⟨dE (.BoolOp o as.1.exs p) (λF=>okL F as.1&& !as.1.exs.isEmpty) λc=>as.1.cv o c,λF H K h Q c r m s σ w=>z9p ((gL (as.2 F H K) (z0a h).1).v (λe=>by have:=(z0a h).2;rw[e] at this;cases this) _ _ _ _ _ _ _ _ w)⟩
noncomputable def T.tup(as:T)(k:Nat)(p:Pos):T:=⟨dE (.Tuple as.1.exs k p) (λF=>okL F as.1&&Nat.ble as.1.exs.length 1000) λc=>as.1.c (.tup as.1.exs.length::c),λF H K=>by
 have has:=as.2 F H K
 refineλh Q c r m s σ w=>z2j (AL.mono ((gL has (z0a h).1).l _ _ _ _ _ _ _ w) λXs σ₁ q=>⟨z0i (q.1▸nD (AH (z0a h).2) rfl),?_⟩)
 obtain⟨n,w⟩:=q.2.step
 exact⟨n,z6K q.1 w⟩⟩
noncomputable def T.lst(as:T)(p:Pos):T:=⟨dE (.List as.1.exs p) (λF=>okL F as.1&&Nat.ble as.1.exs.length 1000) λc=>as.1.c (.lst as.1.exs.length::c),λF H K=>by
 have has:=as.2 F H K
 refineλh Q c r m s σ w=>z1C (AL.mono ((gL has (z0a h).1).l _ _ _ _ _ _ _ w) λXs σ₁ q=>⟨z0i (q.1▸nD (AH (z0a h).2) rfl),?_⟩)
 obtain⟨n,w⟩:=q.2.step
 exact⟨n,z6K q.1 w⟩⟩
noncomputable def T.call(f:Nat)(G:V)(x:Str)(q:Pos)(as:T)(p:Pos):T:=⟨dE (.Call (.Name x q) as.1.exs [] p) (λF=>(okG x G F.gl[f]? &&isF F.fns G)&&okL F as.1) λc=>as.1.c (.call G as.1.exs.length::c),λF H K=>by
 have has:=as.2 F H K
 refineλh Q c r m s σ w=> ?_
 have hF:=Ak (z4Q (z0a (z0a h).1).1)
 have hc:=y2i K.1 (z0a (z0a h).1).2
 have gl:=gL has (z0a h).2
 have w:WE F Q (as.1.c (.call G as.1.exs.length::c)) r m s σ:=w
 show F.at (eval (.Call (.Name x q) as.1.exs [] p) F.env) m σ _
 have hl:=AL.mono (gl.l p _ _ _ _ _ _ w) λXs σ q=>by
  obtain⟨n,w⟩:=q.2.step
  exact KW.mono (B2.out (z6K (k:=λXs s=>B2 (KW F.C F.d G Xs σ λY σ=>W F n Q c r m (Y::s) σ)) q.1 w)) λY σ w=>(⟨n,w⟩:WE F Q c r m (Y::s) σ)
 have hn:=λe=>(gl.n e (.call G as.1.exs.length::c)▸w:WE F Q (.call G as.1.exs.length::c) r m s σ)
 have hs:=gl.s
 generalize as.1.exs=es at hl hn hs
 cases es with
 |nil=>exact z9U (z1j hF ⟨hc,by obtain⟨n,w⟩:=(hn rfl).step;exact KW.mono (B2.out w) λY σ w=>⟨n,w⟩⟩)
 |cons e es=>exact z2x (z1j hF ⟨hc,hl⟩) (hs _ _ rfl).1 ((hs _ _ rfl).2 _)⟩
noncomputable def T.len(f:Nat)(x:Str)(q:Pos)(a:T)(p:Pos):T:=⟨dE (.Call (.Name x q) [a.1.ex] [] p) (λF=>okE F a.1&&(z3A a.1.ex&&y3Y "len" x F.gl[f]?)) λc=>a.1.c (.len::c),λF H K=>by
 have ha:=a.2 F H K
 refineλh Q c r m s σ w=>z2x (z1j (Ak (z7i (z0a (z0a h).2).2)) ⟨z4d,z0c ((gE ha (z0a h).1 _ _ _ _ _ _ w).mono λX σ₁ w=>z0e ?_) (z1b (z0a (z0a h).2).1)⟩) (z1b (z0a (z0a h).2).1) rfl
 obtain⟨n,w⟩:=w.step
 refine y4p (X:=X) w (λxs e w2=> ?_) λw=>KW.mono w λZ σ w=>⟨n,w⟩
 have w2:=z4r w2
 cases hb:Nat.ble xs.length 1000 with
 |true=>subst e;exact y3K (nD (AH hb) rfl) ⟨n,w2.1 hb⟩
 |false=>exact KW.mono (w2.2 hb).out λZ σ w=>⟨n,w⟩⟩
noncomputable def T.Q(f g:Nat)(t:TK)(x y:Str)(q r':Pos)(a:T)(p:Pos):T:=⟨dE (.Call (.Name x q) [a.1.ex,.Name y r'] [] p) (λF=>okE F a.1&&(z3A a.1.ex&&(y3Y "isinstance" x F.gl[f]? &&y0Z t.n y F.gl[g]?))) λc=>a.1.c (.Q t::c),λF H K=>by
 have ha:=a.2 F H K
 refineλh Q c r m s σ w=>z2x (z1j (Ak (z7i (z0a (z0a (z0a h).2).2).1)) ⟨z4d,z0c ((gE ha (z0a h).1 _ _ _ _ _ _ w).mono λX σ₁ w=>z0c (z1j (Ak (z3N (z0a (z0a (z0a h).2).2).2)) (z0e ?_)) rfl) (z1b (z0a (z0a h).2).1)⟩) (z1b (z0a (z0a h).2).1) rfl
 obtain⟨n,w⟩:=w.step
 refine y0F (Q:=λY σ=>W F n Q c r m (Y::s) σ) w (λZ e q=> ?_) λw=>KW.mono w λZ σ w=>⟨n,w⟩
 obtain⟨b,e1,rfl⟩:=Bw.mp e
 exact z3y e1 ⟨n,q⟩⟩
noncomputable def T.H(ty id:String)(a:T)(nm:Str)(q:Pos)(as:T)(p:Pos):T:=⟨dE (.Call (.Attribute a.1.ex nm q) as.1.exs [] p) (λF=>(okE F a.1&&okL F as.1)&&((z8i a.1.ex&&(q.endLine==p.line&&Nat.blt as.1.exs.length 30))&&bms.contains (ty,nm,id))) λc=>a.1.c (.Y ty::as.1.c (.H (.bi id) as.1.exs.length::c)),λF H K=>by
 have ha:=a.2 F H K
 have has:=as.2 F H K
 refineλh Q c r m s σ w=> ?_
 have h0:=z0a h
 have h1:=z0a h0.1
 have h3:=z0a h0.2
 have h5:=z0a (z0a h3.1).2
 have gl:=gL has h1.2
 refine z9Y gl (y2v h3.2) ((gE ha h1.1 _ _ _ _ _ _ w).mono λX σ w=> ?_) (λX σ w=>y4S gl w) (λe X σ w=>y3h gl e w) (z8Q (z0a h3.1).1) h5.1 h5.2
 obtain⟨n,w⟩:=w.step
 exact⟨(B2.out w).1,n,(B2.out w).2⟩⟩
noncomputable def T.methI(c' f:Nat)(a:T)(nm:Str)(q:Pos)(as:T)(p:Pos):T:=⟨dE (.Call (.Attribute a.1.ex nm q) as.1.exs [] p) (λF=>(okE F a.1&&okL F as.1)&&((z8i a.1.ex&&(q.endLine==p.line&&Nat.blt as.1.exs.length 30))&&F.ml.contains (c',nm,f))) λc=>a.1.c (.mI c' nm::as.1.c (.H (.ref f) as.1.exs.length::c)),λF H K=>by
 have ha:=a.2 F H K
 have has:=as.2 F H K
 refineλh Q c r m s σ w=> ?_
 have h0:=z0a h
 have h1:=z0a h0.1
 have h3:=z0a h0.2
 have h5:=z0a (z0a h3.1).2
 obtain⟨K,hK⟩:=K.2.1 _ (List.contains_iff_mem.mp h3.2)
 have gl:=gL has h1.2
 refine z9Z gl hK ((gE ha h1.1 _ _ _ _ _ _ w).mono λX σ w=> ?_) (λX σ w=>y4S gl w) (λe X σ w=>y3h gl e w) (z8Q (z0a h3.1).1) h5.1 h5.2
 obtain⟨n,w⟩:=w.step
 obtain⟨x,dx,fs,e1,e2,e3,w⟩:=B2.out w
 exact⟨x,dx,fs,e1,e2,e3,n,w⟩⟩
noncomputable def T.slc(a b e:T)(p:Pos):T:=⟨dE (.Slice (exo a.1) (exo b.1) (exo e.1) p) (λF=>okO F a.1&&(okO F b.1&&okO F e.1)) λc=>a.1.c (b.1.c (e.1.c (.slc::c))),λF H K h Q c r m s σ w=>z2i (gO (a.2 F H K) (z0a h).1 w λX σ₁ w=>gO (b.2 F H K) (z0a (z0a h).2).1 w λY σ₂ w=>gO (e.2 F H K) (z0a (z0a h).2).2 w λZ σ₃ w=>by obtain⟨n,w⟩:=w.step;exact⟨n,w⟩)⟩
noncomputable def T.att(k:Nat)(a:T)(nm:Str)(p:Pos):T:=⟨dE (.Attribute a.1.ex nm p) (λF=>okE F a.1&&(y30 a.1.ex&&F.al.contains (k,nm))) λc=>a.1.c (.att k nm::c),λF H K=>by
 have ha:=a.2 F H K
 refineλh Q c r m s σ w=> ?_
 have h1:=z0a h
 have h2:=z0a h1.2
 obtain⟨K,hK⟩:=K.2.2 _ (List.contains_iff_mem.mp h2.2)
 refine z1B hK ((gE ha h1.1 _ _ _ _ _ _ w).mono λX σ₁ w=> ?_) (y13 h2.1) (y2N h2.1)
 obtain⟨n,w⟩:=w.step
 obtain⟨x,dx,fs,Z,e1,e2,e3,e4,w⟩:=B2.out w
 exact⟨x,dx,fs,Z,e1,e2,e3,e4,n,w⟩⟩
noncomputable def T.dic(p:Pos):T:=⟨dE (.Dict [] [] p) (λ_=>true) λc=> .dic::c,λF H K _ Q c r m s σ w=>by obtain⟨n,w⟩:=WE.step w;exact z3E λa o hf=>⟨n,w a o hf⟩⟩
noncomputable def T.nil:T:=⟨dL [] (λ_=>true) (λc=>c) λ_ c=>c,λF H K _=>⟨λp Q c r m s σ w=>z0e ⟨rfl,w⟩,λh=>absurd rfl h,(λ_ c=>rfl),(λp=>rfl),λe r h=>nomatch h⟩⟩
noncomputable def T.cons(a as:T):T:=⟨dL (a.1.ex::as.1.exs) (λF=>okE F a.1&&(z3A a.1.ex&&okL F as.1)) (λc=>a.1.c (as.1.c c)) λo c=>match as.1.exs with
   |[]=>a.1.c c
   |_::_=>a.1.c (.O o (as.1.cv o [])::c),λF H K=>by
 have ha:=a.2 F H K
 have has:=as.2 F H K
 refineλh=> ?_
 have he:=gE ha (z0a h).1
 obtain⟨hns,hk⟩:=z0a (z0a h).2
 have gl:=gL has hk
 refine⟨λp Q c r m s σ w=>z0c ((he _ _ _ _ _ _ w).mono λX σ₁ w=>AL.mono (gl.l p _ _ _ _ _ _ w) λXs σ₂ q=>⟨congrArg Nat.succ q.1,by rw[List.reverse_cons,Ao];exact q.2⟩) (z1b hns),λ_ o p Q c r m s σ w=> ?_,(λe=>nomatch e),(λp=> ?_),λe r h=> ?_⟩
 ·show F.at (boolOp p o (evalEach (a.1.ex::as.1.exs) F.env)) m σ _
  have w:WE F Q (match as.1.exs with
   |[]=>a.1.c c
   |_::_=>a.1.c (.O o (as.1.cv o [])::c)) r m s σ:=w
  have gv:=gl.v
  generalize as.1.exs=es at w gv
  cases es with
  |nil=>cases o with
   |And=>exact z91 (he _ _ _ _ _ _ w)
   |Or=>exact y1P (he _ _ _ _ _ _ w)
  |cons y l=>
   have gv:=gv (λe=>nomatch e)
   have key:∀n σ,W F n Q (as.1.cv o []) (c::r) m s σ->F.at (boolOp p o (evalEach (y::l) F.env)) m σ λX σ=>WE F Q c r m (X::s) σ:=λn σ w=>(gv _ _ _ _ _ _ _ _ ⟨n,w⟩).mono λX σ w=>w.end
   have w:=he _ _ _ _ _ _ w
   cases o with
   |And=>
    refine y1O (w.mono λX σ₁ w=> ?_)
    obtain⟨n,w⟩:=w.step
    refine y1C w (λb e w=> ?_) λw=> ?_
    ·subst e;exact⟨b,z2X,λe=>key n _ ((z9C w).1 e),λe=>⟨n,(z9C w).2 e⟩⟩
    ·obtain⟨b,t1,w⟩:=w
     exact⟨b,t1,λe=>key n _ ((z9C w).1 e),λe=>⟨n,(z9C w).2 e⟩⟩
   |Or=>
    refine y3u (w.mono λX σ₁ w=> ?_)
    obtain⟨n,w⟩:=w.step
    refine y1C w (λb e w=> ?_) λw=> ?_
    ·subst e;exact⟨b,z2X,λe=>⟨n,(z9D w).1 e⟩,λe=>key n _ ((z9D w).2 e)⟩
    ·obtain⟨b,t1,w⟩:=w
     exact⟨b,t1,λe=>⟨n,(z9D w).1 e⟩,λe=>key n _ ((z9D w).2 e)⟩
 ·show(backTo p (starEach (a.1.ex::as.1.exs) F.env)).any (·.1)=false
  rw[z1b hns]
  exact gl.p p
 ·cases h
  exact⟨z1b hns,gl.p⟩⟩
noncomputable def T.bnot(a:T)(p:Pos):T:=⟨dB (.UnaryOp .Not a.1.ex p) (λF=>okB F a.1) λc=>a.1.c (.not::c),λF H K h Q c r m s σ w=>z34 (AB.mono (gB (a.2 F H K) h _ _ _ _ _ _ w) λb σ w=>by obtain⟨n,w⟩:=w.step;exact⟨n,w⟩)⟩
noncomputable def T.bcmp(o:CmpOp)(a b:T)(p:Pos):T:=⟨dB (.Compare a.1.ex [o] [b.1.ex] p) (λF=>okE F a.1&&(okE F b.1&& !behindInMarks o b.1.ex)) λc=>a.1.c (b.1.c (.tcmp o::c)),λF H K h Q c r m s σ w=>z0D (z29 (gE (a.2 F H K) (z0a h).1) (gE (b.2 F H K) (z0a (z0a h).2).1) w λn X Y σ w=>AC2.mono (B2.out w) λZ σ w=>by obtain⟨b,t,w⟩:=w;exact⟨b,t,n,w⟩) (Bool.not_eq_true' _▸(z0a (z0a h).2).2)⟩
noncomputable def T.bcmpc(o:CmpOp)(a b:T)(p:Pos):T:=⟨dB (.Compare a.1.ex [o] [b.1.ex] p) (λF=>okE F a.1&&(okE F b.1&& !behindInMarks o b.1.ex)) λc=>a.1.c (b.1.c (.K o::c)),λF H K h Q c r m s σ w=>z0D (z29 (gE (a.2 F H K) (z0a h).1) (gE (b.2 F H K) (z0a (z0a h).2).1) w λn X Y σ w=>y16 (P:=λb σ=>W F n Q c r m (.bool b::s) σ) w (λb e q=>z3e e (z0g ⟨n,q⟩)) λw=>AC2.mono w λZ σ w=>by obtain⟨b,t,w⟩:=w;exact⟨b,t,n,w⟩) (Bool.not_eq_true' _▸(z0a (z0a h).2).2)⟩
noncomputable def T.bcmp2(o o2:CmpOp)(a b e:T)(p:Pos):T:=⟨dB (.Compare a.1.ex [o,o2] [b.1.ex,e.1.ex] p) (λF=>okE F a.1&&(okE F b.1&&(okE F e.1&& !behindInMarks o2 e.1.ex))) λc=>a.1.c (b.1.c (.tcm2 o (e.1.c [.K o2])::c)),λF H K=>by
 have ha:=a.2 F H K
 have hb:=b.2 F H K
 have he:=e.2 F H K
 refineλh Q c r m s σ w=>y1K (z29 (gE ha (z0a h).1) (gE hb (z0a (z0a h).2).1) w λn X Y σ w=> ?_) (Bool.not_eq_true' _▸(z0a (z0a (z0a h).2).2).2)
 have key:∀n σ,W F n Q (e.1.c [.K o2]) (c::r) m (Y::s) σ->F.at (eval e.1.ex F.env) m σ λW' σ₄=>AC2 F.C F.d (compareOp o2) Y W' σ₄ λZ σ=>TRX F.C F.d Z σ λb σ=>WE F Q c r m (.bool b::s) σ:=λn σ w=>(gE he (z0a (z0a (z0a h).2).2).1 _ _ _ _ _ _ ⟨n,w⟩).mono λW' σ₄ w=>by
  obtain⟨n,w⟩:=WE.step w
  exact y16 (P:=λb σ=>W F n Q [] (c::r) m (.bool b::s) σ) w (λb e q=>z3e e (z0g (WE.end ⟨n,q⟩))) λw=>AC2.mono w λZ σ w=>by obtain⟨b,t,w⟩:=w;exact⟨b,t,WE.end ⟨n,w⟩⟩
 refine y16 (P:=λb σ=>cIf b (W F n Q (e.1.c [.K o2]) (c::r) m (Y::s) σ) (W F n Q c r m (.bool false::s) σ)) w (λb e q=>z3e e ⟨b,z2X,λhb=>⟨n,(z4r q).2 hb⟩,λhb=>key n σ ((z4r q).1 hb)⟩) λw=>AC2.mono w λZ σ w=> ?_
 obtain⟨v,t1,t2,t3⟩:=w
 exact⟨v,t1,λe=>⟨n,t2 e⟩,λe=>key n σ (t3 e)⟩⟩
noncomputable def T.bvalc(a:T):T:=⟨dB a.1.ex (λF=>okE F a.1&&y1n a.1.ex) λc=>a.1.c (.V::c),λF H K=>by
 have ha:=a.2 F H K
 refineλh Q c r m s σ w=>z3s ((gE ha (z0a h).1 _ _ _ _ _ _ w).mono λX σ₁ w=> ?_) (z9F (z0a h).2)
 obtain⟨n,w⟩:=w.step
 exact y1C w (λb e w=>by subst e;exact z0g ⟨n,w⟩) λw=>by obtain⟨b,t,w⟩:=w;exact⟨b,t,n,w⟩⟩
noncomputable def T.bbo(o:BoolOp)(as:T)(p:Pos):T:=⟨dB (.BoolOp o as.1.exs p) (λF=>okM F as.1) λc=>as.1.cv o c,λF H K h Q c r m s σ w=>z1V (gM (as.2 F H K) h _ _ _ _ _ _ _ w)⟩
noncomputable def T.bnil:T:=⟨dM [] (λ_=>true) λo c=>match o with
   | .And=> .P (.bool true)::c
   | .Or=> .P (.bool false)::c,λF H K=>by
 refineλ_ o Q c r m s σ w=> ?_
 cases o with
 |And=>obtain⟨n,w⟩:=WE.step w;exact z5L ⟨n,w⟩
 |Or=>obtain⟨n,w⟩:=WE.step w;exact z4X ⟨n,w⟩⟩
noncomputable def T.bcons(a as:T):T:=⟨dM (a.1.ex::as.1.exs) (λF=>okB F a.1&&okM F as.1) λo c=>a.1.c (.M o (as.1.cv o [])::c),λF H K=>by
 have ha:=a.2 F H K
 have has:=as.2 F H K
 refineλh o Q c r m s σ w=> ?_
 have w:=gB ha (z0a h).1 _ _ _ _ _ _ w
 have key:∀n σ,W F n Q (as.1.cv o []) (c::r) m s σ->AB F.C F.env F.vars F.gl F.own F.d (allTrue o as.1.exs F.env) m σ λb σ=>WE F Q c r m (.bool b::s) σ:=λn σ w=>AB.mono (gM has (z0a h).2 _ _ _ _ _ _ _ ⟨n,w⟩) λb σ w=>w.end
 cases o with
 |And=>exact z7Y (AB.mono w λb σ₁ w=>by obtain⟨n,w⟩:=w.step;exact⟨λhb=>key n _ ((z9C w).1 hb),λhb=>⟨n,(z9C w).2 hb⟩⟩)
 |Or=>exact z3D (AB.mono w λb σ₁ w=>by obtain⟨n,w⟩:=w.step;exact⟨λhb=>⟨n,(z9D w).1 hb⟩,λhb=>key n _ ((z9D w).2 hb)⟩)⟩
noncomputable def T.setI(e a b:T)(u p:Pos):T:=⟨d1 (.Assign [.Subscript a.1.ex b.1.ex u] e.1.ex p) (λF=>z4h e.1.ex&&(okE F e.1&&(okE F a.1&&okE F b.1))) λc=>e.1.c (a.1.c (b.1.c (.setI::c))),λF H K=>by
 have he:=e.2 F H K
 have ha:=a.2 F H K
 have hb:=b.2 F H K
 refineλh ho Q c r m s σ w=>y0v ((gE he (z0a (z0a h).2).1 _ _ _ _ _ _ w).mono λX σ₁ w=>z29 (gE ha (z0a (z0a (z0a h).2).2).1) (gE hb (z0a (z0a (z0a h).2).2).2) w λn O I σ w=> ?_) (z4U (z0a h).1)
 exact SetR.mono (B2.out w) λσ w=>⟨n,w⟩⟩
noncomputable def T.X(s:Stmt):T:=⟨d1 s (λ_=>true) λc=> .X s::c,λF H K _ _ Q c r m s σ w=>by obtain⟨n,w⟩:=WE.step w;exact AS.mono (B2.out w) (z6r λm σ w=>⟨n,w⟩)⟩
noncomputable def T.A(i:Nat)(x:Str)(q:Pos)(e:T)(p:Pos):T:=⟨d1 (.Assign [.Name x q] e.1.ex p) (λF=>F.vars[i]? ==some x&&(z4h e.1.ex&&okE F e.1)) λc=>e.1.c (.A i::c),λF H K=>by
 have he:=e.2 F H K
 refineλh ho Q c r m s σ w=>z1F ((gE he (z0a (z0a h).2).2 _ _ _ _ _ _ w).mono λX σ₁ w=> ?_) ho (z4U (z0a (z0a h).2).1)
 obtain⟨n,w⟩:=w.step
 obtain⟨m',p,w⟩:=z2D (k:=λm=>W F n Q c r m s σ₁) (BF (z0a h).1) w
 exact⟨m',p,n,w⟩⟩
noncomputable def T.asgL(i:Nat)(x:Str)(q r' p:Pos):T:=⟨d1 (.Assign [.Name x q] (.List [] r') p) (λF=>F.vars[i]? ==some x) λc=> .asgL i::c,λF H K=>by
 refineλh ho Q c r m s σ w=>z79 (λa o hf=> ?_) ho rfl
 obtain⟨n,w⟩:=WE.step w
 obtain⟨m',p,w⟩:=z2D (k:=λm=>W F n Q c r m s ((a,o,.list [])::σ)) (BF h) (w a o hf)
 exact⟨m',p,n,w⟩⟩
noncomputable def T.asgD(i:Nat)(x:Str)(q r' p:Pos):T:=⟨d1 (.Assign [.Name x q] (.Dict [] [] r') p) (λF=>F.vars[i]? ==some x) λc=> .asgD i::c,λF H K=>by
 refineλh ho Q c r m s σ w=>z78 (λa o hf=> ?_) ho rfl
 obtain⟨n,w⟩:=WE.step w
 obtain⟨m',p,w⟩:=z2D (k:=λm=>W F n Q c r m s ((a,o,.dict [])::σ)) (BF h) (w a o hf)
 exact⟨m',p,n,w⟩⟩
noncomputable def T.asg2(i j:Nat)(x y:Str)(q r':Pos)(k:Nat)(u:Pos)(e:T)(p:Pos):T:=⟨d1 (.Assign [.Tuple [.Name x q,.Name y r'] k u] e.1.ex p) (λF=>F.vars[i]? ==some x&&(F.vars[j]? ==some y&&(z4h e.1.ex&&(y3i e.1.ex&&okE F e.1)))) λc=>e.1.c (.asg2 i j::c),λF H K=>by
 have he:=e.2 F H K
 refineλh ho Q c r m s σ w=>z9v ((gE he (z0a (z0a (z0a (z0a h).2).2).2).2 _ _ _ _ _ _ w).mono λX σ₁ w=> ?_) rfl (y1x (z0a (z0a (z0a h).2).2).1) (z9L (z0a (z0a (z0a (z0a h).2).2).2).1)
 obtain⟨n,w⟩:=w.step
 obtain⟨X,Y,rfl,w1⟩:=z7I (k:=λx y=>z2b m i x λm=>z2b m j y λm=>W F n Q c r m s σ₁) w
 obtain⟨m1,p1,w⟩:=z2D (BF (z0a h).1) w1
 obtain⟨m2,p2,w⟩:=z2D (BF (z0a (z0a h).2).1) w
 exact z9R (z0w p1 (z0w p2 ⟨n,w⟩ (.inl ho)) (.inl ho)) rfl rfl⟩
noncomputable def T.ret(e:T)(p:Pos):T:=⟨d1 (.Return (some e.1.ex) p) (λF=>okE F e.1) λc=>e.1.c (.ret::c),λF H K h _ Q c r m s σ w=>z1r ((gE (e.2 F H K) h _ _ _ _ _ _ w).mono λX σ₁ w=>by obtain⟨n,w⟩:=w.step;exact w)⟩
noncomputable def T.exp(e:T)(p:Pos):T:=⟨d1 (.Expr e.1.ex p) (λF=>z4h e.1.ex&&okE F e.1) λc=>e.1.c (.pop::c),λF H K h _ Q c r m s σ w=>y3O ((gE (e.2 F H K) (z0a h).2 _ _ _ _ _ _ w).mono λX σ₁ w=>by obtain⟨n,w⟩:=w.step;exact⟨n,w⟩) (z4U (z0a h).1)⟩
noncomputable def T.I(e a b:T)(p:Pos):T:=⟨d1 (.If e.1.ex a.1.sts b.1.sts p) (λF=>okB F e.1&&(okS F a.1&&okS F b.1)) λc=>e.1.c (.I (a.1.c []) (b.1.c [])::c),λF H K=>by
 have he:=e.2 F H K
 have ha:=a.2 F H K
 have hb:=b.2 F H K
 refineλh ho Q c r m s σ w=>y5a (AB.mono (gB he (z0a h).1 _ _ _ _ _ _ w) λv σ₁ w=> ?_)
 obtain⟨n,w⟩:=w.step
 have w:=z4r w
 exact⟨λe=>AS.mono (gS ha (z0a (z0a h).2).1 ho _ _ _ _ _ _ ⟨n,w.1 e⟩) (z6r λm σ w=>w.end),λe=>AS.mono (gS hb (z0a (z0a h).2).2 ho _ _ _ _ _ _ ⟨n,w.2 e⟩) (z6r λm σ w=>w.end)⟩⟩
noncomputable def T.forR(f:Nat)(x:Str)(q:Pos)(a:T)(u:Pos)(i:Nat)(y:Str)(q2:Pos)(b:T)(p:Pos):T:=⟨d1 (.For (.Name y q2) (.Call (.Name x q) [a.1.ex] [] u) b.1.sts [] p) (λF=>okE F a.1&&(z3A a.1.ex&&(y0Z "range" x F.gl[f]? &&(F.vars[i]? ==some y&&okS F b.1)))) λc=>a.1.c (.forR i (b.1.c [])::c),λF H K=>by
 have ha:=a.2 F H K
 have hb:=b.2 F H K
 refineλh ho Q c r m s σ w=> ?_
 have h1:=z0a h
 have h2:=z0a h1.2
 have h3:=z0a h2.2
 have h4:=z0a h3.2
 refine z4q (z1p (z2x (z1j (Ak (z3N h3.1)) ⟨z4s,z0c ((gE ha h1.1 _ _ _ _ _ _ w).mono λX σ₁ w=>z0e ?_) (z1b h2.1)⟩) (z1b h2.1) rfl)) (λ_=>rfl)
 obtain⟨n,w⟩:=w.step
 obtain⟨k,I,rfl,hk,h0,hb1,he⟩:=B2.out w
 refine z1D ⟨_,_,_,k,rfl,z7v hk,z7w k,z6o I _ _ _ (λj Y hY m σ hI QB hQB hQR=> ?_) (λm σ hI=> ?_) h0⟩
 ·obtain⟨hj,rfl⟩:=z4j hY
  obtain⟨m',p,w⟩:=z2D (k:=λm=>W F n QB (b.1.c []) [] m [] σ) (BF h4.1) (hb1 j hj m σ hI QB (λm σ h=>hQB m σ trivial h) hQR)
  exact z0w p (z6t (gS hb h4.2 ho) w) (.inl ho)
 ·rw[z00] at hI;exact⟨n,he m σ hI⟩⟩
noncomputable def T.forL(a:T)(i:Nat)(y:Str)(q2:Pos)(b:T)(p:Pos):T:=⟨d1 (.For (.Name y q2) a.1.ex b.1.sts [] p) (λF=>okE F a.1&&(z5j a.1.ex&&(F.vars[i]? ==some y&&okS F b.1))) λc=>a.1.c (.forL i (b.1.c [])::c),λF H K h ho Q c r m s σ w=>z4q (z0W ((gE (a.2 F H K) (z0a h).1 _ _ _ _ _ _ w).mono λX σ₁ w=>by obtain⟨n,w⟩:=w.step;exact z7k (B2.out w) λY QB m σ w=>y1g (z0a (z0a (z0a h).2).2).1 (gS (b.2 F H K) (z0a (z0a (z0a h).2).2).2) ho w)) (z4T (z0a (z0a h).2).1)⟩
noncomputable def T.forL2(a:T)(i j:Nat)(y z:Str)(q2 q3:Pos)(k:Nat)(u:Pos)(b:T)(p:Pos):T:=⟨d1 (.For (.Tuple [.Name y q2,.Name z q3] k u) a.1.ex b.1.sts [] p) (λF=>okE F a.1&&(z5j a.1.ex&&(F.vars[i]? ==some y&&(F.vars[j]? ==some z&&okS F b.1)))) λc=>a.1.c (.forL2 i j (b.1.c [])::c),λF H K h ho Q c r m s σ w=>z4q (z0W ((gE (a.2 F H K) (z0a h).1 _ _ _ _ _ _ w).mono λX σ₁ w=>by obtain⟨n,w⟩:=w.step;exact z7k (B2.out w) λY QB m σ w=>y3k (z0a (z0a (z0a h).2).2).1 (z0a (z0a (z0a (z0a h).2).2).2).1 (gS (b.2 F H K) (z0a (z0a (z0a (z0a h).2).2).2).2) ho w)) (z4T (z0a (z0a h).2).1)⟩
noncomputable def T.forDS(a:T)(i:Nat)(y:Str)(q2:Pos)(b:T)(p:Pos):T:=⟨d1 (.For (.Name y q2) a.1.ex b.1.sts [] p) (λF=>okE F a.1&&(z5j a.1.ex&&(F.vars[i]? ==some y&&okS F b.1))) λc=>a.1.c (.forDS i (b.1.c [])::c),λF H K=>by
 have ha:=a.2 F H K
 have hb:=b.2 F H K
 refineλh ho Q c r m s σ w=> ?_
 have h1:=z0a h
 have h2:=z0a h1.2
 have h3:=z0a h2.2
 exact z81 (KK.str F.C.prog F.C.w) ho (z4T h2.1) (gS hb h3.2 ho) (BF h3.1) ((gE ha h1.1 _ _ _ _ _ _ w).mono λX σ₁ w=>by obtain⟨n,w⟩:=w.step;exact⟨n,B2.out w⟩)⟩
noncomputable def T.forDI(a:T)(i:Nat)(y:Str)(q2:Pos)(b:T)(p:Pos):T:=⟨d1 (.For (.Name y q2) a.1.ex b.1.sts [] p) (λF=>okE F a.1&&(z5j a.1.ex&&(F.vars[i]? ==some y&&okS F b.1))) λc=>a.1.c (.forDI i (b.1.c [])::c),λF H K=>by
 have ha:=a.2 F H K
 have hb:=b.2 F H K
 refineλh ho Q c r m s σ w=> ?_
 have h1:=z0a h
 have h2:=z0a h1.2
 have h3:=z0a h2.2
 exact z81 (KK.int F.C.prog F.C.w) ho (z4T h2.1) (gS hb h3.2 ho) (BF h3.1) ((gE ha h1.1 _ _ _ _ _ _ w).mono λX σ₁ w=>by obtain⟨n,w⟩:=w.step;exact⟨n,B2.out w⟩)⟩
noncomputable def T.forV(f:Nat)(x:Str)(q:Pos)(a:T)(u:Pos)(i:Nat)(y:Str)(q2:Pos)(b:T)(p:Pos):T:=⟨d1 (.For (.Name y q2) (.Call (.Name x q) [a.1.ex] [] u) b.1.sts [] p) (λF=>okE F a.1&&(z3A a.1.ex&&((x==("reversed":Str))&&(y0Z "reversed" x F.gl[f]? &&(F.vars[i]? ==some y&&okS F b.1))))) λc=>a.1.c (.forV i (b.1.c [])::c),λF H K=>by
 have ha:=a.2 F H K
 have hb:=b.2 F H K
 refineλh ho Q c r m s σ w=> ?_
 have h3:=z0a (z0a (z0a h).2).2
 have h5:=z0a (z0a h3.2).2
 obtain rfl:=BF h3.1
 exact z4q (y3r (z1j (Ak (z3N (z0a h3.2).1)) ⟨rfl,z0c ((gE ha (z0a h).1 _ _ _ _ _ _ w).mono λX σ₁ w=>z0e (by obtain⟨n,w⟩:=w.step;exact z7j (B2.out w) λY QB m σ w=>y1g h5.1 (gS hb h5.2) ho w)) (z1b (z0a (z0a h).2).1)⟩) (z1b (z0a (z0a h).2).1) rfl) (λ_=>rfl)⟩
noncomputable def T.forE(f:Nat)(x:Str)(q:Pos)(a:T)(u:Pos)(i j:Nat)(y z:Str)(q2 q3:Pos)(k:Nat)(v:Pos)(b:T)(p:Pos):T:=⟨d1 (.For (.Tuple [.Name y q2,.Name z q3] k v) (.Call (.Name x q) [a.1.ex] [] u) b.1.sts [] p) (λF=>okE F a.1&&(z3A a.1.ex&&((x==("enumerate":Str))&&(y0Z "enumerate" x F.gl[f]? &&(F.vars[i]? ==some y&&(F.vars[j]? ==some z&&okS F b.1)))))) λc=>a.1.c (.forE i j (b.1.c [])::c),λF H K=>by
 have ha:=a.2 F H K
 have hb:=b.2 F H K
 refineλh ho Q c r m s σ w=> ?_
 have h3:=z0a (z0a (z0a h).2).2
 have h5:=z0a (z0a h3.2).2
 obtain rfl:=BF h3.1
 exact z4q (y1L (z1j (Ak (z3N (z0a h3.2).1)) ⟨rfl,z0c ((gE ha (z0a h).1 _ _ _ _ _ _ w).mono λX σ₁ w=>z0e (by obtain⟨n,w⟩:=w.step;exact z7j (B2.out w) λY QB m σ w=>y3k h5.1 (z0a h5.2).1 (gS hb (z0a h5.2).2) ho w)) (z1b (z0a (z0a h).2).1)⟩) (z1b (z0a (z0a h).2).1) rfl) (λ_=>rfl)⟩
noncomputable def T.done:T:=⟨dS1 [] (λ_=>true) λc=>c,λF H K _ _ Q c r m s σ w=>y24 w⟩
noncomputable def T.seq(t u:T):T:=⟨dS1 (t.1.st::u.1.sts) (λF=>ok1 F t.1&&okS F u.1) λc=>t.1.c (u.1.c c),λF H K h ho Q c r m s σ w=>z2W ((g1 (t.2 F H K) (z0a h).1 ho _ _ _ _ _ _ w).mono (z5a λm σ w=>gS (u.2 F H K) (z0a h).2 ho _ _ _ _ _ _ w))⟩
noncomputable def T.cut(t r':T):T:=⟨dS1 (t.1.st::r'.1.sts) (λF=>ok1 F t.1&&okS F r'.1) λc=> .cut (t.1.c [])::r'.1.c c,λF H K=>by
 have hs:=t.2 F H K
 have hr:=r'.2 F H K
 refineλh ho Q c r m s σ w=> ?_
 obtain⟨n,w⟩:=WE.step w
 obtain⟨I,w1,w2⟩:=B2.out w
 refine z2W ((g1 hs (z0a h).1 ho _ _ _ _ _ _ ⟨n,w1 (z11 I (z11 (λm σ=>WE F Q c r m s σ) Q)) (λm σ h=>h) λf m σ hn q=> ?_⟩).mono λf m σ q=> ?_)
 ·cases f with
  |next=>exact(hn rfl).elim
  |brk=>exact q
  |cont=>exact q
  |ret x=>exact q
 ·cases f with
  |next=>exact gS hr (z0a h).2 ho _ _ _ _ _ _ ⟨n,w2 m σ (WE.fin q)⟩
  |brk=>exact q
  |cont=>exact q
  |ret x=>exact q⟩
noncomputable def T.dseq(t r:T):T:=⟨dS1 (t.1.st::r.1.sts) (λF=>ok1 F t.1&&okS F r.1) λc=>t.1.c (.drp::r.1.c c),λF H K=>by
 have hs:=t.2 F H K
 have hr:=r.2 F H K
 refineλh ho Q c r m s σ w=>z2W ((g1 hs (z0a h).1 ho _ _ _ _ _ _ w).mono (z5a λm σ w=> ?_))
 obtain⟨n,w⟩:=w.step
 obtain⟨τ,hs,w⟩:=B2.out w
 exactλA G D s hA R=>gS hr (z0a h).2 ho _ _ _ _ _ _ ⟨n,w⟩ A G D s hA (R.drop hs)⟩
abbrev RR:=T×List C8
noncomputable def hd(k:RR):Nat×Nat×Nat×Nat×List C8×List C8×V:=inf (k.2.headD .slc)
noncomputable def ik(k:RR)(n:Nat):Bool:=Nat.beq (hd k).1 n
noncomputable def on(k:RR)(t:T):RR:=(t,k.2.tail)
noncomputable def n1(k:RR):Nat:=(hd k).2.1
noncomputable def n2(k:RR):Nat:=(hd k).2.2.1
noncomputable def bl(k:RR):List C8:=(hd k).2.2.2.2.1
noncomputable def vl(k:RR):V:=(hd k).2.2.2.2.2.2
noncomputable def biS(X:V):String:=(vK X).2.2.2
noncomputable def rfN(X:V):Nat:=(vK X).2.1.toNat
noncomputable def tkN:Nat->TK
 |0=> .str|1=> .int|2=> .bool|3=> .tup|4=> .lst|_=> .dct
noncomputable def y5c(e:Expr)(k:RR):Bool:=ik k 29&&e.pos==⟨n1 k,n2 k,e.pos.endLine,(hd k).2.2.2.1⟩
noncomputable def rdL(f:Expr->RR->RR):List Expr->RR->RR
 |[],k=>(.nil,k.2)
 |x::xs,k=>(.cons (f x k).1 (rdL f xs (f x k)).1,(rdL f xs (f x k)).2)
noncomputable def rdV(f:Expr->RR->RR):List Expr->RR->RR
 |[],k=>k
 |x::xs,k=>cond xs.isEmpty (.cons (f x k).1 .nil,(f x k).2) (on (f x k) (.cons (f x k).1 (rdV f xs (.no,bl (f x k))).1))
noncomputable def rdM(f:Expr->RR->RR):List Expr->RR->RR
 |[],k=>on k .bnil
 |x::xs,k=>on (f x k) (.bcons (f x k).1 (rdM f xs (.no,bl (f x k))).1)
noncomputable def rdO(f:Expr->RR->RR)(e:Option Expr)(k:RR):RR:=match e with
 |some e=>f e k
 |none=>on k .no
noncomputable def rdE(gl:LV):Nat->Expr->RR->RR
 |0,_,k=>k
 |n+1,e,k=>cond (y5c e k) (on k (.raw e))<|let f:=rdE gl n;let ix:=λx:Str=>gl.findIdx λy=>y.1==x;match e with
  | .Name x p=>on k (cond (ik k 1) (.L (n1 k) x p) (.glb (ix x) (vl k) x p))
  | .Constant c u p=>on k (.con c u p)
  | .Subscript a b p=>cond (ik (f a k) 3) (on (f a k) (.S (f a k).1 (n1 (f a k)) (cnK b) b.pos p)) (on (f b (f a k)) (.sub (f a k).1 (f b (f a k)).1 p))
  | .BinOp a o b p=>on (f b (f a k)) (.B o (f a k).1 (f b (f a k)).1 p)
  | .Compare a os cs p=>let B:=f (cs.headD e) (f a k);let o:=os.headD .Eq;on B (cond (ik B 8) (.cmp2 o (os.tail.headD .Eq) (f a k).1 B.1 (f (cs.tail.headD e) (.no,bl B)).1 p) (.G o (f a k).1 B.1 p))
  | .UnaryOp o a p=>on (f a k) (.una o (f a k).1 p)
  | .BoolOp o es p=>(.vbo o (rdV f es k).1 p,(rdV f es k).2)
  | .Tuple es u p=>on (rdL f es k) (.tup (rdL f es k).1 u p)
  | .List es p=>on (rdL f es k) (.lst (rdL f es k).1 p)
  | .Dict _ _ p=>on k (.dic p)
  | .Slice a b c p=>let A:=rdO f a k;let B:=rdO f b A;let C:=rdO f c B;on C (.slc A.1 B.1 C.1 p)
  | .Attribute a x p=>on (f a k) (.att (n1 (f a k)) (f a k).1 x p)
  | .Call g es _ p=>let x:=nm g;let A:=f (es.headD g) k;let L:=rdL f es k;let B:=f (lsE g).2.2.2.1 k;let M:=rdL f es (on B .no)
   cond (isK g 23) (cond (!es.isEmpty&&ik A 9) (let y:=nm (es.tail.headD e);on A (.Q (ix x.1) (ix y.1) (tkN (n1 A)) x.1 y.1 x.2 y.2 A.1 p)) (cond (!es.isEmpty&&ik A 10) (on A (.len (ix x.1) x.1 x.2 A.1 p)) (on L (.call (ix x.1) (vl L) x.1 x.2 L.1 p)))) (on M (cond (ik B 11) (.H (biS (vl B)) (biS (vl M)) B.1 x.1 x.2 M.1 p) (.methI (n1 B) (rfN (vl M)) B.1 x.1 x.2 M.1 p)))
  |_=>k
noncomputable def rdB(f:Expr->RR->RR):Nat->Expr->RR->RR
 |0,_,k=>k
 |n+1,e,k=>let D:=on (f e k) (.bvalc (f e k).1);match e with
  | .Name _ _| .Constant _ _ _| .Subscript _ _ _| .BinOp _ _ _ _=>D
  | .Compare a os cs p=>let B:=f (cs.headD e) (f a k);let o:=os.headD .Eq;on B (cond (ik B 15) (.bcmp2 o (os.tail.headD .Eq) (f a k).1 B.1 (f (cs.tail.headD e) (.no,bl B)).1 p) (cond (ik B 14) (.bcmp o (f a k).1 B.1 p) (.bcmpc o (f a k).1 B.1 p)))
  | .UnaryOp _ a p=>let A:=rdB f n a k;on A (.bnot A.1 p)
  | .BoolOp o es p=>(.bbo o (rdM (rdB f n) es k).1 p,(rdM (rdB f n) es k).2)
  | .Tuple _ _ _| .List _ _| .Dict _ _ _| .Slice _ _ _ _| .Attribute _ _ _| .Call _ _ _ _|_=>D
noncomputable def rdR(f:Stmt->RR->RR):List Stmt->RR->RR
 |[],k=>(.done,k.2)
 |s::ss,k=>cond (ik k 28) (let A:=f s (.no,bl k);let B:=rdR f ss (on k .no);(.cut A.1 B.1,B.2)) (let A:=f s k;cond (ik A 27) (let B:=rdR f ss (on A .no);(.dseq A.1 B.1,B.2)) (let B:=rdR f ss A;(.seq A.1 B.1,B.2)))
noncomputable def rdS(f g:Expr->RR->RR)(gl:LV):Nat->Stmt->RR->RR
 |0,_,k=>k
 |n+1,s,k=>cond (ik k 13) (on k (.X s))<|let R:=λss l=>(rdR (rdS f g gl n) ss (.no,l)).1;let ix:=λx:Str=>gl.findIdx λy=>y.1==x;match s with
  | .Assign ts e p=>let A:=f e k;let T:=ts.headD e;let v:=nm T;let l:=lsE T;let x:=nm (l.1.headD e);let y:=nm (l.1.tail.headD e);let z:=nm (l.1.tail.tail.headD e);let B:=f (l.2.2.2.2.headD e) A;let C:=f (l.2.2.2.2.tail.headD e) B
   cond (isK T 23) (cond (ik k 17) (on k (.asgL (n1 k) v.1 v.2 e.pos p)) (cond (ik k 18) (on k (.asgD (n1 k) v.1 v.2 e.pos p)) (on A (.A (n1 A) v.1 v.2 A.1 p)))) (cond (isK T 25) (on A (.asg2 (n1 A) (n2 A) x.1 y.1 x.2 y.2 l.2.1 l.2.2.1 A.1 p)) (on C (.setI A.1 B.1 C.1 T.pos p)))
  | .Return o p=>on (rdO f o k) (.ret (rdO f o k).1 p)
  | .Expr e p=>on (f e k) (.exp (f e k).1 p)
  | .If c a b p=>let A:=g c k;on A (.I A.1 (R a (bl A)) (R b (hd A).2.2.2.2.2.1) p)
  | .For t it b _ p=>let c:=lsE it;let x:=nm c.2.2.2.1;let A:=f (c.1.headD it) k;let B:=f it k;let y:=nm t;let ys:=lsE t;let v:=nm (ys.1.headD it);let w:=nm (ys.1.tail.headD it)
   cond (ik A 20) (on A (.forR (ix x.1) x.1 x.2 A.1 c.2.2.1 (n1 A) y.1 y.2 (R b (bl A)) p))
   (cond (ik A 21) (on A (.forV (ix x.1) x.1 x.2 A.1 c.2.2.1 (n1 A) y.1 y.2 (R b (bl A)) p))
   (cond (ik A 22) (on A (.forE (ix x.1) x.1 x.2 A.1 c.2.2.1 (n1 A) (n2 A) v.1 w.1 v.2 w.2 ys.2.1 ys.2.2.1 (R b (bl A)) p))
   (on B (cond (ik B 23) (.forL B.1 (n1 B) y.1 y.2 (R b (bl B)) p) (cond (ik B 24) (.forL2 B.1 (n1 B) (n2 B) v.1 w.1 v.2 w.2 ys.2.1 ys.2.2.1 (R b (bl B)) p) (cond (ik B 25) (.forDS B.1 (n1 B) y.1 y.2 (R b (bl B)) p) (.forDI B.1 (n1 B) y.1 y.2 (R b (bl B)) p)))))))
  | .While _ _ _ _=>k
  |_=>k
noncomputable def rdT(gl:LV)(k:List C8)(ss:List Stmt):T:=(rdR (rdS (rdE gl 30) (rdB (rdE gl 30) 30) gl 30) ss (.no,k)).1
theorem y2T{C:Cx}[HM C]{η:Env}{ν:List Str}{gl:LV}{d:Nat}{fns:List Nat}{ml:List (Nat×Str×Nat)}{al:List (Nat×Str)}(hf:∀a∈fns,z1g C (.ref a))(hm:(∀q∈ml,∃K,B3 C K q.1 q.2.1 q.2.2)/\∀q∈al,∃K,F1 C K q.1 q.2)(t:TC){ss:List Stmt}(_:allK t.p ss λl=>l=t.r)
  (ok:(okS ⟨C,η,ν,gl,true,d,fns,ml,al⟩ (rdT gl t.k ss).1,(rdT gl t.k ss).1.sts,(rdT gl t.k ss).1.c [])=(true,ss,t.k))
  {m:Loc} {σ:Sto} {Q:FP} (w:let F:Fx:=⟨C,η,ν,gl,true,d,fns,ml,al⟩;let m':=m;W F 3000 Q t.k [] m' [] σ):AS C η ν gl true d (execs ss η) m σ Q:=by
 have h1:=congrArg (·.1) ok
 have h2:(rdT gl t.k ss).1.sts=ss:=congrArg (·.2.1) ok
 have h3:(rdT gl t.k ss).1.c []=t.k:=congrArg (·.2.2) ok
 have g:=gS ((rdT gl t.k ss).2 ⟨C,η,ν,gl,true,d,fns,ml,al⟩ ‹HM C› ⟨hf,hm⟩) h1 rfl Q [] [] m [] σ ⟨3000,by rw[h3];exact w⟩
 rw[h2] at g
 refine AS.mono g λf m σ q=> ?_
 cases f with
 |next=>exact WE.fin q
 |brk=>exact q
 |cont=>exact q
 |ret x=>exact q
theorem z2n{A:(FP)->Prop}{B:Loc->Sto->Prop}{Q:FP}{α:Type}(P:α->Prop)(m1:α->Loc)(σ1:Sto)(h1:∀K:FP,(∀x,P x->K .next (m1 x) σ1)->(∀f m σ,(f= .next->False)->Q f m σ->K f m σ)->A K)(h2:∀x,P x->B (m1 x) σ1):
  B2 (∃I:Loc->Sto->Prop,(∀K:FP,(∀m σ,I m σ->K .next m σ)->(∀f m σ,(f= .next->False)->Q f m σ->K f m σ)->A K)/\∀m σ,I m σ->B m σ):=
 ⟨λm σ=>∃x,P x/\m=m1 x/\σ=σ1,λK hK hR=>h1 K (λx hx=>hK _ _ ⟨x,hx,rfl,rfl⟩) hR,λm σ h=>by obtain⟨x,hx,rfl,rfl⟩:=h;exact h2 x hx⟩
theorem y29{A:(FP)->Prop}{B:Loc->Sto->Prop}{Q:FP}{α:Type}(P:α->Prop)(m1:α->Loc)(σ1:α->Sto)(h1:∀K:FP,(∀x,P x->K .next (m1 x) (σ1 x))->(∀f m σ,(f= .next->False)->Q f m σ->K f m σ)->A K)(h2:∀x,P x->B (m1 x) (σ1 x)):
  B2 (∃I:Loc->Sto->Prop,(∀K:FP,(∀m σ,I m σ->K .next m σ)->(∀f m σ,(f= .next->False)->Q f m σ->K f m σ)->A K)/\∀m σ,I m σ->B m σ):=
 ⟨λm σ=>∃x,P x/\m=m1 x/\σ=σ1 x,λK hK hR=>h1 K (λx hx=>hK _ _ ⟨x,hx,rfl,rfl⟩) hR,λm σ h=>by obtain⟨x,hx,rfl,rfl⟩:=h;exact h2 x hx⟩
theorem z8T{A:(FP)->Prop}{B:Loc->Sto->Prop}{Q:FP}(m1:Loc)(σ1:Sto)(h1:∀K:FP,K .next m1 σ1->(∀f m σ,(f= .next->False)->Q f m σ->K f m σ)->A K)(h2:B m1 σ1):
  B2 (∃I:Loc->Sto->Prop,(∀K:FP,(∀m σ,I m σ->K .next m σ)->(∀f m σ,(f= .next->False)->Q f m σ->K f m σ)->A K)/\∀m σ,I m σ->B m σ):=
 ⟨λm σ=>m=m1/\σ=σ1,λK hK hR=>h1 K (hK _ _ ⟨rfl,rfl⟩) hR,λm σ h=>by obtain⟨rfl,rfl⟩:=h;exact h2⟩
end
def Asc(x:Str):Prop:=x.length<=100/\∀c∈x.cps.toList,c<128
class inductive Dn (σ:Sto):Nat->V->V->Prop
 |none {n:Nat}:Dn σ n .none .none
 |bool {n:Nat} (b:Bool):Dn σ n (.bool b) (.bool b)
 |int {n:Nat} (i:Int):Dn σ n (.int i) (.int i)
 |str {n:Nat} (x:Str):Asc x->Dn σ n (.str x) (.str x)
 |dict {n:Nat} {a:Addr}:At σ a (.dict [])->Dn σ n (.ref a) (.ref a)
 |tup {n:Nat} {xs ys:List V}:xs.length=ys.length->xs.length<=200->(∀(j:Nat) X Y,xs[j]? =some X->ys[j]? =some Y->Dn σ n X Y)->Dn σ (n+1) (.tup xs) (.tup ys)
 |lst {n:Nat} {xs ys:List V}:xs.length=ys.length->xs.length<=200->(∀(j:Nat) X Y,xs[j]? =some X->ys[j]? =some Y->Dn σ n X Y)->Dn σ (n+1) (.lst xs) (.lst ys)
 |ref {n:Nat} {a:Addr} {xs ys:List V}:At σ a (.list xs)->xs.length=ys.length->xs.length<=200->(∀(j:Nat) X Y,xs[j]? =some X->ys[j]? =some Y->Dn σ n X Y)->Dn σ (n+1) (.ref a) (.lst ys)
section
variable {C:Cx} {d:Nat} {σ σ':Sto} {Q:VP} {v t:V} {n m:Nat}
theorem Dn.eq(h:Dn σ n v t):EqV C σ n v t:=by
 induction h with
 |none=>exact EqV.none.le
 |bool b=>exact EqV.bool.le
 |int i=>exact EqV.int.le
 |str x hx=>exact EqV.str.le
 |dict ha=>exact EqV.ref.le
 |tup a _ _ ih=>exact EqV.tup a ih
 |lst a _ _ ih=>exact EqV.list (.lst _) (.lst _) a ih
 |ref ha a _ _ ih=>obtain⟨o,ha⟩:=ha;exact EqV.list (.refL ha) (.lst _) a ih
theorem z7Z(hs:z0J C)(h:Dn σ n v t)(hn:n<=60)(q:Q (.bool false) σ):AC2 C d (compareOp .NotEq) v t σ Q:=by
 cases h with
 |none=>exact z98 .none .none rfl rfl q
 |bool b=>exact z98 (.bool b) (.bool b) rfl rfl (by cases b<;>exact q)
 |int i=>exact y4B (by rw[AE rfl];exact q)
 |str x hx=>exact z8A (by rw[show(x !=x)=false by simp];exact q)
 |dict ha=>exact y4C (KK.str C.prog C.w) (kvs:=[]) hs ha Aw ha q
 |tup a _ h=>exact y3E a (λj X Y h1 h2=>(h j X Y h1 h2).eq) (Nat.le_of_succ_le hn) q
 |lst a _ h=>exact z70 (.lst _) (.lst _) a (λj X Y h1 h2=>(h j X Y h1 h2).eq) (Nat.le_of_succ_le hn) q
 |ref ha a _ h=>obtain⟨o,ha⟩:=ha;exact z70 (.refL ha) (.lst _) a (λj X Y h1 h2=>(h j X Y h1 h2).eq) (Nat.le_of_succ_le hn) q
noncomputable def tkB(t:V)(k:TK):Bool:=match tkOf t with
 |some (some j)=>j.is k
 |some none=>false
 |none=>TK.dct.is k
theorem y2m{x:V}{P:Sto->Prop}(h:A8 σ x (.dict []) P){k:TK}(q:Q (.bool (TK.dct.is k)) σ):KW C d (.bi "isinstance") [x,.type k.n] σ Q:=y01 h q
theorem z3O{x:V}{xs:List V}{P:Sto->Prop}(h:A8 σ x (.list xs) P){k:TK}(q:Q (.bool (TK.lst.is k)) σ):KW C d (.bi "isinstance") [x,.type k.n] σ Q:=y02 h q
theorem y4G(h:Dn σ n v t){k:TK}(q:Q (.bool (tkB t k)) σ):KW C d (.bi "isinstance") [v,.type k.n] σ Q:=by
 cases h with
 |none=>exact z3y (b:=false) rfl q
 |bool b=>exact z3y rfl q
 |int i=>exact z3y rfl q
 |str x hx=>exact z3y rfl q
 |dict ha=>obtain⟨o,ha⟩:=ha;exact y2m (.refD ha) q
 |tup a _ h=>exact z3y rfl q
 |lst a _ h=>exact z3y rfl q
 |ref ha a _ h=>obtain⟨o,ha⟩:=ha;exact z3O (.refL ha) q
theorem Dn.strI(h:Dn σ n v t):tkB t .str=true->∃x,v= .str x/\t= .str x/\Asc x:=
 h.casesOn (motive:=λ_ v t _=>tkB t .str=true->∃x,v= .str x/\t= .str x/\Asc x)
  (λk=>ff k) (λ_ k=>ff k) (λ_ k=>ff k) (λ_ hx _=>⟨_,rfl,rfl,hx⟩) (λ_ k=>ff k) (λ_ _ _ k=>ff k) (λ_ _ _ k=>ff k) (λ_ _ _ _ k=>ff k)
end
section
variable {C:Cx} {η:Env} {ν:List Str} {gl:LV} {own:Bool} {d:Nat} {m:Loc} {σ:Sto} {Q:VP}
noncomputable def isN:Value->Bool
 | .none=>true
 |_=>false
theorem y2j{w:World}{D:Gh}:∀{vs:List Value} {xs:List V},A6 w D vs xs->(∀X∈xs,X= .none∨∃l,X= .tup l)->vs.any isN=xs.any V.isNone:=λ{vs}=>by
 induction vs with
 |nil=>intro xs h _;cases h;rfl
 |cons v vs ih=>
  intro xs h hk
  cases h with
  | @cons _ X _ xs a b=>
   rw[List.any_cons,List.any_cons,ih b λX hX=>hk X (.tail _ hX)]
   congr 1
   rcases hk _ (.head _) with rfl|⟨l,rfl⟩
   ·rw[a.noneI];rfl
   ·obtain⟨_,_,_,_,rfl,_⟩:=a.tupI;rfl
theorem z96{x:V}{xs:List V}{P:Sto->Prop}(h:A8 σ x (.list xs) P)(hk:∀X∈xs,X= .none∨∃l,X= .tup l)(q:Q (.bool (xs.any V.isNone)) σ):AC2 C d (compareOp .In) .none x σ Q:=λA G D s v u hA R hv hu=>by
 apply A8.isListE h R hu;intro a ws n ho hr
 rw[hv.noneI]
 refine SeqAt.in_listAt isN ⟨_,ho,rfl,n,rfl⟩ (λy hy=> ?_) (A0.now R (.bool _) ?_)
 ·obtain⟨j,hj,rfl⟩:=Array.mem_iff_getElem.mp hy
  obtain⟨X,eX,rX⟩:=hr.get' (i:=j) (u:=ws[j]) (by rw[Array.getElem?_toList];exact Array.getElem?_eq_getElem hj)
  rcases hk X (Ak eX) with rfl|⟨l,rfl⟩
  ·rw[rX.noneI];exact .same _
  ·obtain⟨b,us,e,_,hT,_⟩:=VR.isT R rX
   rw[e]
   exact SeqAt.EqAt.tuple_none hT (z5t hA (n:=1) (by decide))
 ·rw[<-Array.any_toList,y2j hr hk];exact q
end
section
set_option genSizeOf false
set_option genInjectivity false
mutual
inductive Tr(σ:Sto):List Addr->V->V->Prop
 |none:Tr σ [] .none .none
 |int (i:Int):Tr σ [] (.int i) (.int i)
 |str (x:Str):Tr σ [] (.str x) (.str x)
 |tup {A:List Addr} {xs ys:List V}:C7 σ A xs ys->Tr σ A (.tup xs) (.tup ys)
 |ref {A:List Addr} {a:Addr} {xs ys:List V}:At σ a (.list xs)->C7 σ A xs ys->Tr σ (A++[a]) (.ref a) (.lst ys)
inductive C7(σ:Sto):List Addr->List V->List V->Prop
 |nil:C7 σ [] [] []
 |cons {A B:List Addr} {x y:V} {xs ys:List V}:Tr σ A x y->C7 σ B xs ys->C7 σ (A++B) (x::xs) (y::ys)
end
section
variable {C:Cx} {d:Nat} {σ σ':Sto} {Q:VP} {v t:V} {A B:List Addr} {xs ys:List V}
noncomputable def Tr.I(σ:Sto)(A:List Addr)(v:V):V->Prop
 | .none=>v= .none/\A=[]
 | .int i=>v= .int i/\A=[]
 | .str x=>v= .str x/\A=[]
 | .tup ys=>∃xs,v= .tup xs/\C7 σ A xs ys
 | .lst ys=>∃a xs B,v= .ref a/\A=B++[a]/\At σ a (.list xs)/\C7 σ B xs ys
 |_=>False
theorem Tr.inv(h:Tr σ A v t):Tr.I σ A v t:=
 h.casesOn (motive_1:=λA v t _=>Tr.I σ A v t) ⟨rfl,rfl⟩ (λ_=>⟨rfl,rfl⟩) (λ_=>⟨rfl,rfl⟩) (λh=>⟨_,rfl,h⟩) λa h=>⟨_,_,_,rfl,rfl,a,h⟩
noncomputable def C7.I(σ:Sto)(A:List Addr)(xs:List V):List V->Prop
 |[]=>xs=[]/\A=[]
 |y::ys=>∃x zs B D,xs=x::zs/\A=B++D/\Tr σ B x y/\C7 σ D zs ys
theorem C7.inv(h:C7 σ A xs ys):C7.I σ A xs ys:=
 h.casesOn (motive_2:=λA v t _=>C7.I σ A v t) ⟨rfl,rfl⟩ λa b=>⟨_,_,_,_,rfl,rfl,a,b⟩
theorem Tr.mono(h:Tr σ A v t):(∀a∈A,∀x,At σ a x->At σ' a x)->Tr σ' A v t:=
 Tr.rec (motive_1:=λA v t _=>(∀a∈A,∀x,At σ a x->At σ' a x)->Tr σ' A v t) (motive_2:=λA v t _=>(∀a∈A,∀x,At σ a x->At σ' a x)->C7 σ' A v t)
  (λ_=> .none) (λi _=> .int i) (λx _=> .str x) (λ_ ih k=> .tup (ih k)) (λha _ ih k=> .ref (k _ (Aj _ (.head _)) _ ha) (ih λa h=>k a (Ai _ h)))
  (λ_=> .nil) (λ_ _ i1 i2 k=> .cons (i1 λa h=>k a (Ai _ h)) (i2 λa h=>k a (Aj _ h))) h
theorem C7.mono(h:C7 σ A xs ys)(k:∀a∈A,∀x,At σ a x->At σ' a x):C7 σ' A xs ys:=by
 obtain⟨zs,e,h'⟩:=((Tr.tup h).mono k).inv
 cases e;exact h'
theorem Tr.at(h:Tr σ A v t):∀a∈A,∃xs,At σ a (.list xs):=
 Tr.rec (motive_1:=λA v t _=>∀a∈A,∃xs,At σ a (.list xs)) (motive_2:=λA v t _=>∀a∈A,∃xs,At σ a (.list xs))
  (λ_ h=>nomatch h) (λ_ _ h=>nomatch h) (λ_ _ h=>nomatch h) (λ_ ih=>ih) (λha _ ih a h=>by
   rcases Ad.mp h with h|h
   ·exact ih a h
   ·rw[Af.mp h];exact⟨_,ha⟩)
  (λ_ h=>nomatch h) (λ_ _ i1 i2 a h=>by
   rcases Ad.mp h with h|h
   ·exact i1 a h
   ·exact i2 a h) h
theorem C7.at(h:C7 σ A xs ys):∀a∈A,∃xs,At σ a (.list xs):=(Tr.tup h).at
theorem C7.app{xs' ys':List V}(h':C7 σ B xs' ys'):∀{ys xs A},C7 σ A xs ys->C7 σ (A++B) (xs++xs') (ys++ys')
 |[],xs,A,h=>by obtain⟨rfl,rfl⟩:=h.inv;exact h'
 |y::ys,xs,A,h=>by
  obtain⟨x,zs,B',D,rfl,rfl,h1,h2⟩:=h.inv
  rw[Ao];exact .cons h1 (C7.app h' h2)
theorem C7.one(h:Tr σ A v t):C7 σ A [v] [t]:=by
 have:=C7.cons h .nil
 rw[Az] at this;exact this
theorem C7.len:∀{ys xs A},C7 σ A xs ys->xs.length=ys.length
 |[],xs,A,h=>by obtain⟨rfl,_⟩:=h.inv;rfl
 |y::ys,xs,A,h=>by
  obtain⟨x,zs,B',D,rfl,_,_,h2⟩:=h.inv
  exact congrArg (·+1) h2.len
theorem Tr.dat:∀{ys:List V},(∀y∈ys,(∃i,y= .int i)∨∃x,y= .str x)->C7 σ [] ys ys
 |[],_=> .nil
 |y::ys,h=>by
  have h2:=Tr.dat λz hz=>h z (.tail _ hz)
  rcases h y (.head _) with⟨i,rfl⟩|⟨x,rfl⟩
  ·exact .cons (.int i) h2
  ·exact .cons (.str x) h2
theorem C7.flat:∀{ys:List V},(∀y∈ys,Tr σ [] y y)->C7 σ [] ys ys
 |[],_=> .nil
 |y::ys,h=> .cons (h y (.head _)) (C7.flat λz hz=>h z (.tail _ hz))
end
inductive Res(σ:Sto)(t v:V)(σ':Sto):Prop
 |mk (A:List Addr):(∀p∈σ,p∈σ')->A.Nodup->(∀a∈A,A4 σ a)->Tr σ' A v t->Res σ t v σ'
section
variable {C:Cx} {η:Env} {ν:List Str} {gl:LV} {own:Bool} {d:Nat} {m:Loc} {σ σ' τ:Sto} {Q:VP} {G D D':Gh} {s s':Shared} {f:Addr} {xs:List V}
theorem z6y{a:Addr}:∀{σ:Sto},a∈A5 σ->∃p∈σ,a∈z0z p.1 p.2.2
 |[],h=>by cases h
 |p::σ,h=>by
  rcases Ad.mp (show a∈z0z p.1 p.2.2++A5 σ from h) with h|h
  ·exact⟨p,.head _,h⟩
  ·obtain⟨q,h1,h2⟩:=z6y h;exact⟨q,.tail _ h1,h2⟩
theorem foot_one:∀{σ:Sto},(A5 σ).Nodup->∀{a:Addr} {p q:Addr×Obj×AO},p∈σ->q∈σ->a∈z0z p.1 p.2.2->a∈z0z q.1 q.2.2->p=q
 |[],_,_,_,_,h,_,_,_=>by cases h
 |r::σ,hn,a,p,q,h1,h2,k1,k2=>by
  obtain⟨_,hn2,hd⟩:=List.nodup_append.mp (show(z0z r.1 r.2.2++A5 σ).Nodup from hn)
  rcases Ae.mp h1 with e1|m1
  ·rcases Ae.mp h2 with e2|m2
   ·rw[e1,e2]
   ·subst e1;exact absurd rfl (hd _ k1 _ (z06 (ob:=q.2.1) m2 _ k2))
  ·rcases Ae.mp h2 with e2|m2
   ·subst e2;exact absurd rfl (hd _ k2 _ (z06 (ob:=p.2.1) m1 _ k1))
   ·exact foot_one hn2 m1 m2 k1 k2
theorem RelC.part(R:RelC C G D σ' s)(hn:(A5 σ).Nodup)(hk:∀p∈σ,p∈σ'):RelC C G D σ s:=by
 have hf:∀a∈A5 σ,a∈A5 σ':=λa ha=>by
  obtain⟨p,h1,h2⟩:=z6y ha
  exact z06 (ob:=p.2.1) (hk p h1) a h2
 exact⟨R.same,R.bs,R.g,R.d,R.base,hn,λa ha=>R.offG a (hf a ha),λa ha=>R.offD a (hf a ha),λp hp=>R.pl p (hk p hp),λp hp=>R.sto p (hk p hp)⟩
theorem y2U(h:(A5 σ).Nodup->CW C d (.ref f) xs σ Q):CW C d (.ref f) xs σ Q:=λA G D s vs hA R hv=>h R.nd A G D s vs hA R hv
theorem z92(h:CW C d (.ref f) xs σ λv σ'=>(A5 σ').Nodup->Q v σ'):CW C d (.ref f) xs σ Q:=λA G D s vs hA R hv=>
 codeAny_mono (h A G D s vs hA R hv) λr s' q=>by
  cases r with
  |error e=>exact q
  |ok fl=>
   cases fl<;>first|exact q.elim|skip
   obtain⟨x,D',σ',dx,hx,R',q⟩:=q
   exact⟨x,D',σ',dx,hx,R',q R'.nd⟩
theorem y1R(hn:(A5 τ).Nodup)(h:CW C d (.ref f) xs σ λv σ'=>(∀p∈τ,p∈σ')/\Q v τ):CW C d (.ref f) xs σ Q:=λA G D s vs hA R hv=>
 codeAny_mono (h A G D s vs hA R hv) λr s' q=>by
  cases r with
  |error e=>exact q
  |ok fl=>
   cases fl<;>first|exact q.elim|skip
   obtain⟨x,D',σ',dx,hx,R',hk,q⟩:=q
   exact⟨x,D',τ,dx,hx,R'.part hn hk,q⟩
theorem y1Q(h:CW C d (.ref f) xs σ λv σ'=>(∀p∈σ,p∈σ')/\Q v σ):CW C d (.ref f) xs σ Q:=y2U λhn=>y1R hn h
open Classical in
noncomputable def z9G(D:Gh)(A:List Addr)(h:Heap):Gh:=λa=>if a∈A then h.get? a else D a
theorem z9d{A:List Addr}{h:Heap}{a:Addr}(ha:a∈A):z9G D A h a=h.get? a:=by unfold z9G;rw[if_pos ha]
theorem z4R{A:List Addr}{h:Heap}{a:Addr}(ha:a∉A):z9G D A h a=D a:=by unfold z9G;rw[if_neg ha]
theorem Tr.frz{A:List Addr}{v t:V}(R:RelC C G D σ s)(hD:Sub D D')(h:Tr σ A v t):(∀a∈A,D' a=s.heap.get? a)->∀z,VR C.w D z v->VR C.w D' z t:=
 Tr.rec (motive_1:=λA v t _=>(∀a∈A,D' a=s.heap.get? a)->∀z,VR C.w D z v->VR C.w D' z t) (motive_2:=λA v t _=>(∀a∈A,D' a=s.heap.get? a)->∀z,A6 C.w D z v->A6 C.w D' z t)
  (λ_ _ h=>h.mono hD) (λ_ _ _ h=>h.mono hD) (λ_ _ _ h=>h.mono hD) (λ_ ih k z h=>by
   obtain⟨a,o,vs,n,rfl,e,hc,hd,hr⟩:=h.tupI
   exact .tup (hD _ _ e) hc hd (ih k _ hr)) (λ{A a xs ys} ha _ ih k z h=>by
   rw[h.refI]
   obtain⟨o,ha⟩:=ha
   obtain⟨ws,n,rfl,hr⟩:∃ws n,o=z0q ws n/\A6 C.w D ws.toList xs:=R.sto _ ha
   have hp:s.heap.get? a=some (z0q ws n):=R.pl _ ha
   refine .lst (vs:=ws.toList) (n:=n) ?_ (ih (λb hb=>k b (Ai _ hb)) _ hr)
   rw[Array.toArray_toList,k a (Aj _ (.head _))];exact hp)
  (λ_ z h=>by rw[h.nilI];exact .nil) (λ_ _ i1 i2 k z h=>by
   obtain⟨y,r,rfl,h1,h2⟩:=h.consI
   exact .cons (i1 (λa ha=>k a (Ai _ ha)) _ h1) (i2 (λa ha=>k a (Aj _ ha)) _ h2)) h
theorem y3v{t:V}(q:Q t σ)(h:CW C d (.ref f) xs σ (Res σ t)):CW C d (.ref f) xs σ Q:=λA G D s vs hA R hv=>
 codeAny_mono (h A G D s vs hA R hv) λr s' hq=>by
  cases r with
  |error e=>exact hq
  |ok fl=>
   cases fl<;>first|exact hq.elim|skip
   obtain⟨x,D',σ',dx,hx,R',hr⟩:=hq
   obtain⟨A,hk,hn,hf,hT⟩:=hr
   have haf:∀a∈A,a∈A5 σ':=λa ha=>by
    obtain⟨_,o,h⟩:=hT.at a ha
    exact z3h h
   have hsub:Sub D' (z9G D' A s'.heap):=λa o e=>by
    by_cases ha:a∈A
    ·rw[R'.offD a (haf a ha)] at e;cases e
    ·rw[z4R ha];exact e
   have hno:∀a∈A5 σ,a∉A:=λa h1 ha=>by
    obtain⟨p,h2,h3⟩:=z6y h1
    obtain⟨_,o,h4⟩:=hT.at a ha
    have e:=foot_one R'.nd (hk p h2) h4 h3 (z0C _ _)
    exact hf a ha _ h2 (by rw[e])
   have R2:=R'.part R.nd hk
   refine⟨t,z9G D' A s'.heap,σ,dx.trans ⟨hsub,λa e g=> ?_⟩,hT.frz R' hsub (λa ha=>z9d ha) _ hx,⟨R2.same,R2.bs,R2.g,λa o e=> ?_,R2.base,R2.nd,R2.offG,λa ha=> ?_,R2.pl,λp hp=>(R2.sto p hp).mono hsub⟩,q⟩
   ·by_cases ha:a∈A
    ·exact absurd (R'.offG a (haf a ha)) g
    ·rw[z4R ha];exact e
   ·by_cases ha:a∈A
    ·rw[z9d ha] at e;exact e
    ·rw[z4R ha] at e;exact R'.d a o e
   ·rw[z4R (hno a ha)];exact R2.offD a ha
theorem y3t{t:Sem Value}(h:AT C η ν gl own d t m σ λv σ'=>(A5 σ').Nodup->Q v σ'):AT C η ν gl own d t m σ Q:=λA G D s hA R=>
 h.run hA R λv s' x D' σ' a b c hq=>⟨x,D',σ',a,b,c,hq c.toRelC.nd⟩
theorem z71{α:Type}{f g:α->V}{x:Str}{caps:List Str}{elt:Expr}{pp:Pos}{P:Sto->Prop}{Z:List V->Sto->Prop}{ms:Loc}(hk:η.kindOf x=some .local)(hP:P σ)(l:List α):
  ∀(acc:List V) (o:Option V),(∀p∈l,∀K:VP,K (g p) σ->AT C η (x::caps) gl false d (eval elt η) (some (f p)::ms) σ K)->Z (acc++l.map g) σ->
   z0P C η (x::caps) gl d (.Name x pp) elt [] P Z (l.map f) acc (o::ms) σ:=by
 induction l with
 |nil=>intro acc o _ q;simpa[z0P] using q
 |cons p l ih=>
  intro acc o h q
  refine z0w F4.head ?_ (.inr hk)
  refine⟨λ_=>h p (.head _) _ ⟨hP,ih (acc++[g p]) (some (f p)) (λY hY=>h Y (.tail _ hY)) (by simpa using q)⟩,λe=>by cases e⟩
theorem z7g{a:Addr}{o:Obj}{x:AO}(hn:(A5 ((a,o,x)::σ)).Nodup):A4 σ a:=λp hp e=>
 (List.nodup_append.mp (show(z0z a x++A5 σ).Nodup from hn)).2.2 a (z0C _ _) _ (z1X hp) e.symm
end
end
noncomputable abbrev fa(l:List Env):List Addr:=l.filterMap (·.frame)
structure G4(h:Heap)(a T:Addr)(c fl:Value):Prop where
 ne:T≠a
 ex:∃oe vs,h.get? a=some oe/\oe.cls=c/\oe.data= .fields vs/\vs[1]? =some (.ref T)/\vs[2]? =some .none
 tr:∃oT ts,h.get? T=some oT/\oT.data= .fields ts/\ts[3]? =some fl
structure G9(fs xs:List Addr)(h h':Heap):Prop where
 keep:∀b o,h.get? b=some o->b∉fs->b∉xs->h'.get? b=some o
 slot:∀b o,b∈fs->h.get? b=some o->∃sl,h'.get? b=some {o with slots:=sl}
section
variable {M:Model} {A:Around} {E:Value->Shared->Prop} {s:Shared} {η:Env} {outer:List Env} {L a T:Addr} {c:Value} {Q:Unit->Shared->Prop}
def Frs(h:Heap)(l:List Env):Prop:=h.FunFrames {objs:= #[]} l
theorem Frs.at{h:Heap}{l:List Env}(hl:Frs h l){b:Addr}(hb:b∈fa l):∃o,h.get? b=some o/\∀vs,o.data≠ .fields vs:=(hl.mem hb).2
theorem z4S{h:Heap}{l:List Env}(hl:Frs h l){b:Addr}{o:Obj}{vs:Array Value}(e:h.get? b=some o)(hd:o.data= .fields vs):b∉fa l:=λhm=>by
 obtain⟨o',h1,h2⟩:=hl.at hm
 rw[e] at h1;exact h2 vs (Bs h1▸hd)
theorem z6M{h:Heap}{b:Addr}{o:Obj}{vs:Array Value}(e:h.get? b=some o)(hd:o.data= .fields vs)(i:Nat)(v:Value):
  ∃o',(h.update b (Obj.mapFields (·.setIfInBounds i v))).get? b=some o'/\o'.cls=o.cls/\o'.data= .fields (vs.setIfInBounds i v):=
 ⟨_,Heap.get?_update_self _ e (Obj.isFreed_of_fields (Obj.data_mapFields hd _)),Obj.cls_mapFields _ _,Obj.data_mapFields hd _⟩
theorem z5T{oe:Obj}{vs:Array Value}{head:Value}{hn:Bool}(hfr:A.frames=some (η::outer))(hl:Frs s.heap (η::outer))(hf:η.frame=some L)(he:s.heap.get? a=some oe)(hd:oe.data= .fields vs)(hz:1<vs.size)(h2:vs[2]? =some .none)
  (hQ:∀h' T',G4 h' a T' oe.cls (rawInt L)->s.heap.get? T'=none->G9 (fa (η::outer)) [a] s.heap h'->Q () {s with heap:=h'}):
  wpAny M A (do let f <-frameOf η;let pl <-entryPlaceOf L hn;let b <-EntryCells.newEntry head f .none (rawInt L) .none pl;setField (.ref a) 1 b) Q E s:=by
 have hna:=z4S hl he hd
 refine Bx (wpAny_frameOf_fun hfr hl hf λh₁ x₁=>Bx (wpAny_entryPlaceOf λpl hpl=> ?_))
 unfold EntryCells.newEntry newFields
 refine Bx (wpAny_newObj_type ?_ (hpl.sizeOk5 _ _ _ _ _))
 generalize hE:([head,.ref L,.none,rawInt L,.none]++(if pl.isEmpty then List.replicate 6 Value.none else pl)).toArray=es
 have e3:es[3]? =some (rawInt L):=by subst hE;simp
 have e1:h₁.get? a=some oe:=(x₁.2.1 a hna).trans he
 have hTa:h₁.objs.size≠a:=Nat.ne_of_gt (Heap.lt_size e1)
 have e2:=Heap.get?_push_of_some (h:=h₁) {cls:= .type "traceback",dict:=none,data:= .fields es} e1
 refine wpAny_setField e2 hd hz ?_
 obtain⟨o',k1,k2,k3⟩:=z6M e2 hd 1 (.ref h₁.objs.size)
 refine hQ _ h₁.objs.size ⟨hTa,⟨o',_,k1,k2,k3,by simp[hz],by rw[Array.getElem?_setIfInBounds_ne (by decide)];exact h2⟩,⟨{cls:= .type "traceback",dict:=none,data:= .fields es},es,?_,rfl,e3⟩⟩ ?_ ⟨λb o e n n'=> ?_,λb o m e=> ?_⟩
 ·rw[Heap.get?_update_other _ _ (Ne.symm hTa)];exact Heap.get?_push_size h₁ rfl
 ·refine Option.eq_none_iff_forall_not_mem.mpr λo e=> ?_
  have:=Heap.lt_size (show s.heap.get? h₁.objs.size=some o from e)
  rw[x₁.1] at this;exact Nat.lt_irrefl _ this
 ·have hab:a≠b:=λq=>n' (by rw[q];exact .head _)
  rw[Heap.get?_update_other _ _ hab]
  exact Heap.get?_push_of_some _ ((x₁.2.1 b n).trans e)
 ·obtain⟨sl,e'⟩:=x₁.2.2 b o e
  have hab:a≠b:=λq=>hna (by rw[q];exact m)
  exact⟨sl,by rw[Heap.get?_update_other _ _ hab];exact Heap.get?_push_of_some _ e'⟩
theorem y1i{oe:Obj}{vs:Array Value}(hfr:A.frames=some (η::outer))(hl:Frs s.heap (η::outer))(hf:η.frame=some L)(he:s.heap.get? a=some oe)(hd:oe.data= .fields vs)(h1:vs[1]? =some .none)(h2:vs[2]? =some .none)
  (hQ:∀h' T',G4 h' a T' oe.cls (rawInt L)->s.heap.get? T'=none->G9 (fa (η::outer)) [a] s.heap h'->Q () {s with heap:=h'}):wpAny M A (noteFrame (.ref a) η) Q E s:=by
 unfold noteFrame
 simp only[hf]
 refine Bx (wpAny_field he hd h1 ?_)
 rw[if_neg (by decide)]
 exact z5T hfr hl hf he hd (Array.getElem?_eq_some_iff.mp h1).1 h2 hQ
theorem y2w(hfr:A.frames=some (η::outer))(hl:Frs s.heap (η::outer))(hf:η.frame=some L)(x:G4 s.heap a T c .none)
  (hQ:∀h' T',G4 h' a T' c (rawInt L)->s.heap.get? T'=none->G9 (fa (η::outer)) [a,T] s.heap h'->Q () {s with heap:=h'}):wpAny M A (noteFrame (.ref a) η) Q E s:=by
 obtain⟨hne,⟨oe,vs,he,hc,hd,h1,h2⟩,⟨oT,ts,hT,hdT,h3⟩⟩:=x
 subst hc
 unfold noteFrame
 simp only[hf]
 refine Bx (wpAny_field he hd h1 ?_)
 rw[if_pos (show(Value.ref T !=Value.none)=true from by simp)]
 refine Bx (wpAny_field hT hdT h3 ?_)
 rw[if_neg (show¬((Value.none==rawInt L)=true) from by simp[rawInt])]
 refine Bx (wpAny_setField hT hdT (Array.getElem?_eq_some_iff.mp h3).1 ?_)
 have hnT:=z4S hl hT hdT
 have oth:∀b,b≠T->(s.heap.update T (Obj.mapFields (·.setIfInBounds 3 Value.none))).get? b=s.heap.get? b:=λb hb=>Heap.get?_update_other _ _ (Ne.symm hb)
 refine z5T (s:={s with heap:=s.heap.update T (Obj.mapFields (·.setIfInBounds 3 Value.none))}) hfr (hl.of_keeps λb o e hn=>⟨o,(oth b λq=>hn ts (by rw[q,hT] at e;exact Bs e▸hdT)).trans e,rfl⟩) hf ((oth a (Ne.symm hne)).trans he) hd (Array.getElem?_eq_some_iff.mp h1).1 h2 λh' T' x' hn mv=>hQ h' T' x' ?_ ⟨λb o e n n'=> ?_,λb o m e=> ?_⟩
 ·by_cases q:T'=T
  ·obtain⟨o',k,_⟩:=z6M hT hdT 3 .none
   have hn:(s.heap.update T (Obj.mapFields (·.setIfInBounds 3 Value.none))).get? T'=none:=hn
   rw[q,k] at hn;cases hn
  ·exact(oth T' q).symm.trans hn
 ·exact mv.keep b o ((oth b λq=>n' (q▸ .tail _ (.head _))).trans e) n λm=>n' (Af.mp m▸ .head _)
 ·exact mv.slot b o m ((oth b λq=>hnT (q▸m)).trans e)
theorem z8e{fl:Value}{l:List Env}(hl:Frs s.heap l)(x:G4 s.heap a T c fl)(hQ:∀h',G4 h' a T c .none->G9 (fa l) [T] s.heap h'->Q () {s with heap:=h'}):wpAny M A (setFlight (.ref a) none) Q E s:=by
 obtain⟨hne,⟨oe,vs,he,hc,hd,h1,h2⟩,⟨oT,ts,hT,hdT,h3⟩⟩:=x
 unfold setFlight
 refine Bx (wpAny_field he hd h1 ?_)
 rw[if_pos (show(Value.ref T !=Value.none)=true from by simp)]
 have hz:=(Array.getElem?_eq_some_iff.mp h3).1
 refine wpAny_setField hT hdT hz ?_
 have hnT:=z4S hl hT hdT
 obtain⟨o',k1,k2,k3⟩:=z6M hT hdT 3 ((none:Option Addr).elim Value.none λf=>rawInt f)
 refine hQ _ ⟨hne,⟨oe,vs,(Heap.get?_update_other _ _ hne).trans he,hc,hd,h1,h2⟩,⟨o',_,k1,k3,by simp[hz]⟩⟩ ⟨λb o e n n'=> ?_,λb o m e=>⟨o.slots,?_⟩⟩
 ·have hab:T≠b:=λq=>n' (by rw[q];exact .head _)
  rw[Heap.get?_update_other _ _ hab];exact e
 ·have hab:T≠b:=λq=>hnT (by rw[q];exact m)
  rw[Heap.get?_update_other _ _ hab];exact e
end
structure FrA(C:Cx)(A:Around)(G D:Gh)(l:List Env):Prop where
 fr:A.frames=some l
 ok:∀η∈l,η.scope.kind≠ .module/\∃L o,η.frame=some L/\G L=some o/\frk o/\(∃es n,o.data= .dict es n)/\D L=none/\C.base.get? L=none
def Nob(G D:Gh)(σ:Sto)(a:Addr):Prop:=G a=none/\D a=none/\a∉A5 σ
inductive Fly(C:Cx)(c:Value)(G D:Gh)(σ:Sto)(e:Value)(s:Shared):Prop
 |mk (a T:Addr) (D':Gh):e= .ref a->DX G D D'->RelC C G D' σ s->G4 s.heap a T c .none->Nob G D' σ a->Nob G D' σ T->Fly C c G D σ e s
inductive Exc(h:Heap)(a:Addr)(c:Value)(L:Addr)(P:Addr->Prop):Prop
 |new (oe:Obj) (vs:Array Value):h.get? a=some oe->oe.cls=c->oe.data= .fields vs->vs[1]? =some .none->vs[2]? =some .none->Exc h a c L P
 |on (T:Addr) (fl:Value):G4 h a T c fl->(fl= .none∨fl=rawInt L)->P T->Exc h a c L P
inductive D6(C:Cx)(η:Env)(ν:List Str)(gl:LV)(G D:Gh)(EQ:Value->Sto->Prop)(e:Value)(s:Shared):Prop
 |mk (a:Addr) (D':Gh) (m:Loc) (τ:Sto) (c:Value):e= .ref a->DX G D D'->A3 C η ν gl true G D' m τ s->Nob G D' τ a->Exc s.heap a c η.locals (Nob G D' τ)->EQ c τ->D6 C η ν gl G D EQ e s
inductive FlyN(C:Cx)(η:Env)(ν:List Str)(gl:LV)(G D:Gh)(EQ:Value->Sto->Prop)(fl e:Value)(s:Shared):Prop
 |mk (a T:Addr) (D':Gh) (m:Loc) (τ:Sto) (c:Value):e= .ref a->DX G D D'->A3 C η ν gl true G D' m τ s->Nob G D' τ a->G4 s.heap a T c fl->Nob G D' τ T->EQ c τ->FlyN C η ν gl G D EQ fl e s
structure Up(C:Cx)(η:Env)(A:Around)(G Gc D:Gh)(l:List Env):Prop where
 F:FrA C A G D l
 M:∀b o,G b=some o->frk o->Gc b=some o
 GG:∀b o,G b=some o->∃o',Gc b=some o'/\Eqs o o'
 B:∀b o,C.base.get? b=some o->G b=some o
 f:η.frame=some η.locals
def CE(C:Cx)(d:Nat)(f:Value)(xs:List V)(σ:Sto)(Q:VP)(EQ:Value->Sto->Prop):Prop:=
 ∀A G D s vs l,C9 C A d->FrA C A G D l->RelC C G D σ s->A6 C.w D vs xs->codeAny C.M A (.call f ⟨vs,[]⟩) (λr s'=>match r with
  | .ok (.ret v)=>A0 C G D Q v s'
  | .error e=>∃c τ,EQ c τ/\Fly C c G D τ e s'
  |_=>False) s
def SE(C:Cx)(η:Env)(ν:List Str)(gl:LV)(d:Nat)(t:Sem Flow)(m:Loc)(σ:Sto)(Q:FP)(EQ:Value->Sto->Prop):Prop:=
 ∀A G Gc D s l,C9 C (A.deeper η) d->Up C η A G Gc D l->A3 C η ν gl true Gc D m σ s->wpAny C.M (A.deeper η) t (D1 C η ν gl true Gc D Q) (D6 C η ν gl Gc D EQ) s
def TE(C:Cx)(η:Env)(ν:List Str)(gl:LV)(d:Nat)(t:Sem Value)(m:Loc)(σ:Sto)(Q:VP)(EQ:Value->Sto->Prop):Prop:=
 ∀A G Gc D s l,C9 C (A.deeper η) d->Up C η A G Gc D l->A3 C η ν gl true Gc D m σ s->wpAny C.M (A.deeper η) t (B8 C η ν gl true Gc D m Q) (D6 C η ν gl Gc D EQ) s
def LE(C:Cx)(η:Env)(ν:List Str)(gl:LV)(d:Nat)(t:Sem (List Value))(m:Loc)(σ:Sto)(Q:List V->Sto->Prop)(EQ:Value->Sto->Prop):Prop:=
 ∀A G Gc D s l,C9 C (A.deeper η) d->Up C η A G Gc D l->A3 C η ν gl true Gc D m σ s->wpAny C.M (A.deeper η) t (PostL C η ν gl true Gc D m Q) (D6 C η ν gl Gc D EQ) s
section
variable {C:Cx} {η:Env} {ν:List Str} {gl:LV} {own:Bool} {G Gc D D' D₁:Gh} {m:Loc} {σ τ:Sto} {s s':Shared} {A:Around} {l:List Env} {c fl e:Value} {d:Nat} {EQ:Value->Sto->Prop}
theorem y3T{b:Addr}(h:b∈fa l):∃η∈l,η.frame=some b:=List.mem_filterMap.mp h
theorem FrA.at(F:FrA C A G D l){b:Addr}(h:b∈fa l):∃o,G b=some o/\frk o/\(∃es n,o.data= .dict es n)/\D b=none/\C.base.get? b=none:=by
 obtain⟨η,he,hf⟩:=y3T h
 obtain⟨_,L,o,h1,h2⟩:=F.ok η he
 rw[hf] at h1
 rw[Bs h1];exact⟨o,h2⟩
theorem FrA.dx(F:FrA C A G D l)(h:DX G D D'):FrA C A G D' l:=⟨F.fr,λη he=>by
 obtain⟨a,L,o,h1,h2,h3,h4,h5,h6⟩:=F.ok η he
 exact⟨a,L,o,h1,h2,h3,h4,h.off L h5 (by rw[h2];exact nofun),h6⟩⟩
theorem dxG(hG:∀b o,G b=some o->∃o',Gc b=some o'/\Eqs o o')(a:DX Gc D D'):DX G D D':=a.less λb g=>by
 cases q:G b with
 |none=>exact absurd q g
 |some o=>obtain⟨o1,h1,_⟩:=hG b o q;rw[h1];exact nofun
theorem Up.dx(U:Up C η A G Gc D l)(h:DX Gc D D'):Up C η A G Gc D' l:=⟨U.F.dx (dxG U.GG h),U.M,U.GG,U.B,U.f⟩
theorem Up.fr(U:Up C η A G Gc D l):(A.deeper η).frames=some (η::l):=by show A.frames.map _=_;rw[U.F.fr];rfl
theorem RelC.known(R:RelC C G D σ s){b:Addr}(h:¬Nob G D σ b):∃o,s.heap.get? b=some o:=by
 refine Classical.byContradiction λn=>h ⟨?_,?_,λhf=>n (R.footLives hf)⟩
 ·exact R.noG λo e=>n ⟨o,e⟩
 ·exact Option.eq_none_iff_forall_not_mem.mpr λo e=>n ⟨o,R.d b o e⟩
theorem Nob.dead(R:RelC C G D σ s){b:Addr}(h:s.heap.get? b=none):Nob G D σ b:=Classical.byContradiction λn=>by
 obtain⟨o,e⟩:=R.known n
 exact nomatch h.symm.trans e
theorem RelC.moved{fs xs:List Addr}{h':Heap}(R:RelC C G D σ s)(mv:G9 fs xs s.heap h')(hfs:∀b∈fs,D b=none/\b∉A5 σ/\C.base.get? b=none/\∀o,G b=some o->frk o)(hxs:∀b∈xs,Nob G D σ b):RelC C G D σ {s with heap:=h'} where
 same:=let⟨h,tk,e⟩:=R.same;⟨h',tk,by rw[e]⟩
 bs:=λb o e=>mv.keep b o (R.bs b o e) (λm=>nomatch (hfs b m).2.2.1.symm.trans e) λm=>nomatch (hxs b m).1.symm.trans (R.base b o e)
 g:=λb o e=>by
  obtain⟨o',h1,q⟩:=R.g b o e
  by_cases m:b∈fs
  ·obtain⟨sl,h2⟩:=mv.slot b o' m h1
   exact⟨_,h2,q.1,λhn=>absurd ((hfs b m).2.2.2 o e) hn⟩
  ·exact⟨o',mv.keep b o' h1 m (λm=>nomatch (hxs b m).1.symm.trans e),q⟩
 d:=λb o e=>mv.keep b o (R.d b o e) (λm=>nomatch (hfs b m).1.symm.trans e) λm=>nomatch (hxs b m).2.1.symm.trans e
 base:=R.base
 nd:=R.nd
 offG:=R.offG
 offD:=R.offD
 pl:=λp hp=>(R.pl p hp).at λb hb ob e=>have hf:=z06 (a:=p.1) (ob:=p.2.1) (o:=p.2.2) hp b hb;mv.keep b ob e (λm=>(hfs b m).2.1 hf) λm=>(hxs b m).2.2 hf
 sto:=R.sto
theorem FrA.frs(F:FrA C A G D l)(R:RelC C G D σ s):Frs s.heap l:=by
 have key:∀l',(∀e∈l',e∈l)->Frs s.heap l':=by
  intro l'
  induction l' with
  |nil=>exactλ_=>trivial
  |cons e r ih=>
   intro hs
   obtain⟨a,L,o,h1,h2,h3,⟨es,n,h4⟩,h5,h6⟩:=F.ok e (hs e (.head _))
   obtain⟨o',k1,k2⟩:=R.g L o h2
   exact⟨a,⟨L,o',h1,rfl,k1,λvs q=>nomatch (k2.1.symm.trans q).symm.trans h4⟩,ih λx hx=>hs x (.tail _ hx)⟩
 exact key l λ_ h=>h
theorem Up.push(U:Up C η A G Gc D l)(R:A3 C η ν gl true Gc D m σ s):FrA C (A.deeper η) (z2g η ν Gc s) D (η::l) where
 fr:=U.fr
 ok:=λe he=>by
  rcases Ae.mp he with rfl|he
  ·obtain⟨mm,⟨o,es,ep,ho,hd,_⟩,_⟩:=R.ns
   refine⟨by rw[R.ok.fn];exact nofun,e.locals,mkF o,U.f,by rw[lift_loc,ho];rfl,rfl,⟨es,ep,hd⟩,R.offL.2.1,?_⟩
   cases q:C.base.get? e.locals with
   |none=>rfl
   |some o'=>exact nomatch R.offL.1.symm.trans (R.base _ _ q)
  ·obtain⟨a,L,o,h1,h2,h3,h4,h5,h6⟩:=U.F.ok e he
   have hL:=U.M L o h2 h3
   refine⟨a,L,o,h1,?_,h3,h4,h5,h6⟩
   rw[z1H];exact hL
   rintro (q|⟨i,x,e1,e2,e3⟩)
   ·rw[q] at hL;exact nomatch R.offL.1.symm.trans hL
   ·exact nomatch ((R.cl i x L e1 e2 e3).2.2.1).symm.trans hL
theorem Up.frs(U:Up C η A G Gc D l)(R:A3 C η ν gl true Gc D m σ s):Frs s.heap (η::l):=(U.push R).frs R.lifted
theorem z6v(U:Up C η A G Gc D l):fa (η::l)=η.locals::fa l:=by show List.filterMap _ (η::l)=_;rw[List.filterMap_cons,U.f]
theorem A3.moved{xs:List Addr}{h':Heap}(U:Up C η A G Gc D l)(R:A3 C η ν gl true Gc D m σ s)(mv:G9 (fa (η::l)) xs s.heap h')(hxs:∀b∈xs,Nob Gc D σ b)(hd:∀b∈xs,∃o vs,s.heap.get? b=some o/\o.data= .fields vs):A3 C η ν gl true Gc D m σ {s with heap:=h'} where
 toRelC:=R.toRelC.moved mv (λb hb=>by
  rw[z6v U] at hb
  rcases Ae.mp hb with rfl|hb
  ·refine⟨R.offL.2.1,R.offL.2.2,?_,λo e=>nomatch R.offL.1.symm.trans e⟩
   cases q:C.base.get? η.locals with
   |none=>rfl
   |some o'=>exact nomatch R.offL.1.symm.trans (R.base _ _ q)
  ·obtain⟨o,h1,h2,h3,h4,h5⟩:=U.F.at hb
   refine⟨h4,(λq=>nomatch (R.offG b q).symm.trans (U.M b o h1 h2)),h5,λo' e=> ?_⟩
   rw[U.M b o h1 h2] at e;exact Bs e▸h2) hxs
 ok:=R.ok
 offL:=R.offL
 ns:=by
  obtain⟨mm,⟨o,es,ep,ho,hr⟩,h⟩:=R.ns
  obtain⟨sl,e⟩:=mv.slot _ _ (by rw[z6v U];exact .head _) ho
  exact⟨mm,⟨_,es,ep,e,hr⟩,h⟩
 cl:=λi x c h1 h2 h3=>by
  obtain⟨q1,⟨ov,⟨o,ho,hdt⟩,q2⟩,q3⟩:=R.cl i x c h1 h2 h3
  refine⟨q1,⟨ov,⟨o,mv.keep c o ho (λhm=> ?_) λhm=> ?_,hdt⟩,q2⟩,q3⟩
  ·rw[z6v U] at hm
   rcases Ae.mp hm with e|hm
   ·exact q1 e
   ·obtain⟨o,k1,k2,_⟩:=U.F.at hm
    exact nomatch q3.1.symm.trans (U.M _ _ k1 k2)
  ·obtain⟨o',vs,k1,k2⟩:=hd c hm
   rw[ho] at k1
   rw[Bs k1] at hdt
   exact nomatch hdt.symm.trans k2
theorem D6.note{E:Value->Shared->Prop}(U:Up C η A G Gc D l)(f:D6 C η ν gl Gc D EQ e s):wpAny C.M (A.deeper η) (noteFrame e η) (λ_ s'=>FlyN C η ν gl Gc D EQ (rawInt η.locals) e s') E s:=by
 obtain⟨a,D',m,τ,c,rfl,dx,R,na,x,hq⟩:=f
 have U':=U.dx dx
 have hl:=U'.frs R
 cases x with
 |new oe vs h1 h2 h3 h4 h5=>
  refine y1i U.fr hl U.f h1 h3 h4 h5 λh' T' x' hn mv=> ?_
  have R':=R.moved U' mv (λb hb=>by rw[Af.mp hb];exact na) λb hb=>by rw[Af.mp hb];exact⟨_,_,h1,h3⟩
  exact⟨a,T',D',m,τ,c,rfl,dx,R',na,h2▸x',Nob.dead R.toRelC hn,hq⟩
 |on T fl h1 h2 h3=>
  rcases h2 with rfl|rfl
  ·obtain⟨oe,vs,g1,g2,g3,_⟩:=h1.ex
   obtain⟨oT,ts,g4,g5,_⟩:=h1.tr
   refine y2w U.fr hl U.f h1 λh' T' x' hn mv=> ?_
   have R':=R.moved U' mv (λb hb=>by
    rcases Ae.mp hb with rfl|hb
    ·exact na
    ·rw[Af.mp hb];exact h3) λb hb=>by
    rcases Ae.mp hb with rfl|hb
    ·exact⟨_,_,g1,g3⟩
    ·rw[Af.mp hb];exact⟨_,_,g4,g5⟩
   exact⟨a,T',D',m,τ,c,rfl,dx,R',na,x',Nob.dead R.toRelC hn,hq⟩
  ·obtain⟨oe,vs,g1,g2,g3,g6,_⟩:=h1.ex
   obtain⟨oT,ts,g4,g5,g7⟩:=h1.tr
   unfold noteFrame
   simp only[U.f]
   refine Bx (wpAny_field g1 g3 g6 ?_)
   rw[if_pos (show(Value.ref T !=Value.none)=true from by simp)]
   refine Bx (wpAny_field g4 g5 g7 ?_)
   rw[if_pos (show(rawInt η.locals==rawInt η.locals)=true from by simp)]
   exact wpAny_pure ⟨a,T,D',m,τ,c,rfl,dx,R,na,h1,h3,hq⟩
theorem FlyN.off{A':Around}{E:Value->Shared->Prop}(U:Up C η A G Gc D l)(f:FlyN C η ν gl Gc D EQ fl e s):wpAny C.M A' (setFlight e none) (λ_ s'=>FlyN C η ν gl Gc D EQ .none e s') E s:=by
 obtain⟨a,T,D',m,τ,c,rfl,dx,R,na,x,nT,hq⟩:=f
 obtain⟨oT,ts,g4,g5,_⟩:=x.tr
 refine z8e ((U.dx dx).frs R) x λh' x' mv=> ?_
 exact⟨a,T,D',m,τ,c,rfl,dx,R.moved (U.dx dx) mv (λb hb=>by rw[Af.mp hb];exact nT) (λb hb=>by rw[Af.mp hb];exact⟨_,_,g4,g5⟩),na,x',nT,hq⟩
theorem A3.out(R:A3 C η ν gl own Gc D m σ s)(hG:∀b o,G b=some o->∃o',Gc b=some o'/\Eqs o o')(hb:∀b o,C.base.get? b=some o->G b=some o):RelC C G D σ s where
 same:=R.same
 bs:=R.bs
 g:=λb o e=>by
  obtain⟨o1,h1,q1⟩:=hG b o e
  obtain⟨o2,h2,q2⟩:=R.g b o1 h1
  exact⟨o2,h2,q1.trans q2⟩
 d:=R.d
 base:=hb
 nd:=R.nd
 offG:=λb h=>by
  cases e:G b with
  |none=>rfl
  |some o=>obtain⟨o1,h1,_⟩:=hG b o e;exact nomatch (R.offG b h).symm.trans h1
 offD:=R.offD
 pl:=R.pl
 sto:=R.sto
theorem Nob.less(hG:∀b o,G b=some o->∃o',Gc b=some o'/\Eqs o o'){a:Addr}(h:Nob Gc D σ a):Nob G D σ a:=⟨by
 cases e:G a with
 |none=>rfl
 |some o=>obtain⟨o1,h1,_⟩:=hG a o e;exact(nomatch h.1.symm.trans h1),h.2⟩
theorem D6.leave{E:Value->Shared->Prop}(U:Up C η A G Gc D l)(f:D6 C η ν gl Gc D EQ e s):wpAny C.M (A.deeper η) (leaving η e) (λ_ s'=>∃c τ,EQ c τ/\Fly C c G D τ e s') E s:=by
 unfold leaving
 refine Bx (By (f.note U) (λ_ s₁ f₁=>By (f₁.off U) (λ_ s₂ f₂=> ?_) λ_ _ e=>e) λ_ _ e=>e)
 obtain⟨a,T,D',m,τ,c,rfl,dx,R,na,x,nT,hq⟩:=f₂
 exact⟨c,τ,hq,a,T,D',rfl,dxG U.GG dx,R.out U.GG U.B,x,na.less U.GG,nT.less U.GG⟩
theorem Fly.here{D₀:Gh}{σ₀:Sto}{s₀:Shared}(R:A3 C η ν gl true Gc D₀ m σ₀ s₀)(dx:DX Gc D D₀)(f:Fly C c (z2g η ν Gc s₀) D₀ τ e s)(hq:EQ c τ):D6 C η ν gl Gc D EQ e s:=by
 obtain⟨a,T,D',rfl,dx',RC,x,na,nT⟩:=f
 exact⟨a,D',m,τ,c,rfl,dx.trans (R.dx dx'),R.back RC dx',na.less λb o e=>R.over e,.on T .none x (.inl rfl) (nT.less λb o e=>R.over e),hq⟩
theorem D6.weak(dx:DX Gc D D₁)(f:D6 C η ν gl Gc D₁ EQ e s):D6 C η ν gl Gc D EQ e s:=by
 obtain⟨a,D',m,τ,c,rfl,dx',R,na,x,hq⟩:=f
 exact⟨a,D',m,τ,c,rfl,dx.trans dx',R,na,x,hq⟩
theorem z7f{a b:Sto}(h:a.Sublist b):(A5 a).Sublist (A5 b):=by
 induction h with
 |slnil=>exact .slnil
 |cons p _ ih=>obtain⟨c,o,x⟩:=p;exact ih.trans (List.sublist_append_right _ _)
 |cons_cons p _ ih=>obtain⟨c,o,x⟩:=p;exact List.Sublist.append (List.Sublist.refl _) ih
theorem Fly.drop(f:Fly C c G D σ e s)(h:τ.Sublist σ):Fly C c G D τ e s:=by
 obtain⟨a,T,D',rfl,dx,RC,x,na,nT⟩:=f
 exact⟨a,T,D',rfl,dx,RC.drop h,x,⟨na.1,na.2.1,λq=>na.2.2 ((z7f h).subset q)⟩,nT.1,nT.2.1,λq=>nT.2.2 ((z7f h).subset q)⟩
end
section
variable {C:Cx} {η:Env} {ν:List Str} {gl:LV} {m:Loc} {σ:Sto} {d:Nat} {Q:FP} {P:VP} {EQ:Value->Sto->Prop}
theorem z1E{t:Sem Flow}(h:AS C η ν gl true d t m σ Q):SE C η ν gl d t m σ Q EQ:=λA G Gc D s l hA U R=>By (h _ Gc D s hA R) (λ_ _ q=>q) λ_ _ q=>q.elim
noncomputable def y0z(C:Cx)(η:Env)(ν:List Str)(gl:LV)(d:Nat)(rest:List Stmt)(Q:FP)(EQ:Value->Sto->Prop):FP
 | .next,m,σ=>SE C η ν gl d (execs rest η) m σ Q EQ
 |f,m,σ=>Q f m σ
theorem z1l(q:Q .next m σ):SE C η ν gl d (execs [] η) m σ Q EQ:=z1E (y24 q)
theorem z0h{st:Stmt}{rest:List Stmt}(h:SE C η ν gl d (exec st η) m σ (y0z C η ν gl d rest Q EQ) EQ):SE C η ν gl d (execs (st::rest) η) m σ Q EQ:=λA G Gc D s l hA U R=>by
 refine wpAny_execs_cons (By (h A G Gc D s l hA U R) (λf s' q=> ?_) λ_ _ q=>q)
 obtain⟨fl,m',D',σ',a,b,c,e⟩:=q
 cases f<;>cases fl<;>first|exact b.elim|skip
 ·exact By (e A G Gc D' s' l hA (U.dx a) c) (λ_ _ q=>q.weak a) λ_ _ q=>q.weak a
 ·exact⟨.brk,m',D',σ',a,b,c,e⟩
 ·exact⟨.cont,m',D',σ',a,b,c,e⟩
 ·exact⟨.ret _,m',D',σ',a,b,c,e⟩
theorem z2l{t:Expr}{b o:List Stmt}{p:Pos}(h:AB C η ν gl true d (isTrue t η (eval t η)) m σ λv σ₁=>(v=true->SE C η ν gl d (execs b η) m σ₁ Q EQ)/\(v=false->SE C η ν gl d (execs o η) m σ₁ Q EQ)):SE C η ν gl d (exec (.If t b o p) η) m σ Q EQ:=λA G Gc D s l hA U R=>
 wpAny_If (By (h _ Gc D s hA R) (λv s₁ q=>by
  obtain⟨D',σ',a,R',q⟩:=q
  cases v with
  |true=>exact By (q.1 rfl A G Gc D' s₁ l hA (U.dx a) R') (λ_ _ q=>q.weak a) λ_ _ q=>q.weak a
  |false=>exact By (q.2 rfl A G Gc D' s₁ l hA (U.dx a) R') (λ_ _ q=>q.weak a) λ_ _ q=>q.weak a) λ_ _ e=>e.elim)
theorem z6q{e:Expr}{p:Pos}(h:TE C η ν gl d (eval e η) m σ (λX σ₁=>Q (.ret X) m σ₁) EQ):SE C η ν gl d (exec (.Return (some e) p) η) m σ Q EQ:=λA G Gc D s l hA U R=>
 wpAny_Return_some (By (h A G Gc D s l hA U R) (λv s₁ q=>by obtain⟨X,D₁,σ₁,a,b,c,q⟩:=q;exact⟨.ret X,m,D₁,σ₁,a,b,c,q⟩) λ_ _ q=>q)
theorem z46{e:Expr}{p:Pos}(h:TE C η ν gl d (eval e η) m σ (λ_ σ₁=>Q .next m σ₁) EQ)(hs:autoParam (swapsWith e none p.line η=pure false) auR):SE C η ν gl d (exec (.Expr e p) η) m σ Q EQ:=λA G Gc D s l hA U R=>by
 have hi:interactive η=false:=by unfold interactive;rw[R.ok.fn];rfl
 rw[exec_Expr η e p hi hs]
 refine Bx (wpAny_standAt (Bx (By (h A G Gc D s l hA U R) (λv s₁ q=> ?_) λ_ _ q=>q)))
 obtain⟨X,D₁,σ₁,a,b,c,q⟩:=q
 have fin:D1 C η ν gl true Gc D Q .next s₁:=⟨.next,m,D₁,σ₁,a,trivial,c,q⟩
 exact wpAny_dropValue fin
variable {L:List V->Sto->Prop}
theorem z05{t:Sem (List Value)}(h:AL C η ν gl true d t m σ L):LE C η ν gl d t m σ L EQ:=λA G Gc D s l hA U R=>By (h _ Gc D s hA R) (λ_ _ q=>q) λ_ _ q=>q.elim
theorem z2k{f:Value}{xs:List V}(h:CW C d f xs σ P):CE C d f xs σ P EQ:=λA G D s vs l hA F R hv=>codeAny_mono (h A G D s vs hA R hv) λr s' q=>by
 cases r with
 |error e=>exact q.elim
 |ok fl=>cases fl<;>exact q
theorem y1Y{x:Str}{np p:Pos}{e:Expr}{rest:List Expr}{ad:Addr}(hx:(x,V.ref ad)∈gl)(hF:z1g C (.ref ad))(h:LE C η ν gl d (spliced (backTo p (starEach (e::rest) η))) m σ (λXs σ₂=>CE C d (.ref ad) Xs σ₂ P EQ) EQ)
  (he:autoParam (starEach (e::rest) η=(false,eval e η)::starEach rest η) auR) (hplain:autoParam ((backTo p (starEach rest η)).any (·.1)=false) auR):
  TE C η ν gl d (eval (.Call (.Name x np) (e::rest) [] p) η) m σ P EQ:=λA G Gc D s l hA U R=>
 wpAny_Call_ofName (By (z1j hx (Q:=λX σ'=>X= .ref ad/\σ'=σ) ⟨rfl,rfl⟩ _ Gc D s hA R) (λv s₁ q=>by
  obtain⟨X,D₂,σ₁,a,b,R₁,rfl,rfl⟩:=q
  refine z0K hF b (by rw[he];exact hplain) ?_
  rw[he] at h⊢
  refine Calls.evalArgs_plain (By (h A G Gc D₂ s₁ l hA (U.dx a) R₁) (λvs s₂ q=> ?_) λ_ _ q=>q.weak a)
  obtain⟨Xs,D₃,σ₂,a',b',R₂,q⟩:=q
  have ev:=b.refI
  subst ev
  have dx₃:=a.trans a'
  refine⟨R₂.toRelC.baseIn,wpAny_call (codeAny_mono (q _ _ D₃ s₂ vs (η::l) hA ((U.dx dx₃).push R₂) R₂.lifted b') λr s' q=> ?_)⟩
  cases r with
  |error e=>obtain⟨c,τ,hq,f⟩:=q;exact f.here R₂ dx₃ hq
  |ok fl=>
   cases fl with
   |ret v=>obtain⟨x,D',σ',k1,k2,k3,k4⟩:=q;exact⟨x,D',σ',dx₃.trans (R₂.dx k1),k2,R₂.back k3 k1,k4⟩
   |_=>exact q.elim) λ_ _ e=>e.elim)
theorem y0t [HM C]{x:Str}{np cpos pos tp:Pos}{t:Str}{k:Nat}{cA:Addr}{bm:List Value}{B newId initId:String}(O:PyProof.Rows.OwnCls x cA bm newId C.mg C.base)(FB:ExcBaseFacts B newId initId bm)(hx:(x,V.ref cA)∈gl)(hq:EQ (.ref cA) σ):
  SE C η ν gl d (exec (.Raise (some (.Call (.Name x np) [.Constant (.str t) k tp] [] cpos)) none pos) η) m σ Q EQ:=λA G Gc D s l hA U R=>by
 refine nG λhG=> ?_
 obtain⟨tl,N,nm,q,bs,hdct,sn,sub,ab,col,dd,k0,k1,k2,k3,k5,mN,hC,hN,hni,T⟩:=O.obj
 refine hG ?_
 refine wpAny_Raise_call_subT (C:=cA) (nm:=nm) (q:=q) (N:=N) (bs:=bs) (bm:=tl) (hdct:=hdct) (sn:=sn) (sub:=sub) (ab:=ab) (col:=col) (dd:=dd) (k0:=k0) (k1:=k1) (k2:=k2) (k3:=k3) (k5:=k5) FB (mN:=mN) (T.hasType FB.hasBase) hA.hh rfl hni (By (z1j hx (Q:=λX σ'=>X= .ref cA/\σ'=σ) ⟨rfl,rfl⟩ _ Gc D s hA R) (λf s₁ q=> ?_) λ_ _ e=>e.elim)
 refine nG λhG=> ?_
 obtain⟨X,D₂,σ₁,a,b,R₁,rfl,rfl⟩:=q
 refine hG ?_
 refine⟨b.refI,?_⟩
 have hal:AL C η ν gl true d (spliced (backTo cpos (starEach [.Constant (.str t) k tp] η))) m σ₁ λXs σ₂=>σ₂=σ₁/\Xs=[.str t]:=z0c (z0r (z0e ⟨rfl,rfl⟩)) rfl
 refine Calls.evalArgs_plain (By (hal _ Gc D₂ s₁ hA R₁) (λvs s₂ q=> ?_) λ_ _ e=>e.elim)
 refine nG λhG=> ?_
 obtain⟨Xs,D₃,σ₂,a',b',R₂,rfl,rfl⟩:=q
 refine hG ?_
 have kp:=R₂.toRelC.baseIn
 refine⟨rfl,by rw[b'.length];exact(by decide:1<=sizeLine),kp _ _ hC,hN.keeps kp,T.keeps kp,λh' e hm=> ?_⟩
 refine nG λhG=> ?_
 obtain⟨t0,g1,g2,g3⟩:=hm.there
 refine hG ?_
 have R₃:A3 C η ν gl true Gc D₃ m σ₂ {s₂ with heap:=h'}:=R₂.back (R₂.lifted.keep s₂.toks hm.keeps) (DX.refl _ _)
 exact⟨e,D₃,m,σ₂,_,rfl,a.trans a',R₃,Nob.dead R₂.toRelC hm.new,.new _ _ g1 rfl rfl rfl rfl,hq⟩
theorem y4y [NF C]{a:Addr}{fd:FuncData}{body:List Stmt}{params others:List Str}{xs:List V}(F:FnIs C a fd body params)(hlen:xs.length=params.length)
  (hst:z3T fd.scope (params++others) (gl.map (·.1))=true) (hgl:∀p∈gl,z04 C p.1 p.2)
  (h:∀η,η.scope=fd.scope->SE C η (params++others) gl d (execs body η) (xs.map some++others.map λ_=>none) σ (y1W P) EQ):CE C (d+1) (.ref a) xs σ P EQ:=λA G D s vs l hA hF R hv=>by
 refine y0U F hlen hst hgl hA R hv λE Gc s₁ hsc hfr hle hM hG RF=> ?_
 have U:Up C E A G Gc D l:=⟨hF,hM,hG,R.base,hfr⟩
 refine By (h E hsc A G Gc D s₁ l hA.deeper U RF) (λf s' q=> ?_) λe s' q=>By (q.leave (E:=λ_ _=>False) U) (λ_ _ q=>q) λ_ _ q=>q.elim
 obtain⟨fl,m',D',σ',a,b,c,q⟩:=q
 have dx:DX G D D':=dxG hG a
 have RC':RelC C G D' σ' s':=c.out hG R.base
 cases f<;>cases fl<;>first|exact b.elim|exact q.elim|skip
 ·exact⟨.none,D',σ',dx,.none,RC',q⟩
 ·exact⟨_,D',σ',dx,b,RC',q⟩
theorem z40 [NF C]{K:W.Frag}(H:K.In C.base){a:Addr}(ν:List Str)(gl:LV){xs:List V}(e:y2f K a ν (gl.map (·.1))=true)(e8:∀vs:List Value,vs.length=xs.length->bindArgs (z3x K a) ⟨vs,[]⟩=pure ((ν.take xs.length).zip vs))(e9:Nat.ble xs.length ν.length=true)(hgl:∀p∈gl,z04 C p.1 p.2)
  (h:∀η,η.scope=(z3x K a).scope->SE C η ν gl d (execs (z6s (z3x K a)) η) (xs.map some++(ν.drop xs.length).map λ_=>none) σ (y1W P) EQ):CE C (d+1) (.ref a) xs σ P EQ:=by
 unfold y2f at e
 simp only[AC] at e
 obtain⟨e1,e2,e3,e4,e5,e6,e7⟩:=e
 obtain⟨o,k1,k2⟩:=y0X e1
 have hl:(ν.take xs.length).length=xs.length:=by rw[AR];exact Nat.min_eq_left (AH e9)
 refine y4y (params:=ν.take xs.length) (others:=ν.drop xs.length) ⟨⟨o,H a o k1,k2⟩,y0Y e2,List.isEmpty_iff.mp e3,W.codeRec_of H e4,Nat.eq_of_beq_eq_true e5,Nat.eq_of_beq_eq_true e6,λvs hv=>e8 vs (hv.trans hl)⟩ hl.symm ?_ hgl ?_
 ·rw[List.take_append_drop];exact e7
 ·rw[List.take_append_drop];exact h
noncomputable def z64(C:Cx)(η:Env)(ν:List Str)(gl:LV)(d:Nat)(tgt:Expr)(body:List Stmt)(Pp:Sto->Prop)(Q:FP)(EQ:Value->Sto->Prop):List V->Loc->Sto->Prop
 |[],m,σ=>Q .next m σ
 |X::xs,m,σ=>AA C η ν gl true d (assign tgt η) X m σ λm₁ σ₁=>SE C η ν gl d (execs body η) m₁ σ₁ (λfl m₂ σ₂=>match fl with
  | .next=>Pp σ₂/\z64 C η ν gl d tgt body Pp Q EQ xs m₂ σ₂
  | .cont=>Pp σ₂/\z64 C η ν gl d tgt body Pp Q EQ xs m₂ σ₂
  | .brk=>Q .next m₂ σ₂
  | .ret v=>Q (.ret v) m₂ σ₂) EQ
theorem Up.withW{A:Around}{G Gc D:Gh}{l:List Env}{wr:List Addr}{h:Heap}(U:Up C η A G Gc D l)(hw:Off η ν Gc D σ wr):Up C η A G (z2w Gc wr h) D l:=⟨U.F,λb o e n=>by
  have q:=U.M b o e n
  rw[z0V λhb=>nomatch (hw b hb).1.symm.trans q];exact q,λb o e=>by
  obtain⟨o',q,r⟩:=U.GG b o e
  exact⟨o',by rw[z0V λhb=>nomatch (hw b hb).1.symm.trans q];exact q,r⟩,U.B,U.f⟩
theorem D6.lessW{Gc D₀:Gh}{σ₀:Sto}{wr:List Addr}{h:Heap}{e:Value}{s:Shared}(f:D6 C η ν gl (z2w Gc wr h) D₀ EQ e s)(hw:Off η ν Gc D₀ σ₀ wr)(hb:∀a o,C.base.get? a=some o->Gc a=some o)(hl:∀a∈wr,∃o,h.get? a=some o):D6 C η ν gl Gc D₀ EQ e s:=by
 obtain⟨a,D',m,τ,c,rfl,dx,R,na,x,hq⟩:=f
 obtain⟨R',dx',_⟩:=R.lessW hw hb dx hl
 have nb:∀b,Nob (z2w Gc wr h) D' τ b->Nob Gc D' τ b:=λb n=>⟨by
  by_cases hbw:b∈wr
  ·exact(hw b hbw).1
  ·exact(z0V hbw).symm.trans n.1,n.2⟩
 exact⟨a,D',m,τ,c,rfl,dx',R',nb a na,by
  cases x with
  |new oe vs h1 h2 h3 h4 h5=>exact .new oe vs h1 h2 h3 h4 h5
  |on T fl h1 h2 h3=>exact .on T fl h1 h2 (nb T h3),hq⟩
theorem D6.back{A:Around}{G Gc D:Gh}{l:List Env}{e:Value}{s:Shared}(U:Up C η A G Gc D l)(f:D6 C η ν gl Gc D EQ e s):notedBy C.M (A.deeper η) η (λe s'=>cameBackBy C.M (A.deeper η) η (D6 C η ν gl Gc D EQ) e s') e s:=by
 refine By (f.note U) (λ_ s₁ f₁=> ?_) λ_ _ q=>q
 obtain⟨a,T,D',m,τ,c,rfl,dx,R,na,x,nT,hq⟩:=f₁
 obtain⟨oe,vs,g1,g2,g3,g6,g7⟩:=x.ex
 obtain⟨oT,ts,g4,g5,g8⟩:=x.tr
 unfold cameBackBy
 refine Bx (wpAny_field g1 g3 g6 ?_)
 rw[if_neg (show¬((Value.ref T==Value.none)=true) from by simp)]
 show wpAny _ _ (setFlight (.ref a) η.frame) _ _ _
 unfold setFlight
 refine Bx (wpAny_field g1 g3 g6 ?_)
 rw[if_pos (show(Value.ref T !=Value.none)=true from by simp),U.f]
 have hz:=(Array.getElem?_eq_some_iff.mp g8).1
 refine wpAny_setField g4 g5 hz ?_
 obtain⟨o',k1,k2,k3⟩:=z6M g4 g5 3 ((some η.locals:Option Addr).elim Value.none λf=>rawInt f)
 have hl:=(U.dx dx).frs R
 have mv:G9 (fa (η::l)) [T] s₁.heap (s₁.heap.update T (Obj.mapFields (·.setIfInBounds 3 ((some η.locals:Option Addr).elim Value.none λf=>rawInt f)))):=⟨λb o e n n'=>by
   have hab:T≠b:=λq=>n' (by rw[q];exact .head _)
   rw[Heap.get?_update_other _ _ hab];exact e,λb o m e=>⟨o.slots,by
   have hab:T≠b:=λq=>z4S hl g4 g5 (by rw[q];exact m)
   rw[Heap.get?_update_other _ _ hab];exact e⟩⟩
 refine⟨a,D',m,τ,c,rfl,dx,R.moved (U.dx dx) mv (λb hb=>by rw[Af.mp hb];exact nT) (λb hb=>by rw[Af.mp hb];exact⟨_,_,g4,g5⟩),na,.on T (rawInt η.locals) ⟨x.ne,⟨oe,vs,(Heap.get?_update_other _ _ x.ne).trans g1,g2,g3,g6,g7⟩,⟨o',_,k1,k3,by simp[hz]⟩⟩ (.inr rfl) nT,hq⟩
theorem y0r{tgt iter:Expr}{body:List Stmt}{p:Pos}(h:AI C η ν gl true d iter tgt m σ λxs Pp σ₁=>z64 C η ν gl d tgt body Pp Q EQ xs m σ₁)
  (hs:autoParam (∀x,foldedSetIterable iter η x=pure x) auF):SE C η ν gl d (exec (.For tgt iter body [] p) η) m σ Q EQ:=λA G Gc D s l hA U R=>
 y20 (λP=>z64 C η ν gl d tgt body P Q EQ) (λGc D=>Up C η A G Gc D l) (λGc D=>D6 C η ν gl Gc D EQ) hA R h hs (λ_ _ _ q=>q) (λ_ _ _ _ _ q=>AA.mono q λ_ _ q Gc D s U R=>q A G Gc D s l hA U R) λdx off dx₃=>⟨((U.dx dx).withW off).dx dx₃,λ_ _ hl q=>(((q.weak dx₃).lessW off R.base hl).weak dx).back U⟩
end
open Classical in
noncomputable def z82(B h:Heap)(x:Addr):Heap:=W.hideAll h ((List.range h.objs.size).filter λb=>decide (B.get? b=none/\b≠x))
theorem z9y{B h:Heap}{x b:Addr}{o:Obj}(e:h.get? b=some o)(k:B.get? b≠none∨b=x):(z82 B h x).get? b=some o:=W.hideAll_get _ e λhm=>by
 have:=(Bu.mp hm).2
 simp only[decide_eq_true_eq] at this
 rcases k with k|k
 ·exact k this.1
 ·exact this.2 k
theorem z5U{B h:Heap}{x b:Addr}{o:Obj}(e:(z82 B h x).get? b=some o):h.get? b=some o/\(B.get? b≠none∨b=x):=by
 have e':=W.of_hideAll _ e
 refine⟨e',Classical.byContradiction λn=> ?_⟩
 have n1:B.get? b=none:=Classical.byContradiction λq=>n (.inl q)
 have n2:b≠x:=λq=>n (.inr q)
 have hm:b∈(List.range h.objs.size).filter λb=>decide (B.get? b=none/\b≠x):=Bu.mpr ⟨Bv.mpr (Heap.lt_size e'),by simp only[decide_eq_true_eq];exact⟨n1,n2⟩⟩
 exact nomatch (W.hideAll_none _ hm).symm.trans e
theorem z2o{B h:Heap}{x:Addr}(k:∀b o,B.get? b=some o->h.get? b=some o):∀b o,B.get? b=some o->(z82 B h x).get? b=some o:=λb o e=>z9y (k b o e) (.inl (by rw[e];exact nofun))
noncomputable def z4t(C:Cx)(h:Heap)(x:Addr)(k:∀b o,C.base.get? b=some o->h.get? b=some o):Cx:=⟨C.prog,C.w,z82 C.base h x,C.s₀,C.mg,C.mb,C.hg.keeps (z2o k),C.hb.keeps (z2o k),C.lim.keeps (z2o k),some (some x),none⟩
section
variable {C:Cx} {η:Env} {ν:List Str} {gl:LV} {m:Loc} {σ τ:Sto} {d:Nat} {Q:FP} {EQ EB:Value->Sto->Prop} {G Gc D D':Gh} {s s':Shared} {h:Heap} {x:Addr} {k:∀b o,C.base.get? b=some o->h.get? b=some o}
theorem H0.held{own:Bool}(F:H0 C η ν gl own):H0 (z4t C h x k) η ν gl own:=⟨F.fn,F.nd,F.vk,F.ap,F.gk,F.gg,F.gb⟩
theorem H0.unheld{own:Bool}(F:H0 (z4t C h x k) η ν gl own):H0 C η ν gl own:=⟨F.fn,F.nd,F.vk,F.ap,F.gk,F.gg,F.gb⟩
theorem A3.held{k:∀b o,C.base.get? b=some o->s.heap.get? b=some o}(R:A3 C η ν gl true G D m σ s)(off:Off η ν G D σ [x])(hx:∃o,s.heap.get? x=some o):A3 (z4t C s.heap x k) η ν gl true (Mine.z2w G [x] s.heap) D m σ s:=by
 have R':=R.withW off
 refine⟨⟨R'.same,λb o e=>(z5U e).1,R'.g,R'.d,λb o e=> ?_,R'.nd,R'.offG,R'.offD,R'.pl,R'.sto⟩,R'.ok.held,R'.offL,R'.ns,R'.cl⟩
 obtain⟨e1,e2⟩:=z5U e
 by_cases q:b=x
 ·subst q;rw[z1K (.head _)];exact e1
 ·rw[z0V λhm=>q (Af.mp hm)]
  rcases e2 with e2|e2
  ·cases e3:C.base.get? b with
   |none=>exact absurd e3 e2
   |some o'=>
    have:=R.bs b o' e3
    rw[e1] at this
    rw[Bs this];exact R.base b o' e3
  ·exact absurd e2 q
theorem A3.unheld(R:A3 (z4t C h x k) η ν gl true G D m σ s):A3 C η ν gl true G D m σ s:=
 ⟨⟨R.same,λb o e=>R.bs b o (z2o k b o e),R.g,R.d,λb o e=>R.base b o (z2o k b o e),R.nd,R.offG,R.offD,R.pl,R.sto⟩,R.ok.unheld,R.offL,R.ns,R.cl⟩
theorem A3.forget{vs:Loc}(hv:∀(i:Nat) X,vs[i]?≠some (some X))(R:A3 C η ν gl true G D m σ s):A3 C η ν gl true G D vs σ s:=
 ⟨R.toRelC,R.ok,R.offL,(by obtain⟨mm,a,b⟩:=R.ns;exact⟨mm,a,λi x X _ _ e=>absurd e (hv i X)⟩),λi x c h1 h2 h3=>by
  obtain⟨q1,⟨ov,q2,q3⟩,q4⟩:=R.cl i x c h1 h2 h3
  exact⟨q1,⟨ov,q2,λX e=>absurd e (hv i X)⟩,q4⟩⟩
noncomputable abbrev noL(ν:List Str):Loc:=ν.map λ_=>none
theorem y1h(ν:List Str)(i:Nat)(X:V):(noL ν)[i]?≠some (some X):=by
 rw[Al]
 cases ν[i]? <;>exact nofun
theorem z7h{A:Around}{y:Str}{p:Pos}{a:Addr}{K:Value->Shared->Prop}{E:Value->Shared->Prop}(hx:(y,V.ref a)∈gl)(R:A3 C η ν gl true G D m σ s)(hK:K (.ref a) s):wpAny C.M A (eval (.Name y p) η) K E s:=by
 obtain⟨h1,h2,v,hv,h3⟩:=R.ok.gk _ hx
 have keep:∀b o,C.base.get? b=some o->s.heap.get? b=some o:=R.bs
 have ng:s.heap.Ns η.globals C.mg:=by rw[R.ok.gg];exact C.hg.keeps keep
 have nb:s.heap.Ns η.builtins C.mb:=by rw[R.ok.gb];exact C.hb.keeps keep
 have hv':v= .ref a:=hv.refI
 subst hv'
 refine Calls.Name_function_global R.ok.fn h2 ?_ h1
 rcases h3 with h3|⟨h3,h4⟩
 ·exact Calls.loadGlobal_global ng h3 hK
 ·exact Calls.loadGlobal_builtin ng h3 nb h4 hK
end
theorem y0R{M:Model}{A:Around}{η:Env}{rest:List Stmt}{Q:Flow->Shared->Prop}{E:Value->Shared->Prop}:∀{ss:List Stmt} {s:Shared},wpAny M A (execs ss η) (λf s'=>match f with| .next=>wpAny M A (execs rest η) Q E s'|f=>Q f s') E s->wpAny M A (execs (ss++rest) η) Q E s:=λ{ss} {s} h Γ p hΓ=>by
 have key:∀(ss:List Stmt) (p) (s:Shared),Sem.wp M Γ (execs ss η) (λf p' s'=>match f with| .next=>Sem.wp M Γ (execs rest η) (λa _ s'=>Q a s') (λe _ s'=>E e s') p' s'|f=>Q f s') (λe _ s'=>E e s') p s->Sem.wp M Γ (execs (ss++rest) η) (λa _ s'=>Q a s') (λe _ s'=>E e s') p s:=by
  intro ss
  induction ss with
  |nil=>intro p s h;exact h
  |cons st ss ih=>
   intro p s h
   rw[List.cons_append,execs_cons,Sem.wp_bind']
   rw[execs_cons,Sem.wp_bind'] at h
   refine Sem.wp_mono M Γ _ (λf p' s' h'=> ?_) (λ_ _ _ h'=>h') _ _ h
   cases f with
   |next=>exact ih p' s' h'
   |_=>exact h'
 refine key ss p s (Sem.wp_mono M Γ _ (λf p' s' h'=> ?_) (λ_ _ _ h'=>h') _ _ (h Γ p hΓ))
 cases f with
 |next=>exact h' Γ p' hΓ
 |_=>exact h'
section
variable {C:Cx} {η:Env} {ν:List Str} {gl:LV} {m:Loc} {σ:Sto} {d:Nat} {Q:FP} {P:Bool->Sto->Prop} {EQ:Value->Sto->Prop}
def BE(C:Cx)(η:Env)(ν:List Str)(gl:LV)(d:Nat)(t:Sem Bool)(m:Loc)(σ:Sto)(P:Bool->Sto->Prop)(EQ:Value->Sto->Prop):Prop:=
 ∀A G Gc D s l,C9 C (A.deeper η) d->Up C η A G Gc D l->A3 C η ν gl true Gc D m σ s->wpAny C.M (A.deeper η) t (F6 C η ν gl true Gc D m P) (D6 C η ν gl Gc D EQ) s
theorem z8w{l r:Expr}{op:CmpOp}{p:Pos}{whole:Sem Value}(h:TE C η ν gl d (eval l η) m σ (λX σ₁=>AT C η ν gl true d (eval r η) m σ₁ λY σ₂=>AC2 C d (compareOp op) X Y σ₂ λZ σ₃=>TRX C d Z σ₃ P) EQ)
  (hm:autoParam (behindInMarks op r=false) auR):BE C η ν gl d (isTrue (.Compare l [op] [r] p) η whole) m σ P EQ:=λA G Gc D s ls hA U R=>
 wpAny_isTrue_Compare1 (By (h A G Gc D s ls hA U R) (λv s₁ hpp=>by
  obtain⟨X,D₁,σ₁,a,b,c,e⟩:=hpp
  refine By (e _ Gc D₁ s₁ hA c) (λu s₂ hpp=> ?_) λ_ _ q=>q.elim
  obtain⟨Y,D₂,σ₂,a',b',c',e'⟩:=hpp
  refine By (e'.inF hA c' (b.mono a'.sub) b') (λz s₃ hpp=> ?_) λ_ _ q=>q.elim
  obtain⟨Z,D₃,σ₃,a'',b'',c'',t,ht,hp⟩:=hpp
  exact By (ht.inF hA c'' b'' (K:=F6 C η ν gl true Gc D m P) λtk=>⟨D₃,σ₃,(a.trans a').trans a'',c''.tok tk,hp⟩) (λ_ _ q=>q) λ_ _ q=>q.elim) λ_ _ q=>q) hm
theorem y0s{t:Expr}{b o:List Stmt}{p:Pos}(h:BE C η ν gl d (isTrue t η (eval t η)) m σ (λv σ₁=>(v=true->SE C η ν gl d (execs b η) m σ₁ Q EQ)/\(v=false->SE C η ν gl d (execs o η) m σ₁ Q EQ)) EQ):SE C η ν gl d (exec (.If t b o p) η) m σ Q EQ:=λA G Gc D s l hA U R=>
 wpAny_If (By (h A G Gc D s l hA U R) (λv s₁ q=>by
  obtain⟨D',σ',a,R',q⟩:=q
  cases v with
  |true=>exact By (q.1 rfl A G Gc D' s₁ l hA (U.dx a) R') (λ_ _ q=>q.weak a) λ_ _ q=>q.weak a
  |false=>exact By (q.2 rfl A G Gc D' s₁ l hA (U.dx a) R') (λ_ _ q=>q.weak a) λ_ _ q=>q.weak a) λ_ _ e=>e)
theorem y3N{ss rest:List Stmt}(h:AS C η ν gl true d (execs ss η) m σ (y0z C η ν gl d rest Q EQ)):SE C η ν gl d (execs (ss++rest) η) m σ Q EQ:=λA G Gc D s l hA U R=>by
 refine y0R (By (h _ Gc D s hA R) (λf s' q=> ?_) λ_ _ q=>q.elim)
 obtain⟨fl,m',D',σ',a,b,c,e⟩:=q
 cases f<;>cases fl<;>first|exact b.elim|skip
 ·exact By (e A G Gc D' s' l hA (U.dx a) c) (λ_ _ q=>q.weak a) λ_ _ q=>q.weak a
 ·exact⟨.brk,m',D',σ',a,b,c,e⟩
 ·exact⟨.cont,m',D',σ',a,b,c,e⟩
 ·exact⟨.ret _,m',D',σ',a,b,c,e⟩
theorem z0x(n:Nat){ss:List Stmt}(h:AS C η ν gl true d (execs (ss.take n) η) m σ (y0z C η ν gl d (ss.drop n) Q EQ)):SE C η ν gl d (execs ss η) m σ Q EQ:=by
 have:=y3N h
 rw[List.take_append_drop] at this
 exact this
end
section
variable {C:Cx} {η:Env} {ν:List Str} {gl:LV} {d:Nat} {Q:FP} {EQ:Value->Sto->Prop} {tgt:Expr} {body:List Stmt} {Pp:Sto->Prop}
theorem z8K(I:Nat->Loc->Sto->Prop):∀(ys:List V) (k:Nat) (m:Loc) (σ:Sto),I k m σ->
  (∀(i:Nat) X,ys[i]? =some X->∀m σ,I (k+i) m σ->∀QB:FP,(∀m σ,Pp σ->I (k+i+1) m σ->QB .next m σ)->(∀Z m σ,Q (.ret Z) m σ->QB (.ret Z) m σ)->AA C η ν gl true d (assign tgt η) X m σ λm₁ σ₁=>SE C η ν gl d (execs body η) m₁ σ₁ QB EQ)->
  (∀m σ,I (k+ys.length) m σ->Q .next m σ)->z64 C η ν gl d tgt body Pp Q EQ ys m σ:=by
 intro ys
 induction ys with
 |nil=>intro k m σ hI _ hq;exact hq m σ hI
 |cons X ys ih=>
  intro k m σ hI hb hq
  refine hb 0 X rfl m σ hI _ (λm σ hP hI=>⟨hP,ih (k+1) m σ hI (λi Y hY m σ hI QB h1 h2=> ?_) λm σ hI=> ?_⟩) λZ m σ q=>q
  ·have:=hb (i+1) Y hY m σ (by rw[Nat.add_assoc,Nat.add_comm 1 i] at hI;exact hI) QB (λm σ hP hI=>h1 m σ hP (by rw[show k+1+i=k+(i+1) from Nat.add_right_comm k 1 i];exact hI)) h2
   exact this
  ·exact hq m σ (by rw[Aq,show k+(ys.length+1)=k+1+ys.length from Nat.add_right_comm k _ 1];exact hI)
theorem z8L(I:Nat->Loc->Sto->Prop){iter:Expr}{p:Pos}{m:Loc}{σ:Sto}(h:AI C η ν gl true d iter tgt m σ λxs Pp σ₁=>I 0 m σ₁/\
  (∀(i:Nat) X,xs[i]? =some X->∀m σ,I i m σ->∀QB:FP,(∀m σ,Pp σ->I (i+1) m σ->QB .next m σ)->(∀Z m σ,Q (.ret Z) m σ->QB (.ret Z) m σ)->AA C η ν gl true d (assign tgt η) X m σ λm₁ σ₁=>SE C η ν gl d (execs body η) m₁ σ₁ QB EQ)/\
  ∀m σ,I xs.length m σ->Q .next m σ)
  (hs:autoParam (∀x,foldedSetIterable iter η x=pure x) auF):SE C η ν gl d (exec (.For tgt iter body [] p) η) m σ Q EQ:=by
 refine y0r ?_ hs
 intro A G D s hA R
 refine By (h A G D s hA R) (λx s₁ h₁=>By h₁ (λit s₂ hpp=> ?_) λ_ _ e=>e) λ_ _ e=>e
 obtain⟨D',σ',xs,P,a,b,c1,c2,c3⟩:=hpp
 refine⟨D',σ',xs,P,a,b,z8K I xs 0 _ _ c1 (λi X hX m σ hI=> ?_) λm σ hI=>c3 m σ (by rw[AP] at hI;exact hI)⟩
 rw[AP] at hI⊢
 exact c2 i X hX m σ hI
end
section
variable {C:Cx} {d:Nat} {σ:Sto} {Q:VP}
theorem F2.at{α β:Type}{R:α->β->Prop}{xs:List α}{ys:List β}(h:F2 R xs ys):xs.length=ys.length/\∀(j:Nat) X Y,xs[j]? =some X->ys[j]? =some Y->R X Y:=by
 induction h with
 |nil=>exact⟨rfl,λj X Y h=>by cases h⟩
 |cons a _ ih=>
  refine⟨congrArg (·+1) ih.1,λj X Y h1 h2=> ?_⟩
  cases j with
  |zero=>cases h1;cases h2;exact a
  |succ j=>exact ih.2 j X Y h1 h2
theorem Dn.tF{n:Nat}{xs ys:List V}(h:F2 (Dn σ n) xs ys)(hl:xs.length<=200:=by with_unfolding_all exact AH rfl):Dn σ (n+1) (.tup xs) (.tup ys):= .tup h.at.1 hl h.at.2
theorem Dn.lF{n:Nat}{xs ys:List V}(h:F2 (Dn σ n) xs ys)(hl:xs.length<=200:=by with_unfolding_all exact AH rfl):Dn σ (n+1) (.lst xs) (.lst ys):= .lst h.at.1 hl h.at.2
end
section
variable {C:Cx} {η:Env} {ν:List Str} {gl:LV} {d:Nat} {m:Loc} {σ:Sto} {Q:FP} {EB EQ:Value->Sto->Prop} {P:VP}
class inductive Hnd (K:W.Frag) (gl:LV) (c:Value) (P:List Stmt->Prop):List ExceptHandler->Prop
 |here {y:Str} {np hp:Pos} {cP:Addr} {b₀:Stmt} {suite:List Stmt} {rest:List ExceptHandler}:(y,V.ref cP)∈gl->W.exmOne K c (.ref cP)=some true->P (b₀::suite)->Hnd K gl c P (.ExceptHandler (some (.Name y np)) none (b₀::suite) hp::rest)
 |next {y:Str} {np hp:Pos} {cP:Addr} {body:List Stmt} {rest:List ExceptHandler}:(y,V.ref cP)∈gl->W.exmOne K c (.ref cP)=some false->Hnd K gl c P rest->Hnd K gl c P (.ExceptHandler (some (.Name y np)) none body hp::rest)
theorem y2h{K:W.Frag}(HK:K.In C.base){A:Around}{G Gc D:Gh}{l:List Env}(hA:C9 C (A.deeper η) d)(U:Up C η A G Gc D l){c:Value}{τ:Sto}{hs:List ExceptHandler}
  (hd:Hnd K gl c (λss=>∀h a k,AS (z4t C h a k) η ν gl true d (execs ss η) (noL ν) τ λf _ σ'=>Q f (noL ν) σ') hs):∀{e:Value} {s₃:Shared},FlyN C η ν gl Gc D (λc' τ'=>c=c'/\τ=τ') .none e s₃->wpAny C.M (A.deeper η) (handleBy e η hs) (D1 C η ν gl true Gc D Q) (D6 C η ν gl Gc D EQ) s₃:=by
 induction hd with
 | @next y np hp cP body rest hP hm _ ih=>
  intro e s₃ q
  have q':=q
  refine nG λhG=> ?_
  obtain⟨a,T,D',m',τ,c,rfl,dx,R₃,na,x,nT,rfl,rfl⟩:=q
  refine hG ?_
  refine wpAny_handleBy_cons (codeAny_handlers_test (z7h hP R₃ ?_)) (by intro q;cases q)
  refine nG λhG=> ?_
  obtain⟨oe,vs,g1,g2,g3,g6,g7⟩:=x.ex
  refine hG ?_
  refine(W.exm_one (K:=K) (h:=s₃.heap) (λb o e=>R₃.bs b o (HK b o e)) (g2▸(W.Looks.ld g1).andThen .now) hm).here ?_
  exact ih q'
 | @here y np hp cP b₀ suite rest hP hm hk=>
  intro e s₃ q
  have f₃:=q
  refine nG λhG=> ?_
  obtain⟨a,T,D',m',τ,c,rfl,dx,R₃,na,x,nT,rfl,rfl⟩:=q
  refine hG ?_
  refine wpAny_handleBy_cons (codeAny_handlers_test (z7h hP R₃ ?_)) (by intro q;cases q)
  refine nG λhG=> ?_
  obtain⟨oe,vs,g1,g2,g3,g6,g7⟩:=x.ex
  refine hG ?_
  refine(W.exm_one (K:=K) (h:=s₃.heap) (λb o e=>R₃.bs b o (HK b o e)) (g2▸(W.Looks.ld g1).andThen .now) hm).here ?_
  show codeAny _ _ _ _ s₃
  refine codeAny_handlers_suite (By (f₃.off U) (λ_ s₄ q=> ?_) λ_ _ q=>q)
  refine nG λhG=> ?_
  obtain⟨a',T',D₄,m₄,_,_,ea,dx₄,R₄,na₄,x₄,nT₄,rfl,rfl⟩:=q
  refine hG ?_
  have ea:a=a':=Value.ref.inj ea
  subst ea
  refine nG λhG=> ?_
  obtain⟨oe,vs,g1,g2,g3,g6,g7⟩:=x₄.ex
  refine hG ?_
  have off:Off η ν Gc D₄ τ [a]:=λb hb=>by
   rw[Af.mp hb]
   refine⟨na₄.1,na₄.2.1,na₄.2.2,?_⟩
   rintro (q|⟨i,z,e1,e2,e3⟩)
   ·refine nG λhG=> ?_
    obtain⟨mm,⟨o,es,ep,ho,hd',_⟩,_⟩:=R₄.ns
    refine hG ?_
    rw[<-q,g1] at ho
    rw[Bs ho] at g3
    exact nomatch hd'.symm.trans g3
   ·refine nG λhG=> ?_
    obtain⟨_,⟨ov,⟨o,ho,hd'⟩,_⟩,_⟩:=R₄.cl i z a e1 e2 e3
    refine hG ?_
    rw[g1] at ho
    rw[Bs ho] at g3
    exact nomatch hd'.symm.trans g3
  have kk:∀b o,C.base.get? b=some o->s₄.heap.get? b=some o:=R₄.bs
  have R₅:A3 (z4t C s₄.heap a kk) η ν gl true (z2w Gc [a] s₄.heap) D₄ (noL ν) τ s₄:=A3.forget (y1h ν) (R₄.held (k:=kk) off ⟨oe,g1⟩)
  have hA':C9 (z4t C s₄.heap a kk) ((A.deeper η).mark (some (.ref a))) d:=⟨λy e=>by cases e;rfl,(λl e=>nomatch e),hA.depth,hA.units⟩
  refine By (hk s₄.heap a kk _ _ D₄ s₄ hA' R₅) (λf s₆ q=> ?_) λ_ _ q=>q.elim
  refine nG λhG=> ?_
  obtain⟨fl,m₇,D₇,σ₇,dx₇,hfl,R₇,q⟩:=q
  refine hG ?_
  refine nG λhG=> ?_
  obtain⟨R₈,dx₈,_⟩:=R₇.unheld.lessW off R₄.base dx₇ (λb hb=>by rw[Af.mp hb];exact⟨oe,g1⟩)
  refine hG ?_
  exact⟨fl,noL ν,D₇,σ₇,dx₄.trans dx₈,hfl,A3.forget (y1h ν) R₈,q⟩
theorem z4N{body:List Stmt}{pos:Pos}{h₀:ExceptHandler}{hs:List ExceptHandler}{K:W.Frag}(HK:K.In C.base)(h:SE C η ν gl d (execs body η) m σ Q EB)
  (hh:∀c τ,EB c τ->Hnd K gl c (λss=>∀h a k,AS (z4t C h a k) η ν gl true d (execs ss η) (noL ν) τ λf _ σ'=>Q f (noL ν) σ') (h₀::hs)):
  SE C η ν gl d (exec (.Try body (h₀::hs) [] [] pos) η) m σ Q EQ:=λA G Gc D s l hA U R=>by
 refine wpAny_Try_except (By (h A G Gc D s l hA U R) (λf s₁ q=> ?_) λe s₁ q=> ?_)
 ·cases f with
  |next=>exact wpAny_execs_nil q
  |_=>exact q
 ·refine By (q.note U) (λ_ s₂ q=>By (q.off U) (λ_ s₃ q=> ?_) λ_ _ q=>q) λ_ _ q=>q
  obtain⟨a,T,D',m',τ,c,rfl,dx,R₃,na,x,nT,hq⟩:=q
  exact y2h HK hA U (hh c τ hq) ⟨a,T,D',m',τ,c,rfl,dx,R₃,na,x,nT,rfl,rfl⟩
theorem z1h{K:W.Frag}{c f:Addr}{o e:Expr}{rest:List Expr}{name:Str}{ap p:Pos}(hM:B3 C K c name f)
  (h:AT C η ν gl true d (eval o η) m σ λX σ₁=>z4p c name X σ₁ λx=>LE C η ν gl d (spliced (backTo p (starEach (e::rest) η))) m σ₁ (λXs σ₂=>CE C d (.ref f) (.ref x::Xs) σ₂ P EQ) EQ)
  (hbase:autoParam (attributeBase o name η (eval o η)=eval o η) auR) (hline:autoParam ((ap.endLine==p.line)=true) auR)
  (he:autoParam (starEach (e::rest) η=(false,eval e η)::starEach rest η) auR) (hplain:autoParam ((backTo p (starEach rest η)).any (·.1)=false) auR)
  (hfew:autoParam (((backTo p (starEach (e::rest) η)).all (λx=> !x.1)&&(backToKw p (keywordEach [] η)).all (λx=>x.1.isSome)&&decide ((e::rest).length+([]:List Keyword).length+(if([]:List Keyword).isEmpty then 0 else 1)<30))=true) auR):
  TE C η ν gl d (eval (.Call (.Attribute o name ap) (e::rest) [] p) η) m σ P EQ:=λA G Gc D s l hA U R=>by
 rw[arm_eval_Call,hbase]
 refine Bx (By (h _ Gc D s hA R) (λv s₁ q=> ?_) λ_ _ e=>e.elim)
 refine nG λhG=> ?_
 obtain⟨X,D₁,σ₁,a,b,c₁,hpp⟩:=q
 refine hG ?_
 refine nG λhG=> ?_
 obtain⟨x,dx,fs,hX,⟨ob,hm⟩,hsh,hk⟩:=hpp
 refine hG ?_
 subst hX
 apply VR.refE b
 refine Bx (wpAny_standAt ?_)
 have hform:methodCallForm ((e::rest).length+([]:List Keyword).length) (backTo p (starEach (e::rest) η)) (backToKw p (keywordEach [] η))=true:=hfew
 have hpos:methodCallPos true o η ap p=pure p:=by unfold methodCallPos;simp[hline]
 unfold methodCall
 rw[hform]
 refine nG λhG=> ?_
 obtain⟨es,n,rfl,hr⟩:=c₁.sto _ hm
 refine hG ?_
 have hl:=(FR.look (name:=name) hr)
 have hshadow:W.shadowIn (some (z1G es n)) name=some false:=by
  unfold W.shadowIn W.lookIn
  rcases hl.2 with⟨_,e2⟩|⟨_,_,e1,_,_⟩
  ·simp[e2,hl.1]
  ·rw[hsh] at e1;cases e1
 refine Bx (wpAny_holding (W.method_fn (hM.kin.keeps c₁.toRelC.baseIn) (z3f c₁.toRelC hm) hM.ga hM.gk hM.fn hM.ty hshadow ?_))
 refine Bx (wpAny_of_eq hpos ?_)
 rw[he] at hk⊢
 refine z0K (F:= .ref f) hM.cal (.ref f) (D:=D₁) hplain (Calls.evalArgs_plain (By (hk A G Gc D₁ s₁ l hA (U.dx a) c₁) (λvs s₂ q=> ?_) λ_ _ q=>q.weak a))
 refine nG λhG=> ?_
 obtain⟨Xs,D₃,σ₂,a',b',R₂,q⟩:=q
 refine hG ?_
 have dx₃:=a.trans a'
 refine⟨R₂.toRelC.baseIn,wpAny_call (codeAny_mono (q _ _ D₃ s₂ (.ref x::vs) (η::l) hA ((U.dx dx₃).push R₂) R₂.lifted (.cons (.ref x) b')) λr s' q=> ?_)⟩
 cases r with
 |error e=>obtain⟨c,τ,hq,f⟩:=q;exact f.here R₂ dx₃ hq
 |ok fl=>
  cases fl with
  |ret v=>obtain⟨x,D',σ',k1,k2,k3,k4⟩:=q;exact⟨x,D',σ',dx₃.trans (R₂.dx k1),k2,R₂.back k3 k1,k4⟩
  |_=>exact q.elim
end
noncomputable def z4I(name:Str)(X:V):LV->LV
 |[]=>[(name,X)]
 |p::r=>if p.1==name then(p.1,X)::r else p::z4I name X r
theorem z7t(name:Str)(X:V):∀fs:LV,(z4I name X fs).length<=fs.length+1
 |[]=>AN _
 |p::r=>by
  unfold z4I
  split
  ·exact Nat.le_succ _
  ·exact Bh (z7t name X r)
theorem FR.putP{w:World}{D:Gh}{name:Str}{v:Value}{X:V}{t:Tok}(hv:VR w D v X):∀{es:List DictEntry} {fs:LV},FR w D es fs->
  FR w D (W.putL name (hashStr w name) (.str name t) v es) (z4I name X fs)
 |[],[],_=>⟨⟨t,rfl⟩,rfl,hv,trivial⟩
 |e::es,(n,x)::fs,⟨⟨t',hk⟩,hh,hx,hr⟩=>by
  cases q:n==name with
  |false=>
   have e1:(e.key.isStr name)=false:=by rw[hk];simp[Value.isStr];intro h;rw[h] at q;simp at q
   unfold W.putL z4I
   rw[e1,q]
   exact⟨⟨t',hk⟩,hh,hx,FR.putP hv hr⟩
  |true=>
   have e1:(e.key.isStr name)=true:=by rw[hk,BF q];simp[Value.isStr]
   unfold W.putL z4I
   rw[e1,q]
   exact⟨⟨t',hk⟩,hh,hv,hr⟩
 |[],_::_,h=>h.elim
 |_::_,[],h=>h.elim
section
variable {C:Cx} {η:Env} {ν:List Str} {gl:LV} {own:Bool} {d:Nat} {m m':Loc} {σ:Sto} {σ':Obj->Sto} {P:VP} {QS:FP} {G D:Gh} {s:Shared}
theorem z7C{K:W.Frag}{c x dx:Addr}{ob:Obj}{fs:LV}{name:Str}{X:V}{v:Value}{A:Around}{Z:Unit->Shared->Prop}{E:Value->Shared->Prop}(hM:E4 C K c name)
  (U:∀o',F9 x ob (.inst c dx fs) o' (.inst c dx (z4I name X fs)) σ (σ' o')) (hz:fs.length<=100) (R:RelC C G D σ s) (hv:VR C.w D v X)
  (q:∀o' s',RelC C G D (σ' o') s'->Z () s'):wpAny C.M A (setAttr (.ref x) name v) Z E s:=by
 have hm:(x,ob,AO.inst c dx fs)∈σ:=(U ob).mem
 have X0:=hM.kin.keeps R.baseIn
 have I:=z3f R hm
 obtain⟨hx,hdx⟩:s.heap.get? x=some (z84 c dx)/\s.heap.get? dx=some ob:=R.pl _ hm
 obtain⟨es,n,rfl,hr⟩:∃es n,ob=z1G es n/\FR C.w D es.toList fs:=R.sto _ hm
 obtain⟨cd,hc,hd'⟩:=W.any_some hM.hd
 refine W.set_plain X0 I hM.sa (W.osa_open (s:={s with toks:=s.toks+1}) X0 I hM.po hM.ta λb=> ?_)
 refine Bx (wpAny_pure (Bx (Bx (wpAny_loadPart hx (Bx (W.Looks.here (s:={s with toks:=s.toks+1}) (W.looks_clsIn X0 hc) ?_))))))
 rw[hd']
 refine wpAny_pure (a:=some dx) (Bx (wpAny_pure (Bx ?_)))
 unfold nsSet
 refine Bx (Bx (wpAny_askSetting (wpAny_pure (Bx (wpAny_mkText (Bx (wpAny_loadPart hdx ?_)))))))
 dsimp only
 have hL:=FR.look (name:=name) hr
 have c1:(!es.any (·.key.isStr name)&&es.any (·.refKey))=false:=by
  rw[<-Array.any_toList,<-Array.any_toList,hL.1,Bool.and_false]
 rw[aRefKeyMayBeTheName_at,c1]
 refine wpAny_updatePart hdx ?_
 have ef:Obj.putName name (PyData.keyHash C.w.params name) (.str name (s.toks+1)) v (z1G es n)=W.dictOf (W.putL name (hashStr C.w name) (.str name (s.toks+1)) v es.toList) (W.putN name es.toList n):=by
  have:=W.putName_dict name (PyData.keyHash C.w.params name) (.str name (s.toks+1)) v es.toList n
  have e0:W.dictOf es.toList n=z1G es n:=by show({cls:=_,data:= .dict es.toList.toArray n}:Obj)=_;rw[Array.toArray_toList]
  rw[e0] at this
  exact this
 have hr':=FR.putP (name:=name) (t:=s.toks+1) hv hr
 have hself:=Heap.get?_update_self (Obj.putName name (PyData.keyHash C.w.params name) (.str name (s.toks+1)) v) hdx (by rw[ef];rfl)
 rw[ef] at hself
 have hne:x≠dx:=by
  obtain⟨u,w,e,_⟩:=(U (z1G es n)).split
  have nd:=R.nd
  rw[e,z0s] at nd
  have:([x,dx]++A5 w).Nodup:=(List.nodup_append.mp nd).2.1
  intro h;subst h
  simp at this
 refine Bx (wpAny_lookBehind hself (by
  refine pastItsLine_dict ?_
  rw[List.size_toArray,hr'.len];exact Ac (z7t name X fs) (Bh (nD hz rfl))) ?_)
 refine wpAny_pure (q _ _ (R.upd (U _) (s.toks+2) (b:=dx) (by simp[z0z]) (Heap.SameBut.update ..) rfl ⟨?_,hself⟩ ⟨_,_,rfl,by simpa using hr'⟩))
 rw[Heap.get?_update_ne _ _ _ _ hne];exact hx
theorem z47{K:W.Frag}{c:Addr}{o value:Expr}{name:Str}{p' p:Pos}(hM:E4 C K c name)
  (h:AT C η ν gl own d (eval value η) m σ λX σ₁=>AT C η ν gl own d (eval o η) m σ₁ λY σ₂=>∃x dx fs,Y= .ref x/\At σ₂ x (.inst c dx fs)/\fs.length<=100/\∀σ',C5 σ₂ σ' x (.inst c dx (z4I name X fs))->QS .next m σ')
  (hs:autoParam (swapsWith value (some (.Attribute o name p')) p.line η=pure false) auR):AS C η ν gl own d (exec (.Assign [.Attribute o name p'] value p) η) m σ QS:=λA G D s hA R=>
 plainObj_wpAny_Assign_Attribute (h.run hA R λv s₁ X D₁ σ₁ a b c₁ e=>e.run hA c₁ λu s₂ Y D₂ σ₂ a' b' c₂ hpp=>by
  obtain⟨x,dx,fs,hY,hat,hz,q⟩:=hpp
  subst hY;cases b'
  obtain⟨ob,σ',U,US⟩:=hat.upd (.inst c dx (z4I name X fs))
  exact z7C hM U hz c₂.lifted (b.mono a'.sub) λo' s' R'=>⟨.next,m,D₂,_,a.trans a',trivial,c₂.back R' (DX.refl _ _),q _ (US o')⟩) hs
end
section
open PySem PySem.Spec PySem.Builtin PySem.Builtin.Str PyProof.Rows
section
variable {C:Cx} {d:Nat} {σ:Sto} {Q:VP}
theorem z6f{w:World}{D:Gh}:∀l:List (Str×Tok),A6 w D (strValues l) ((l.map (·.1)).map V.str)
 |[]=> .nil
 |p::l=> .cons (.str p.1 p.2) (z6f l)
theorem M_split:B9 "str" "split" "str.split":=⟨F.plainAttrs_str,F.slot_str_split,F.type_str_split⟩
theorem z8I{x y:Str}(hy:(y.length==0)=false)(hsz:x.length+2<=sizeLine)(q:NLf Q ((Txt.split x y).map V.str) σ):KW C d (.bi "str.split") [.str x,.str y] σ Q:=λA G D s v vs hA R hv hss=>by
 apply VR.biE hv
 apply A6.consE hss;intro _ _ h1 h2
 apply A6.consE h2;intro _ _ h3 h4
 apply A6.nilE h4
 apply VR.strE h1;intro t
 apply VR.strE h3;intro u
 have hn:(partsBetween x (occurrences x y 0 x.length (x.length+1)) y.length).length<=sizeLine:=by
  have e1:=StrLaws.occ_length_le x y 0 x.length (x.length+1)
  rw[length_partsBetween];exact Ac (Bh e1) hsz
 have fin:∀(l:List (Str×Tok)) (k:Nat),l.map (·.1)=Txt.split x y->A0 C G D Q (.ref s.heap.objs.size) {s with heap:=s.heap.push (z0q (strValues l).toArray 0),toks:=k}:=λl k e=>by
  have:=(R.tok k).mkLf (vs:=strValues l) (Xs:=(Txt.split x y).map V.str) (by rw[<-e];exact z6f l) q
  exact this
 cases h1:(decide (x.length<y.length)||decide (strKind x<strKind y))
 ·cases hf:(occurrences x y 0 x.length (x.length+1)).isEmpty
  ·refine call_meets F.slot_str_split (typeIs_str _ _ _) F.entry_str_split (F.args_str_split_2 _ _) (meets_str_split_sep x y t u h1 hy hf (Ac (Bn _ _) hsz) hn) ?_
   show wants _ _ _ {s with toks:=_,heap:=s.heap.push {cls:= .type "list",data:= .seq (strsFrom s.toks (partsBetween x (occurrences x y 0 x.length (x.length+1)) y.length)).toArray}}
   rw[strsFrom_eq]
   exact fin (numbered s.toks _) _ ((numbered_texts _ _).trans ((if_neg (ne_true_of_eq_false h1)).trans (if_neg (ne_true_of_eq_false hf))).symm)
  ·exact call_meets F.slot_str_split (typeIs_str _ _ _) F.entry_str_split (F.args_str_split_2 _ _) (meets_str_split_not_found x y t u h1 hy hf) (fin [(x,t)] s.toks ((if_neg (ne_true_of_eq_false h1)).trans (if_pos hf)).symm)
 ·exact call_meets F.slot_str_split (typeIs_str _ _ _) F.entry_str_split (F.args_str_split_2 _ _) (meets_str_split_cannot_occur x y t u h1) (fin [(x,t)] s.toks (if_pos h1).symm)
theorem y0h{x:Str}{n:Int}(hn:PySem.intText? x=some n)(hl:x.length<=640)(q:Q (.int n) σ):KW C d (.type "int") [.str x] σ Q:=λA G D s v vs hA R hv hss=>by
 apply VR.typeE hv
 apply A6.consE hss;intro _ _ h1 h2
 apply A6.nilE h2
 apply VR.strE h1;intro t
 exact W.KIN.call_text hn hl (A0.now (R.tok _) (.int _ _) q)
end
end
noncomputable def wl:List (List Nat)->List Nat
 |[]=>[]
 |[w]=>w
 |w::v::r=>w++32::wl (v::r)
theorem join_wl:∀ws:List Str,(Str.join ⟨#[32]⟩ ws).cps.toList=wl (ws.map λw=>w.cps.toList)
 |[]=>rfl
 |[w]=>rfl
 |w::v::r=>by
  have ih:=join_wl (v::r)
  show(w.cps++ #[32]++(Str.join ⟨#[32]⟩ (v::r)).cps).toList=_
  rw[Array.toList_append,Array.toList_append,ih]
  show w.cps.toList++[32]++_=_
  rw[Ao];rfl
theorem y19{a b x y:List Nat}(ha:32∉a)(hb:32∉b)(h:a++32::x=b++32::y):a=b/\x=y:=by
 induction a generalizing b with
 |nil=>
  cases b with
  |nil=>exact⟨rfl,(Bt h).2⟩
  |cons c b=>exact absurd (Ae.mpr (.inl (Bt h).1)) hb
 |cons c a ih=>
  cases b with
  |nil=>exact absurd (Ae.mpr (.inl (Bt h).1.symm)) ha
  |cons e b=>
   obtain⟨h1,h2⟩:=Bt h
   obtain⟨h3,h4⟩:=ih (λhm=>ha (.tail _ hm)) (λhm=>hb (.tail _ hm)) h2
   exact⟨by rw[h1,h3],h4⟩
theorem wl_inj:∀{us vs:List (List Nat)},us≠[]->vs≠[]->(∀w∈us,32∉w)->(∀w∈vs,32∉w)->wl us=wl vs->us=vs
 |[],_,h,_,_,_,_=>absurd rfl h
 |_,[],_,h,_,_,_=>absurd rfl h
 |[u],[v],_,_,_,_,h=>congrArg (λx=>[x]) h
 |[u],v::v'::r,_,_,hu,_,h=>by
  have h:u=v++32::wl (v'::r):=h
  exact absurd (by rw[h];exact Aj _ (.head _)) (hu u (.head _))
 |u::u'::r,[v],_,_,_,hv,h=>by
  have h:u++32::wl (u'::r)=v:=h
  exact absurd (by rw[<-h];exact Aj _ (.head _)) (hv v (.head _))
 |u::u'::r,v::v'::r',_,_,hu,hv,h=>by
  have h:u++32::wl (u'::r)=v++32::wl (v'::r'):=h
  obtain⟨h1,h2⟩:=y19 (hu u (.head _)) (hv v (.head _)) h
  rw[h1,wl_inj (us:=u'::r) (vs:=v'::r') (λe=>nomatch e) (λe=>nomatch e) (λw hw=>hu w (.tail _ hw)) (λw hw=>hv w (.tail _ hw)) h2]
theorem z7H{x:Str}{ws:List Str}(hne:ws≠[])(hf:∀w∈ws,32∉w.cps.toList)(hx:x.cps.toList=wl (ws.map λw=>w.cps.toList)):Txt.split x ⟨#[32]⟩=ws:=by
 have h1:=StrLaws.join_split x ⟨#[32]⟩
 have h2:=StrLaws.split_free x 32
 have h3:=PyProof.Rows.split_pos x ⟨#[32]⟩
 generalize Txt.split x ⟨#[32]⟩=L at h1 h2 h3
 have e:=join_wl L
 rw[h1,hx] at e
 have hL:L.map (λw=>w.cps.toList)≠[]:=λe=>by rw[List.map_eq_nil_iff] at e;rw[e] at h3;exact absurd h3 (by decide)
 have hW:ws.map (λw=>w.cps.toList)≠[]:=λe=>hne (List.map_eq_nil_iff.mp e)
 have:=wl_inj hW hL (λw hw=>by obtain⟨v,hv,rfl⟩:=Ah.mp hw;exact hf v hv) (λw hw=>by obtain⟨v,hv,rfl⟩:=Ah.mp hw;exact h2 v hv) e
 have inj:Function.Injective (λw:Str=>w.cps.toList):=λa b h=>by
  cases a;cases b
  exact congrArg Str.mk (Array.toList_inj.mp h)
 exact(List.map_inj_right (λa b h=>inj h)).mp this.symm
noncomputable def y3U(n:Nat):Str:=Str.ofString (toString (n:Int))
section
open PySem PySem.Spec
noncomputable def mS(val:Nat->Str):Nat->Str->Bool
 |0,_=>false
 |i+1,k=>mS val i k||decide (k=val i)
noncomputable def mN(val:Nat->Str):Nat->Nat
 |0=>0
 |i+1=>if mS val i (val i) then mN val i else mN val i+1
theorem z9b(val:Nat->Str):∀i,mN val i<=i
 |0=>AN _
 |i+1=>by
  have:=z9b val i
  unfold mN
  split
  ·exact Nat.le_succ_of_le this
  ·exact Bh this
theorem z8h(val:Nat->Str)(k:Str):∀i,mS val i k=true↔∃j,j<i/\val j=k
 |0=>⟨(λh=>by cases h),λ⟨j,h,_⟩=>absurd h (Nat.not_lt_zero j)⟩
 |i+1=>by
  unfold mS
  rw[AV,z8h val k i,decide_eq_true_iff]
  constructor
  ·rintro (⟨j,h1,h2⟩|h)
   ·exact⟨j,Nat.lt_succ_of_lt h1,h2⟩
   ·exact⟨i,Nat.lt_succ_self i,h.symm⟩
  ·rintro ⟨j,h1,h2⟩
   rcases Nat.lt_succ_iff_lt_or_eq.mp h1 with h|h
   ·exact .inl ⟨j,h,h2⟩
   ·subst h;exact .inr h2.symm
theorem z7m(val:Nat->Str):∀n,(mN val n=n/\∀i j,i<j->j<n->val i≠val j)∨(mN val n<n/\∃i j,i<j/\j<n/\val i=val j)
 |0=> .inl ⟨rfl,λi j _ h=>absurd h (Nat.not_lt_zero j)⟩
 |n+1=>by
  have ih:=z7m val n
  have hle:=z9b val n
  unfold mN
  by_cases h:mS val n (val n)=true
  ·rw[if_pos h]
   obtain⟨j,h1,h2⟩:=(z8h val (val n) n).mp h
   exact .inr ⟨Nat.lt_succ_of_le hle,j,n,h1,Nat.lt_succ_self n,h2⟩
  ·rw[if_neg h]
   rcases ih with⟨e,k⟩|⟨e,i,j,h1,h2,h3⟩
   ·refine .inl ⟨by rw[e],λi j h1 h2 e2=> ?_⟩
    rcases Nat.lt_succ_iff_lt_or_eq.mp h2 with h2|h2
    ·exact k i j h1 h2 e2
    ·subst h2;exact h ((z8h val (val j) j).mpr ⟨i,h1,e2⟩)
   ·exact .inr ⟨Nat.succ_lt_succ e,i,j,h1,Nat.lt_succ_of_lt h2,h3⟩
noncomputable def y0J(ws:List Str):Nat:=mN (λi=>ws.getD i "") ws.length
theorem z8S(ws:List Str):y0J ws<ws.length↔¬ws.Nodup:=by
 have e:∀i (h:i<ws.length),ws.getD i ""=ws[i]:=λi h=>by rw[List.getD_eq_getElem?_getD,Ar h];rfl
 unfold y0J
 rcases z7m (λi=>ws.getD i "") ws.length with⟨h,k⟩|⟨h,i,j,h1,h2,h3⟩
 ·refine⟨λq=>absurd q (by rw[h];exact Nat.lt_irrefl _),λq=>absurd ?_ q⟩
  refine List.nodup_iff_pairwise_ne.mpr (List.pairwise_iff_getElem.mpr λi j hi hj hij=> ?_)
  have:=k i j hij hj
  rw[e i hi,e j hj] at this;exact this
 ·refine⟨λ_ q=> ?_,λ_=>h⟩
  have:=List.pairwise_iff_getElem.mp (List.nodup_iff_pairwise_ne.mp q) i j (AY h1 h2) h2 h1
  have h3:ws.getD i ""=ws.getD j "":=h3
  rw[e i (AY h1 h2),e j h2] at h3
  exact this h3
section
variable {prog:Program} {w:World} {A:Around} {R:Result->Shared->Prop} {I:Addr} {fp wr:List Addr} {G:Array GenState->Array GenState->Prop} {n:Nat} {P:Nat->Value->Prop} {St:Nat->Shared->Prop}
theorem y1u(W:WalksS prog w A.in1 I fp wr G n P St)(S:Addr)(hSf:S∉fp)(val:Nat->Str)(hval:∀i v,P i v->∃t,v= .str (val i) t)(hb:n+1<scanBound):
  ∀(k i:Nat) (s:Shared),n-i=k->i<=n->St i s->s.heap.SetOf (PySem.strKind prog w) S (mS val i) (mN val i)->
   (∀s',PySem.Moved (S::wr) G s s'->s'.heap.SetOf (PySem.strKind prog w) S (mS val n) (mN val n)->R (.ok (.ret .none)) s')->
   codeAny (model prog w) A (.builtin "set.update.loop" ⟨[.ref S,.ref I],[]⟩) R s:=by
 have hSw:S∉wr:=λh=>hSf (W.sub _ h)
 have hsub:∀b∈wr,b∈S::wr:=λb hb=>List.mem_cons_of_mem _ hb
 intro k
 induction k with
 |zero=>
  intro i s hk hi hst hS hR
  obtain rfl:i=n:=Nat.le_antisymm hi (Nat.le_of_sub_eq_zero hk)
  refine codeAny_builtin PyProof.Rows.F.entry_set_update_loop ?_
  rw[Around.under_plainId PyProof.Rows.F.plain_set_update_loop _]
  show wpAny _ A.in1 (pyNext (.ref I)>>=_) _ _ s
  refine Bx (W.done s _ _ hst λs' hm=> ?_)
  show wpAny _ A.in1 (ret Value.none) _ _ s'
  exact wpAny_pure (hR s' (hm.mono hsub) (by
   obtain⟨o,es,ep,t,ho,rest⟩:=hS
   exact⟨o,es,ep,t,hm.heap S _ hSw ho,rest⟩))
 |succ k ih=>
  intro i s hk hi hst hS hR
  have hlt:i<n:=Nat.lt_of_sub_pos (by rw[hk];exact Nat.succ_pos k)
  refine codeAny_builtin PyProof.Rows.F.entry_set_update_loop ?_
  rw[Around.under_plainId PyProof.Rows.F.plain_set_update_loop _]
  show wpAny _ A.in1 (pyNext (.ref I)>>=_) _ _ s
  refine Bx (W.item i s _ _ hlt hst λv s' hP hst' hm=> ?_)
  obtain⟨t,rfl⟩:=hval i v hP
  have hS':s'.heap.SetOf (PySem.strKind prog w) S (mS val i) (mN val i):=by
   obtain⟨o,es,ep,tb,ho,rest⟩:=hS
   exact⟨o,es,ep,tb,hm.heap S _ hSw ho,rest⟩
  show wpAny _ A.in1 (holding [Value.str (val i) t] (setAdd S (.str (val i) t))>>=_) _ _ s'
  refine Bx (wpAny_holding ?_)
  unfold setAdd
  refine wpAny_holding ?_
  refine Bx ((PySem.strKind prog w).pyHash (k:=val i) (strKind_is _ _ _ _) ?_)
  have hroom:mN val i+1<scanBound:=AG (Bh (Ac (z9b val i) hi)) hb
  refine wpAny_setAddHashed_of (knd:=PySem.strKind prog w) (s:={s' with toks:=s'.toks+1}) (strKind_is _ _ _ _) rfl hS' hroom λh' hsb hS2=> ?_
  have hSi:h'.SetOf (PySem.strKind prog w) S (mS val (i+1)) (mN val (i+1)):=hS2
  refine wpAny_pure ⟨plainId_quiet PyProof.Rows.F.plain_set_update_loop _,ih (i+1) _ (by rw[<-Nat.sub_sub,hk];rfl) hlt (W.frame _ s' _ _ hst' (Nat.le_succ _) λb hb o e=> ?_) hSi λs'' hm'' hS''=> ?_⟩
  ·rw[hsb.2 b (λh:b=S=>hSf (by rw[<-h];exact hb))];exact e
  ·refine hR s'' (PySem.Moved.trans W.gtrans ((hm.mono hsub).then_heap (Nat.le_succ _) λb o hb e=> ?_) hm'') hS''
   rw[hsb.2 b (λh:b=S=>hb (by rw[h];exact List.mem_cons_self))];exact e
end
section
variable {prog:Program} {w:World} {A:Around} {E:Value->Shared->Prop} {s:Shared}
set_option maxHeartbeats 3200000 in
theorem z5C{l:Addr}{items:Array Value}{val:Nat->Str}{Q:Value->Shared->Prop}(hh:A.handled=none)(hl:s.heap.IsList l items)(hi:∀(i:Nat) (v:Value),items[i]? =some v->∃t,v= .str (val i) t)(hb:items.size+1<scanBound)
  (h:∀(h':Heap) (tk:Nat),h'.SetOf (PySem.strKind prog w) s.heap.objs.size (mS val items.size) (mN val items.size)->(∀b o,b<s.heap.objs.size->s.heap.get? b=some o->h'.get? b=some o)->Q (.ref s.heap.objs.size) {s with heap:=h',toks:=tk}):
  wpAny (model prog w) A (call (.type "set") [.ref l]) Q E s:=by
 obtain⟨c,tl,hmro⟩:=F.called_set.mro
 have hmade:=F.called_set.made
 have hsub:=F.called_set.sub
 refine wpAny_call (codeAny_of_tree ?_)
 show wpAny _ _ (callAny (.type "set") _) _ _ _
 refine wpAny_pure ⟨Code.quiet_builtin _ (by decide+kernel),codeAny_builtin F.entry_type_call ?_⟩
 rw[Around.under_plain (weight_type_call_type "set" [.ref l] []) rfl]
 have h1:=F.called_set.notType
 have h2:=F.called_set.canCreate
 have hct:=F.typeCall_set_1 (.ref l)
 repeat (any_goals (first|assumption|wp_step))
 refine codeAny_mono (code_set_new_1 (.ref l) (E:=E) (Q₁:=λobj s₁=>∃led:Bool,obj= .ref s.heap.objs.size/\s₁={s with heap:=s.heap.push {cls:= .type "set",dict:=none,data:= .set #[] 0 (.fresh 0 0 led)}}) λled=>⟨led,rfl,rfl⟩) λr s₁ hr=> ?_
 cases r with
 |error e=>exact hr
 |ok fl=>
  cases fl with
  |ret obj=>
   obtain⟨led,rfl,rfl⟩:=hr
   have hS:(s.heap.push {cls:= .type "set",dict:=none,data:= .set #[] 0 (.fresh 0 0 led)}).get? s.heap.objs.size=some {cls:= .type "set",dict:=none,data:= .set #[] 0 (.fresh 0 0 led)}:=Heap.get?_push_size _ rfl
   have hT:Shared.TypeIs {s with heap:=s.heap.push {cls:= .type "set",dict:=none,data:= .set #[] 0 (.fresh 0 0 led)}} (.ref s.heap.objs.size) "set":=⟨_,hS,rfl⟩
   have hli:=F.called_set.init.lookup
   have hbi:=F.called_set.init.bind (.ref s.heap.objs.size)
   repeat (any_goals (first|assumption|wp_step))
   refine codeAny_mono (codeAny_call_builtin (R:=wants (λr s₂=>r= .none/\∃h' tk,s₂={s with heap:=h',toks:=tk}/\
     h'.SetOf (PySem.strKind prog w) s.heap.objs.size (mS val items.size) (mN val items.size)/\
     (∀b o,b<s.heap.objs.size->s.heap.get? b=some o->h'.get? b=some o)) E) F.called_set.init.plain F.entry_set_init (check_set_init_1 hT ?_)) λr₂ s₂ hr₂=> ?_
   ·obtain⟨ol,hol,hcl,nl,hdl⟩:=hl
    obtain⟨ocls,odict,odata,oslots⟩:=ol
    simp only at hcl hdl
    subst hcl;subst hdl
    have hol':(s.heap.push {cls:= .type "set",dict:=none,data:= .set #[] 0 (.fresh 0 0 led)}).get? l=some {cls:= .type "list",dict:=odict,data:= .seq items nl,slots:=oslots}:=Heap.get?_push_of_some _ hol
    have hsls:=F.sub_list_set
    have hslf:=F.sub_list_frozenset
    have hne:(Value.type "list"==Value.type "dict")=false:=by decide
    have hl1:(s.heap.push {cls:= .type "set",dict:=none,data:= .set #[] 0 (.fresh 0 0 led)}).IsList l items:=⟨_,hol',rfl,nl,rfl⟩
    unfold Builtin.«set.__init__» noKeywords Builtin.Frozenset.updateFrom
    generalize hPI:pyIter=PI
    wp_walk
    subst hPI
    refine wpAny_pyIter_list hl1 ?_
    refine Bx (wpAny_runValue ?_)
    have hlS:l<s.heap.objs.size:=Heap.lt_size hol
    have hh3:A.in1.in1.in1.handled=none:=by simp[hh]
    have hneI:l≠(s.heap.push {cls:= .type "set",dict:=none,data:= .set #[] 0 (.fresh 0 0 led)}).objs.size:=by
     rw[Heap.size_push];exact Bq (Nat.lt_succ_of_lt hlS)
    have hSf:s.heap.objs.size∉[(s.heap.push {cls:= .type "set",dict:=none,data:= .set #[] 0 (.fresh 0 0 led)}).objs.size,l]:=by
     rw[Heap.size_push];simp only[Ae,Af,Av,or_false,not_or]
     exact⟨Bq (Nat.lt_succ_self _),Nat.ne_of_gt hlS⟩
    refine y1u ((Walks.list hh3 _ l hneI items).toS) s.heap.objs.size
     hSf val hi hb (items.size-0) 0 _ rfl (Nat.zero_le _)
     ⟨⟨_,Heap.get?_push_size _ rfl,rfl,rfl⟩,(hl1.push _)⟩ ?hS0 ?hR
    case hS0=>
     have hget:((s.heap.push {cls:= .type "set",dict:=none,data:= .set #[] 0 (.fresh 0 0 led)}).push {cls:= .type "list_iterator",data:= .fields #[.ref l,.int 0 0]}).get? s.heap.objs.size
       =some {cls:= .type "set",dict:=none,data:= .set #[] 0 (.fresh 0 0 led)}:=Heap.get?_push_of_some _ hS
     exact PyProof.Rows.SetOf_congr ((PyProof.Rows.setObjOf_fresh (knd:=PySem.strKind prog w) led).setOf hget (by decide)) (λ_=>rfl) rfl
    case hR=>
     intro s' hm hS'
     obtain⟨h',g',d',tk',os'⟩:=s'
     have eg:g'=s.gens:=hm.gens
     have ed:d'=s.drawn:=hm.drawn
     have eo:os'=s.os:=hm.os
     subst eg;subst ed;subst eo
     show wpAny _ _ _ _ _ _
     refine wpAny_pure ?_
     show wpAny _ _ (ret Value.none) _ _ _
     refine wpAny_pure ⟨rfl,h',tk',rfl,hS',λb o hb e=> ?_⟩
     have hb1:b≠s.heap.objs.size:=Bq hb
     have hb2:b≠(s.heap.push {cls:= .type "set",dict:=none,data:= .set #[] 0 (.fresh 0 0 led)}).objs.size:=by
      rw[Heap.size_push];exact Bq (Nat.lt_succ_of_lt hb)
     exact hm.heap b o (by simp only[Ae,Af,Av,or_false,not_or];exact⟨hb1,hb2⟩) (Heap.get?_push_of_some _ (Heap.get?_push_of_some _ e))
   ·cases r₂ with
    |error e=>exact hr₂
    |ok fl₂=>
     cases fl₂ with
     |ret r=>
      obtain⟨rfl,h',tk,rfl,hS',hk'⟩:=hr₂
      repeat (any_goals (first|assumption|wp_step))
      exact h _ _ hS' hk'
     |_=>exact hr₂.elim
  |_=>exact hr.elim
end
section
variable {C:Cx} {η:Env} {ν:List Str} {gl:LV} {own:Bool} {d:Nat} {m:Loc} {σ:Sto} {Q:VP}
theorem z9t [HM C]{np np' p p':Pos}{e:Expr}
  (h:AT C η ν gl own d (eval (.Name "len" np) η) m σ λF σ₁=>F= .bi "len"/\AT C η ν gl own d (eval (.Name "set" np') η) m σ₁ λF' σ₂=>F'= .type "set"/\AT C η ν gl own d (eval e η) m σ₂ λX σ₃=>∃ws P,A8 σ₃ X (.list (ws.map V.str)) P/\ws.length<=100/\Q (.int (y0J ws:Nat)) σ₃)
  (he:autoParam (starEach [e] η=(false,eval e η)::starEach [] η) auR):
  AT C η ν gl own d (eval (.Call (.Name "len" np) [.Call (.Name "set" np') [e] [] p'] [] p) η) m σ Q:=λA G D s hA R=>by
 have he':starEach [.Call (.Name "set" np') [e] [] p'] η=(false,eval (.Call (.Name "set" np') [e] [] p') η)::starEach [] η:=by with_unfolding_all exact rfl
 refine wpAny_Call_ofName (h.run hA R λv s₁ F D₁ σ₁ a b c hpp=> ?_)
 obtain⟨rfl,h2⟩:=hpp
 refine z0K (F:= .bi "len") trivial b (by rw[he'];rfl) ?_
 suffices key:wpAny C.M A (spliced (backTo p (starEach [.Call (.Name "set" np') [e] [] p'] η))) (λvs s'=>(∀b o,C.base.get? b=some o->s'.heap.get? b=some o)/\wpAny C.M A (call v ([]++vs) []) (B8 C η ν gl own G D m Q) (λ_ _=>False) s') (λ_ _=>False) s₁ by
  rw[he'] at key⊢
  exact Calls.evalArgs_plain key
 refine wpAny_items_cons ?_ he'
 refine wpAny_Call_ofName (h2.run hA c λv' s₂ F' D₂ σ₂ a' b' c' hpp'=> ?_)
 obtain⟨rfl,h3⟩:=hpp'
 refine z0K (F:= .type "set") trivial b' (by rw[he];rfl) ?_
 suffices key:∀K:Value->Shared->Prop,(∀l h' tk s₃ D₃ σ₃ (ws:List Str) (P:Unit),DX G D₂ D₃->A3 C η ν gl own G D₃ m σ₃ s₃->(∀b o,s₃.heap.get? b=some o->h'.get? b=some o)->h'.SetOf (PySem.strKind C.prog C.w) l (mS (λi=>ws.getD i "") ws.length) (mN (λi=>ws.getD i "") ws.length)->ws.length<=100->Q (.int (y0J ws:Nat)) σ₃->K (.ref l) {s₃ with heap:=h',toks:=tk})->wpAny C.M A (spliced (backTo p' (starEach [e] η))) (λvs s'=>(∀b o,C.base.get? b=some o->s'.heap.get? b=some o)/\wpAny C.M A (call v' ([]++vs) []) K (λ_ _=>False) s') (λ_ _=>False) s₂ by
  rw[he] at key⊢
  refine Calls.evalArgs_plain (key _ λl h' tk s₃ D₃ σ₃ ws (P:Unit) dx c'' kp hS hl q=>wpAny_items_nil (pos:=p) (env:=η) ?_)
  refine⟨λb o e=>kp b o (c''.toRelC.bs b o e),?_⟩
  apply VR.biE b
  obtain⟨o,es,ep,t,ho',hex,hd,hel,hmem,hb,hf,hn⟩:=hS
  refine call_len_set ho' hex hd hf (by rw[hn];exact z7c (Ac (z9b _ _) (nD hl rfl))) ?_
  rw[hn]
  have R':=c''.keepBut (tk+1+1) (wr:=[]) (λb hb=>nomatch hb) (h':=h') λb o hb e=>kp b o e
  exact⟨.int (y0J ws:Nat),D₃,σ₃,(a.trans a').trans dx,.int _ _,R',q⟩
 intro K hK
 refine wpAny_items_cons (h3.run hA c' λx s₃ X D₃ σ₃ a'' b'' c'' hq=>wpAny_items_nil ⟨c''.toRelC.baseIn,?_⟩) he
 obtain⟨ws,P,hH,hl,q⟩:=hq
 apply VR.typeE b'
 apply A8.isListE hH c''.toRelC b'';intro l vs n ho hr
 have hz:vs.size=ws.length:=by rw[<-Bz,hr.length,Ab]
 refine z5C (val:=λi=>ws.getD i "") hA.hh ⟨_,ho,rfl,n,rfl⟩ (λi u hu=> ?_) (by rw[hz];exact AG (Bh hl) (by decide)) λh' tk hS hk=> ?_
 ·obtain⟨Y,eY,rY⟩:=hr.get' (i:=i) (u:=u) (by rw[Array.getElem?_toList];exact hu)
  rw[Al] at eY
  obtain⟨y,ey,rfl⟩:=Bw.mp eY
  obtain⟨t,rfl⟩:=rY.strI
  exact⟨t,by rw[List.getD_eq_getElem?_getD,ey];rfl⟩
 rw[hz] at hS
 exact hK _ h' tk s₃ D₃ σ₃ ws () a'' c'' (λb o e=>hk b o (Heap.lt_size e) e) hS hl q
end
end
section
variable {C:Cx} {η:Env} {ν:List Str} {gl:LV} {d:Nat} {m:Loc} {σ τ ρ:Sto} {Q:VP} {QS:FP} {EQ:Value->Sto->Prop}
theorem y0q{x:Str}{p' p:Pos}{e:Expr}(h:TE C η ν gl d (eval e η) m σ (λX σ₁=>∃m',F4 ν m x X m'/\QS .next m' σ₁) EQ)
  (hs:autoParam (swapsWith e (some (.Name x p')) p.line η=pure false) auR):SE C η ν gl d (exec (.Assign [.Name x p'] e p) η) m σ QS EQ:=λA G Gc D s l hA U R=>
 wpAny_Assign_Name (By (h A G Gc D s l hA U R) (λv s₁ q=>by
  obtain⟨X,D₁,σ₁,a,b,c,m',hP,q⟩:=q
  exact By (c.store hP b (.inl rfl) (K:=λ_ s'=>D1 C η ν gl true Gc D QS .next s') λs' R'=>⟨.next,m',D₁,σ₁,a,trivial,R',q⟩) (λ_ _ q=>q) λ_ _ q=>q.elim) λ_ _ q=>q) hs
open Classical in
theorem z36{f:Addr}{xs:List V}(hp:List.Perm ρ (σ++τ))(h:CE C d (.ref f) xs τ (λr τ'=>(A5 (σ++τ')).Nodup->Q r (σ++τ')) λ_ _=>False):CE C d (.ref f) xs ρ Q EQ:=by
 intro A G D s vs l hA F R hv
 have fp:=z4e hp
 rw[z0s] at fp
 obtain⟨n1,n2,n3⟩:=List.nodup_append.mp (fp.nodup_iff.mp R.nd)
 have inF:∀b∈A5 σ,b∈A5 ρ:=λb hb=>fp.mem_iff.mpr (Ai _ hb)
 have inT:∀b∈A5 τ,b∈A5 ρ:=λb hb=>fp.mem_iff.mpr (Aj _ hb)
 have mS:∀p∈σ,p∈ρ:=λp h=>hp.mem_iff.mpr (Ai _ h)
 have mT:∀p∈τ,p∈ρ:=λp h=>hp.mem_iff.mpr (Aj _ h)
 have lives:∀b∈A5 σ,∃o,s.heap.get? b=some o:=λb hb=>by
  obtain⟨p,hp,hb⟩:=z80 hb
  exact(R.pl p (mS p hp)).lives b hb
 generalize hG:(λb=>if b∈A5 σ then s.heap.get? b else G b:Gh)=G'
 have gIn:∀b∈A5 σ,G' b=s.heap.get? b:=λb hb=>by rw[<-hG];exact if_pos hb
 have gOut:∀b,b∉A5 σ->G' b=G b:=λb hb=>by rw[<-hG];exact if_neg hb
 clear hG
 have gG:∀b o,G b=some o->G' b=some o:=λb o e=>by
  rw[gOut b λhb=>by rw[R.offG b (inF b hb)] at e;cases e];exact e
 have R':RelC C G' D τ s:=⟨R.same,R.bs,λb o e=>(by
   by_cases hb:b∈A5 σ
   ·rw[gIn b hb] at e;exact⟨o,e,.refl o⟩
   ·rw[gOut b hb] at e;exact R.g b o e),R.d,λb o e=>gG b o (R.base b o e),n2,
  λb hb=>(by rw[gOut b λh=>n3 b h b hb rfl];exact R.offG b (inT b hb)),λb hb=>R.offD b (inT b hb),λp hp=>R.pl p (mT p hp),λp hp=>R.sto p (mT p hp)⟩
 have F':FrA C A G' D l:=⟨F.fr,λe he=>by
  obtain⟨a,L,o,h1,h2,h3⟩:=F.ok e he
  exact⟨a,L,o,h1,gG _ _ h2,h3⟩⟩
 refine codeAny_mono (h A G' D s vs l hA F' R' hv) λr s' q=> ?_
 cases r with
 |error e=>obtain⟨_,_,q,_⟩:=q;exact q.elim
 |ok fl=>
  cases fl<;>first|exact q.elim|skip
  obtain⟨x,D',τ',dx,hx,R2,q⟩:=q
  have nd2:(A5 (σ++τ')).Nodup:=by
   rw[z0s]
   refine List.nodup_append.mpr ⟨n1,R2.nd,λa ha b hb e=> ?_⟩
   subst e
   have e:=R2.offG a hb
   obtain⟨o,ho⟩:=lives a ha
   rw[gIn a ha,ho] at e;cases e
  refine⟨x,D',σ++τ',dx.less λb g=> ?_,hx,⟨R2.same,R2.bs,λb o e=>R2.g b o (gG b o e),R2.d,R.base,nd2,λb hb=> ?_,λb hb=> ?_,λp hp=> ?_,λp hp=> ?_⟩,q nd2⟩
  ·cases e:G b with
   |none=>exact absurd e g
   |some o=>rw[gG b o e];exact nofun
  ·rw[z0s] at hb
   rcases Ad.mp hb with hb|hb
   ·exact R.offG b (inF b hb)
   ·cases e:G b with
    |none=>rfl
    |some o=>rw[<-gG b o e];exact R2.offG b hb
  ·rw[z0s] at hb
   rcases Ad.mp hb with hb|hb
   ·exact dx.off b (R.offD b (inF b hb)) (by obtain⟨o,ho⟩:=lives b hb;rw[gIn b hb,ho];exact nofun)
   ·exact R2.offD b hb
  ·rcases Ad.mp hp with hp|hp
   ·exact(R.pl p (mS p hp)).at λb hb ob e=>R2.ge (by rw[gIn b (z06 (a:=p.1) (ob:=p.2.1) (o:=p.2.2) hp b hb)];exact e) ((R.pl p (mS p hp)).nf (R.sto p (mS p hp)) b hb ob e)
   ·exact R2.pl p hp
  ·rcases Ad.mp hp with hp|hp
   ·exact(R.sto p (mS p hp)).mono dx.sub
   ·exact R2.sto p hp
end
noncomputable abbrev K1(C:Cx):W.Frag:=Tp.K C.w.params
structure G1(C:Cx):Prop where
 kin:(K1 C).In C.base
 bi:∀x:Str,x≠"__name__"->C.mb x=bootBuiltins x
 ns:z0J C
 own:∀(x:Str) (a:Addr) (bm:List Value) (n:String),W.nsIn (K1 C) mainGlobals x=some (some (.ref a))->W.excIn (K1 C) a bm n=true->PyProof.Rows.OwnCls x a bm n C.mg C.base
section
variable {C:Cx}
noncomputable def gLs:LV:=("isinstance",.bi "isinstance")::("str",.type "str")::("len",.bi "len")::("MOST_LETTERS",.int 8)::("all",.bi "all")::("LETTERS",.str "abcdefghijklmnopqrstuvwxyz")::("int",.type "int")::("bool",.type "bool")::("MOST_MAKE",.int 999)::("tuple",.type "tuple")::("is_ware",.ref 116)::("is_make",.ref 123)::("list",.type "list")::("MOST_WISHES",.int 8)::("BadWish",.ref 109)::("is_need",.ref 130)::("is_number",.ref 156)::("is_granted",.ref 163)::("reversed",.type "reversed")::("within",.ref 137)::("range",.type "range")::("enumerate",.type "enumerate")::("dict",.type "dict")::("stretch_of",.ref 170)::("clash",.ref 187)::("agenda_of",.ref 149)::("sources_for",.ref 180)::("left_by",.ref 175)::("outside",.ref 194)::("settled",.ref 199)::("need_wish",.ref 142)::("MOST_NEEDS",.int 6)::("BadNeed",.ref 61)::("BadWare",.ref 37)::("BadMake",.ref 49)::("need_needs",.ref 213)::("Twice",.ref 73)::("MOST_WARES",.int 12)::("Full",.ref 85)::("MOST_MAKES",.int 8)::("NoMake",.ref 97)::("sorted",.bi "sorted")::("FIGURES",.str "0123456789")::("make_of",.ref 281)::("Shop",.ref 272)::("need_of",.ref 288)::("settle",.ref 206)::("zip",.type "zip")::("_law_mixed",.ref 375)::("set",.type "set")::("_law_shop",.ref 387)::("_law_needs",.ref 394)::("_law_text",.ref 399)::("_law_put",.ref 411)::("_law_take",.ref 418)::("_law_settled",.ref 423)::("_law_odd_line",.ref 406)::("_law_like",.ref 435)::("_law_copy",.ref 428)::("_law_names",.ref 380)::("Desk",.ref 364)::("_law_ahead_lines",.ref 447)::("min",.bi "min")::("_law_said",.ref 442)::("_law_looked",.ref 454)::[]
noncomputable def gv(K:W.Frag)(x:Str):Option Value:=match W.nsIn K mainGlobals x with
 |some (some v)=>some v
 |some none=>if x="__name__" then none else bootBuiltins x
 |none=>none
noncomputable def toV:Value->Option V
 | .ref a=>some (.ref a)
 | .int i _=>some (.int i)
 | .str x _=>some (.str x)
 | .builtin n=>some (.bi n)
 | .type n=>some (.type n)
 |_=>none
theorem y4o{w:World}{v:Value}{X:V}(h:toV v=some X):VR w (λ_=>none) v X:=by
 cases v<;>first|(rw[<-Bs h];constructor;done)|cases h
theorem y4N(H:G1 C){x:Str}{v:Value}(h:gv (K1 C) x=some v):C.mg x=some v∨(C.mg x=none/\C.mb x=some v):=by
 unfold gv at h
 cases e:W.nsIn (K1 C) mainGlobals x with
 |none=>rw[e] at h;cases h
 |some o=>
  rw[e] at h
  cases o with
  |some u=>cases h;exact .inl (W.mg_of H.kin C.hg e)
  |none=>
   have h:(if x="__name__" then none else bootBuiltins x)=some v:=h
   by_cases hx:x="__name__"
   ·rw[if_pos hx] at h;cases h
   ·rw[if_neg hx] at h;exact .inr ⟨W.mg_none_of H.kin C.hg e,(H.bi x hx).trans h⟩
theorem y5b(C:Cx):gLs.map (λp=>(gv (K1 C) p.1).bind toV)=gLs.map (λp=>some p.2):=by kernel_rfl
theorem gA(H:G1 C)(is:List Nat):∀p∈is.filterMap (λi=>gLs[i]?),z04 C p.1 p.2:=λp hp=>by
 obtain⟨i,_,e⟩:=List.mem_filterMap.mp hp
 have h:=List.map_inj_left.mp (y5b C) p (Ak e)
 obtain⟨v,e1,e2⟩:=Option.bind_eq_some_iff.mp h
 exact⟨v,y4o e2,y4N H e1⟩
noncomputable def fnB(K:W.Frag)(a:Addr):Bool:=match K.lookup a with
 |some o=>match o.data with
  | .func _=>true
  |_=>false
 |none=>false
theorem cA(H:G1 C){a:Addr}(h:fnB (K1 C) a=true:=by kernel_rfl):z1g C (.ref a):=by
 unfold fnB at h
 cases e:(K1 C).lookup a with
 |none=>rw[e] at h;cases h
 |some o=>
  rw[e] at h
  cases e2:o.data with
  |func f=>exact z9w H.kin e e2
  |_=>
   have h:(match o.data with| .func _=>true|_=>false)=true:=h
   rw[e2] at h;cases h
theorem z6G(H:G1 C):G7 C (K1 C) 272 227:=⟨H.kin,rfl,rfl,rfl,rfl⟩
theorem z3z(H:G1 C):B3 C (K1 C) 272 "has" 234:=⟨H.kin,rfl,rfl,rfl,rfl,cA H⟩
theorem z5i(H:G1 C):B3 C (K1 C) 272 "put" 241:=⟨H.kin,rfl,rfl,rfl,rfl,cA H⟩
theorem z4v(H:G1 C):B3 C (K1 C) 272 "take" 248:=⟨H.kin,rfl,rfl,rfl,rfl,cA H⟩
theorem z6C(H:G1 C):B3 C (K1 C) 272 "makes" 255:=⟨H.kin,rfl,rfl,rfl,rfl,cA H⟩
theorem z6D(H:G1 C):B3 C (K1 C) 272 "needs" 262:=⟨H.kin,rfl,rfl,rfl,rfl,cA H⟩
theorem z6E(H:G1 C):B3 C (K1 C) 272 "wares" 269:=⟨H.kin,rfl,rfl,rfl,rfl,cA H⟩
theorem z2d(H:G1 C):F1 C (K1 C) 272 "kept":=⟨H.kin,rfl,⟨_,rfl,rfl⟩,rfl⟩
theorem z7y(H:G1 C):E4 C (K1 C) 272 "kept":=⟨H.kin,rfl,rfl,rfl,rfl⟩
theorem y1d(H:G1 C):G7 C (K1 C) 364 302:=⟨H.kin,rfl,rfl,rfl,rfl⟩
theorem z7n(H:G1 C):B3 C (K1 C) 364 "held" 309:=⟨H.kin,rfl,rfl,rfl,rfl,cA H⟩
theorem z3o(H:G1 C):B3 C (K1 C) 364 "wishes" 316:=⟨H.kin,rfl,rfl,rfl,rfl,cA H⟩
theorem z2I(H:G1 C):B3 C (K1 C) 364 "put_line" 321:=⟨H.kin,rfl,rfl,rfl,rfl,cA H⟩
theorem z2q(H:G1 C):B3 C (K1 C) 364 "take_line" 328:=⟨H.kin,rfl,rfl,rfl,rfl,cA H⟩
theorem z2r(H:G1 C):B3 C (K1 C) 364 "wish_line" 335:=⟨H.kin,rfl,rfl,rfl,rfl,cA H⟩
theorem z13(H:G1 C):B3 C (K1 C) 364 "settle_line" 342:=⟨H.kin,rfl,rfl,rfl,rfl,cA H⟩
theorem z2J(H:G1 C):B3 C (K1 C) 364 "why_line" 347:=⟨H.kin,rfl,rfl,rfl,rfl,cA H⟩
theorem z3n(H:G1 C):B3 C (K1 C) 364 "answer" 354:=⟨H.kin,rfl,rfl,rfl,rfl,cA H⟩
theorem z2C(H:G1 C):B3 C (K1 C) 364 "say" 361:=⟨H.kin,rfl,rfl,rfl,rfl,cA H⟩
theorem z2Y(H:G1 C):F1 C (K1 C) 364 "shop":=⟨H.kin,rfl,⟨_,rfl,rfl⟩,rfl⟩
theorem z7x(H:G1 C):E4 C (K1 C) 364 "shop":=⟨H.kin,rfl,rfl,rfl,rfl⟩
theorem z2Z(H:G1 C):F1 C (K1 C) 364 "wish":=⟨H.kin,rfl,⟨_,rfl,rfl⟩,rfl⟩
theorem z26(H:G1 C):E4 C (K1 C) 364 "wish":=⟨H.kin,rfl,rfl,rfl,rfl⟩
end
set_option tactic.hygienic true in
theorem z4P{a b:Int}(h:b.natAbs<2^63):IntMulOk a b:=by
 refine IntMulOk.of_right ?_
 unfold Builtin.Int.intBits
 have:=z8g (n:=b) (by exact AY h (by decide))
 split
 ·exact Nat.zero_le _
 ·rename_i h0
  have:b.natAbs.log2<63:=(Nat.log2_lt (by simpa using h0)).mpr h
  exact Nat.le_succ_of_le this
section
variable {C:Cx} [HM C] {η:Env} {ν:List Str} {gl:LV} {own:Bool} {d:Nat} {m:Loc} {σ:Sto} {P:VP} {x:Str} {np p:Pos} {e:Expr} {rest:List Expr}
theorem z2G{ad:Addr}[hx:GInC gl x (.ref ad)](hF:z1g C (.ref ad))(h:AL C η ν gl own d (spliced (backTo p (starEach (e::rest) η))) m σ λXs σ₂=>KW C d (.ref ad) Xs σ₂ P)
  (he:autoParam (starEach (e::rest) η=(false,eval e η)::starEach rest η) auR) (hplain:autoParam ((backTo p (starEach rest η)).any (·.1)=false) auR):
  AT C η ν gl own d (eval (.Call (.Name x np) (e::rest) [] p) η) m σ P:=z2x (z0o ⟨hF,h⟩) he hplain
theorem z1P{n:String}[hx:GInC gl x (.type n)](h:AL C η ν gl own d (spliced (backTo p (starEach (e::rest) η))) m σ λXs σ₂=>KW C d (.type n) Xs σ₂ P)
  (he:autoParam (starEach (e::rest) η=(false,eval e η)::starEach rest η) auR) (hplain:autoParam ((backTo p (starEach rest η)).any (·.1)=false) auR):
  AT C η ν gl own d (eval (.Call (.Name x np) (e::rest) [] p) η) m σ P:=z2x (z0o ⟨z4s,h⟩) he hplain
theorem z2S{n:String}[hx:GInC gl x (.bi n)](h:AL C η ν gl own d (spliced (backTo p (starEach (e::rest) η))) m σ λXs σ₂=>KW C d (.bi n) Xs σ₂ P)
  (he:autoParam (starEach (e::rest) η=(false,eval e η)::starEach rest η) auR) (hplain:autoParam ((backTo p (starEach rest η)).any (·.1)=false) auR):
  AT C η ν gl own d (eval (.Call (.Name x np) (e::rest) [] p) η) m σ P:=z2x (z0o ⟨z4d,h⟩) he hplain
theorem z1f{X:V}{j:Int}{u:Nat}{p2:Pos}[hx:LkC ν m x X](h:C2 C d X (.int j) σ P):AT C η ν gl own d (eval (.Subscript (.Name x np) (.Constant (.int j) u p2) p) η) m σ P:=z0u (z0d (z0n h))
theorem z3H{xs:List V}{k:Int}{X:V}(q:P X σ)(h0:0<=k:=by with_unfolding_all decide)(hf:k<2^63:=by with_unfolding_all decide)(hx:autoParam (xs[k.toNat]? =some X) auR):C2 C d (.tup xs) (.int k) σ P:=y21 h0 hf hx q
theorem z0G{X:V}{L:List V->Sto->Prop}[hx:LkC ν m x X](h:AL C η ν gl own d (spliced (backTo p (starEach rest η))) m σ λXs σ₂=>L (X::Xs) σ₂)
  (he:autoParam (starEach (.Name x np::rest) η=(false,eval (.Name x np) η)::starEach rest η) auR):AL C η ν gl own d (spliced (backTo p (starEach (.Name x np::rest) η))) m σ L:=z0c (z0d h) he
end
section
variable {C:Cx} [HM C] [NF C] {d:Nat} {σ:Sto} {Q:VP}
theorem z56{x:Str}{X:V}(h:X∈z1a x):∃c∈x.cps.toList,X= .str ⟨#[c]⟩:=by
 unfold z1a at h
 apply z0X h;intro c hc
 exact⟨c,hc,rfl⟩
theorem z55(x:Str):(z1a x).length=x.length:=by simp[z1a,Str.length]
noncomputable def wareV:V->Bool
 | .str x=>decide (1<=x.length)&&(decide (x.length<=8)&&x.cps.toList.all z12)
 |_=>false
noncomputable def letV:V->V
 | .str x=> .bool (z12 (x.cps.getD 0 0))
 |v=>v
theorem z9K(x:Str):(z1a x).map letV=(x.cps.toList.map z12).map V.bool:=by
 simp[z1a,letV]
theorem y1H{t:V}(h:tkB t .str=false):wareV t=false:=by cases t<;>first|rfl|exact tf h|exact ff h
theorem z3a{x:Str}(h:A7 x):wareV (.str x)=true:=by
 show(decide (1<=x.length)&&(decide (x.length<=8)&&x.cps.toList.all z12))=true
 rw[AE h.lo,AE h.hi,AK.mpr h.lt];rfl
theorem z2a{x:Str}(h:wareV (.str x)=true):A7 x:=by
 have h:(decide (1<=x.length)&&(decide (x.length<=8)&&x.cps.toList.all z12))=true:=h
 rw[AC,AC] at h
 exact⟨AD h.1,AD h.2.1,AK.mp h.2.2⟩
theorem A7.asc{x:Str}(h:A7 x):Asc x:=⟨nD h.hi rfl,λc hc=>by have:=h.lt c hc;simp[z12] at this;exact AG this.2 (by decide)⟩
noncomputable def fnL:List Nat:=[116,123,130,137,142,149,156,163,170,175,180,187,194,199,206,213,227,234,241,248,255,262,269,281,288,302,309,316,321,328,335,342,347,354,361,375,380,387,394,399,406,411,418,423,428,435,442,447,454,459]
noncomputable def mtL:List (Nat×Str×Nat):=[(272,"has",234),(272,"put",241),(272,"take",248),(272,"makes",255),(272,"needs",262),(272,"wares",269),(364,"held",309),(364,"wishes",316),(364,"put_line",321),(364,"take_line",328),(364,"wish_line",335),(364,"settle_line",342),(364,"why_line",347),(364,"answer",354),(364,"say",361)]
theorem y4J(H:G1 C):∀a∈fnL,z1g C (.ref a):=λa h=>cA H (AK.mp (show fnL.all (fnB (K1 C))=true by kernel_rfl) a h)
noncomputable def atL:List (Nat×Str):=[(272,"kept"),(364,"shop"),(364,"wish")]
theorem y4R(H:G1 C):(∀q∈mtL,∃K,B3 C K q.1 q.2.1 q.2.2)/\∀q∈atL,∃K,F1 C K q.1 q.2:=⟨(Aa.mpr ⟨⟨_,z3z H⟩,(Aa.mpr ⟨⟨_,z5i H⟩,(Aa.mpr ⟨⟨_,z4v H⟩,(Aa.mpr ⟨⟨_,z6C H⟩,(Aa.mpr ⟨⟨_,z6D H⟩,(Aa.mpr ⟨⟨_,z6E H⟩,(Aa.mpr ⟨⟨_,z7n H⟩,(Aa.mpr ⟨⟨_,z3o H⟩,(Aa.mpr ⟨⟨_,z2I H⟩,(Aa.mpr ⟨⟨_,z2q H⟩,(Aa.mpr ⟨⟨_,z2r H⟩,(Aa.mpr ⟨⟨_,z13 H⟩,(Aa.mpr ⟨⟨_,z2J H⟩,(Aa.mpr ⟨⟨_,z3n H⟩,(Aa.mpr ⟨⟨_,z2C H⟩,(λ_ h=>by cases h)⟩)⟩)⟩)⟩)⟩)⟩)⟩)⟩)⟩)⟩)⟩)⟩)⟩)⟩)⟩),(Aa.mpr ⟨⟨_,z2d H⟩,(Aa.mpr ⟨⟨_,z2Y H⟩,(Aa.mpr ⟨⟨_,z2Z H⟩,(λ_ h=>by cases h)⟩)⟩)⟩)⟩
theorem xG(H:G1 C)(t:TC){η:Env}{ν:List Str}{gl:LV}{ss:List Stmt}{m:Loc}{Q:FP}(w:let F:Fx:=⟨C,η,ν,gl,true,d,fnL,mtL,atL⟩;let m':=m;W F 3000 Q t.k [] m' [] σ)(e:allK t.p ss λl=>l=t.r:=by exact rfl)(ok:(okS ⟨C,η,ν,gl,true,d,fnL,mtL,atL⟩ (rdT gl t.k ss).1,(rdT gl t.k ss).1.sts,(rdT gl t.k ss).1.c [])=(true,ss,t.k):=by kernel_rfl):AS C η ν gl true d (execs ss η) m σ Q:=y2T (y4J H) (y4R H) t e ok w
noncomputable def z4n(r1:Expr):TC:=⟨[.L 0,.Q .str,.V,.not,.M .Or [.P (.int 1),.L 0,.len,.tcm2 .LtE [.P (.int 8),.K .LtE],.not,.M .Or [.P (.bool false)]],.I [.P (.bool false),.ret] [],.raw r1,.call (.bi "all") 1,.ret],[.inr r1],[([1],some [1])]⟩
noncomputable def t_is_make:TC:=⟨[.L 0,.Q .int,.O .And [.L 0,.Q .bool,.una .Not,.O .And [.P (.int 1),.L 0,.cm2 .LtE [.P (.int 999),.G .LtE]]],.ret],[],[]⟩
noncomputable def t_is_need:TC:=⟨[.L 0,.Q .tup,.V,.not,.M .Or [.L 0,.len,.P (.int 3),.K .NotEq,.M .Or [.P (.bool false)]],.I [.P (.bool false),.ret] [],.L 0,.S 0,.call (.ref 116) 1,.O .And [.L 0,.S 1,.call (.ref 123) 1,.O .And [.L 0,.S 2,.call (.ref 123) 1,.O .And [.L 0,.S 1,.L 0,.S 2,.G .LtE]]],.ret],[],[]⟩
noncomputable def H9:TC:=⟨[.P (.int 0),.A 2,.cut [.L 0,.len,.P (.int 0),.K .Gt,.I [.L 0,.L 1,.L 0,.len,.B .Mod,.sub,.A 2] []],.L 2,.P (.int 7919),.L 1,.B .Mult,.B .Add,.P (.int 48271),.B .Mult,.P (.int 2147483647),.B .Mod,.A 3,.L 3,.P (.int 16807),.L 1,.L 1,.B .Mult,.B .Add,.B .Mult,.P (.int 2147483629),.B .Mod,.ret],[],[]⟩
theorem y0E{v t:V}{n:Nat}{k:TK}{b:Bool}(h:Dn σ n v t)(hb:tkB t k=b)(q:Q (.bool b) σ):cQ ((y2l v k).map .bool) σ Q (KW C d (.bi "isinstance") [v,.type k.n] σ Q):=by
 subst hb
 cases h with
 |dict ha=>exact⟨y4G (n:=0) (.dict ha) q⟩
 |ref ha a b c=>exact⟨y4G (.ref ha a b c) q⟩
 |none=>exact q
 |bool b=>exact q
 |int i=>exact q
 |str x hx=>exact q
 |tup a b c=>exact q
 |lst a b c=>exact q
inductive StrSh(σ:Sto):V->V->Prop
 |no {n:Nat} {v t:V}:Dn σ n v t->tkB t .str=false->StrSh σ v t
 |str {x:Str}:Asc x->StrSh σ (.str x) (.str x)
theorem Dn.ssh{v t:V}{n:Nat}(h:Dn σ n v t):StrSh σ v t:=by
 cases hk:tkB t .str with
 |false=>exact .no h hk
 |true=>obtain⟨x,rfl,rfl,hx⟩:=h.strI hk;exact .str hx
inductive IntSh(σ:Sto):V->V->Prop
 |no {n:Nat} {v t:V}:Dn σ n v t->tkB t .int=false->IntSh σ v t
 |bool {b:Bool}:IntSh σ (.bool b) (.bool b)
 |int {i:Int}:IntSh σ (.int i) (.int i)
theorem Dn.ish{v t:V}{n:Nat}(h:Dn σ n v t):IntSh σ v t:=by
 cases hk:tkB t .int with
 |false=>exact .no h hk
 |true=>cases h<;>first|exact .bool|exact .int|cases hk
theorem z19(H:G1 C){v t:V}{n:Nat}(h:Dn σ n v t)(q:Q (.bool (wareV t)) σ):CW C (d+1) (.ref 116) [v] σ Q:=by
 refine z0M (G1.kin ‹_›) ["thing"] [("isinstance",.bi "isinstance"),("str",.type "str"),("len",.bi "len"),("MOST_LETTERS",.int 8),("all",.bi "all")] (by kernel_rfl) (vs1 λ_=>by kernel_rfl) rfl (gA ‹_› [0,1,2,3,4]) ?_
 intro η hsc
 cases h.ssh with
 |no h hk=>
  rw[y1H hk] at q
  refine xG H (z4n _) ?_
  intro F m0
  exact y0E h hk q
 | @str x hx=>
  have hxs:x.length<=sizeLine:=z0i (nD hx.1 rfl)
  refine xG H (z4n _) ?_
  intro F m0
  refine LK (z6l hxs ?_)
  have q:Q (.bool (decide (1<=x.length)&&(decide (x.length<=8)&&x.cps.toList.all z12))) σ:=q
  refine z0p (λh1=> ?_) λh1=> ?_
  rotate_left
  ·exact qB q (by rw[AX (λh=>AW h1 (Bk.mpr h))];rfl)
  refine z0p (λh8=> ?_) λh8=> ?_
  ·exact qB q (by rw[AX (λh=>AW ((Bool.not_eq_true' _).mp h8) (Bk.mpr h)),Bool.false_and,Bool.and_false])
  have e1:decide (1<=x.length)=true:=AE (Bk.mp (AD h1))
  have e2:decide (x.length<=8)=true:=AE (Bk.mp (AD ((Bool.not_eq_false' _).mp h8)))
  have q:=qB q (show _=x.cps.toList.all z12 by rw[e1,e2];rfl)
  clear e1 e2 h1 h8
  refine LK ?_
  show AT C η ["thing"] _ true _ (eval _ η) [some (.str x)] _ _
  refine z0H "sign" [] [("LETTERS",.str "abcdefghijklmnopqrstuvwxyz")] (by rw[hsc];kernel_rfl) (gA H [5]) .nil (z9S (z0d ⟨x,rfl,by rw[z55];exact hxs,λenv' he=>z0N (f:=letV) (z0j he) trivial _ _ _ (λX hX K hK=> ?_) ?_⟩))
  ·obtain⟨c,hc,rfl⟩:=z56 hX
   repeat' with_reducible first|refine z0d ?_|refine z0o ?_|refine z6i ?_|refine y2Y ?_
   rw[let_small c (hx.2 c hc)];exact hK
  ·rw[Ay,z9K]
   refine LK (z8C (.lst _) ?_)
   exact qB q (by rw[List.all_map];rfl)
theorem z1d(H:G1 C){x:Str}(h:A7 x)(q:Q (.bool true) σ):CW C (d+1) (.ref 116) [.str x] σ Q:=z19 H (n:=0) (.str x h.asc) (by rw[z3a h];exact q)
noncomputable def makeV:V->Bool
 | .int i=>decide (1<=i)&&decide (i<=999)
 |_=>false
theorem y1a{t:V}(h:tkB t .int=false):makeV t=false:=by cases t<;>first|rfl|exact tf h|exact ff h
theorem z8o(H:G1 C){v t:V}{n:Nat}(h:Dn σ n v t)(q:Q (.bool (makeV t)) σ):CW C (d+1) (.ref 123) [v] σ Q:=by
 refine z0M (G1.kin ‹_›) ["thing"] [("isinstance",.bi "isinstance"),("int",.type "int"),("bool",.type "bool"),("MOST_MAKE",.int 999)] (by kernel_rfl) (vs1 λ_=>by kernel_rfl) rfl (gA ‹_› [0,6,7,8]) ?_
 intro η hsc
 clear hsc
 refine xG H t_is_make ?_
 intro F m0
 cases h.ish with
 |no h hk=>exact y0E h hk (qB q (y1a hk))
 |bool=>exact⟨z6h z2X q⟩
 | @int i=>
  refine LK (z6h z2X ?_)
  have q:Q (.bool (decide (1<=i)&&decide (i<=999))) σ:=q
  exact z0p (λh=>qB q (by rw[h];rfl)) λh=>qB q (by rw[h];rfl)
theorem z1c(H:G1 C){i:Int}(h1:1<=i)(h2:i<=999)(q:Q (.bool true) σ):CW C (d+1) (.ref 123) [.int i] σ Q:=z8o H (n:=0) (.int i) (qB q (by show true=(decide (1<=i)&&decide (i<=999));rw[AE h1,AE h2];rfl))
noncomputable def z0f(n:Str×Int×Int):V:= .tup [.str n.1,.int n.2.1,.int n.2.2]
structure A9(n:Str×Int×Int):Prop where
 w:A7 n.1
 lo:1<=n.2.1
 le:n.2.1<=n.2.2
 hi:n.2.2<=999
theorem z3j(H:G1 C){n:Str×Int×Int}(h:A9 n)(q:Q (.bool true) σ):CW C (d+2) (.ref 130) [z0f n] σ Q:=by
 refine z0M (G1.kin ‹_›) ["thing"] [("isinstance",.bi "isinstance"),("tuple",.type "tuple"),("len",.bi "len"),("is_ware",.ref 116),("is_make",.ref 123)] (by kernel_rfl) (vs1 λ_=>by kernel_rfl) rfl (gA ‹_› [0,9,2,10,11]) ?_
 intro η hsc
 clear hsc
 refine xG H t_is_need ?_
 intro F m0
 refine LK (fnc (z1d H h.w ?_))
 refine LK (fnc (z1c H h.lo (AQ h.le h.hi) ?_))
 refine LK (fnc (z1c H (AQ h.lo h.le) h.hi ?_))
 exact qB q (AE h.le).symm
theorem z1T(H:G1 C){xs:List Int}{k:Int}(hx:xs.length<=100)(h0:0<=k)(hk:k<1000)(q:∀n:Int,0<=n->n<2147483629->Q (.int n) σ):CW C (d+1) (.ref 375) [.lst (xs.map V.int),.int k] σ Q:=by
 obtain⟨k,rfl⟩:=Int.eq_ofNat_of_zero_le h0
 have hk:k<1000:=Int.ofNat_lt.mp hk
 refine z0M (G1.kin ‹_›) ["_law_script","_law_k","_law_cell","_law_number"] [("len",.bi "len")] (by kernel_rfl) (vs2 λ_ _=>by kernel_rfl) rfl (gA ‹_› [2]) ?_
 intro η hsc
 clear hsc
 have hz:(xs.map V.int).length=xs.length:=Ab _
 have hl:(xs.map V.int).length<=sizeLine:=z0E hx (by decide)
 have hk2:k*k<1000*1000:=Nat.mul_lt_mul'' hk hk
 have o1:IntMulOk (7919:Int) (k:Int):=IntMulOk.of_left (by with_unfolding_all decide)
 have o2:∀a:Int,IntMulOk a 48271:=λa=>z4P (by decide)
 have o3:IntMulOk (k:Int) (k:Int):=z4P (by exact AY hk (by decide))
 have o4:∀a:Int,IntMulOk a (16807+(k:Int)*(k:Int)):=λa=>z4P (show(16807+((k*k:Nat):Int)).natAbs<2^63 by exact AY (Nat.add_lt_add_left hk2 16807) (by decide))
 have hq:∀a:Int,Q (.int (a.fmod 2147483629)) σ:=λa=>q _ (Ba _ (by decide)) (Bb _ (by decide))
 clear q hk2
 refine xG H H9 ?_
 intro F m0
 refine z2n (α:=Int) (λ_=>True) (λc=>[some (.lst (xs.map V.int)),some (.int (k:Int)),some (.int c),none]) σ (λK hK _=> ?_) λc _=> ?_
 ·clear hq o1 o2 o3 o4
  refine LK (z0B (.lst _) hz hl ?_)
  refine z0p (λh0=> ?_) λh0=> ?_
  ·have h0:=Int.ofNat_lt.mp (AD h0)
   refine LK (z0B (.lst _) hz hl ?_)
   refine y18 h0 λj hj=> ?_
   refine LK (z0I (.lst _) (AF hj (nD hx rfl)) (z2h (Ar hj)) ?_)
   exact hK _ trivial
  ·exact hK 0 trivial
 refine LK (z5N ?_ o1)
 refine LK (z5N ?_ (o2 _))
 refine LK (z5N ?_ o3)
 refine LK (z5N ?_ (o4 _))
 exact hq _
theorem y0d{a b x:Int}(q:∀i,(i=a∨i=b)->Q (.int i) σ):C2 C d (.lst [.int a,.int b]) (.int (x.fmod 2)) σ Q:=
 z8B (Ba _ (by decide)) (Bb _ (by decide)) (q a (.inl rfl)) (q b (.inr rfl))
theorem z5W{a:Int}{K:VP}(q:∀c,z12 c=true->K (.str ⟨#[c]⟩) σ):C2 C d (.str "abcdefghijklmnopqrstuvwxyz") (.int (a.fmod 26)) σ K:=by
 have h0:0<=a.fmod 26:=Ba _ (by decide)
 have h9:a.fmod 26<26:=Bb _ (by decide)
 obtain⟨c,hc,hc2⟩:=z8f h0 h9
 exact y0c h0 (by exact Int.lt_trans h9 (by decide)) hc (q c hc2)
noncomputable def swB(sc cs:Scope)(t:Str)(l1 l2:Nat):Bool:=(if sc.kind.isAnnotationScope then ScopeKind.function else sc.kind)== .function&&sc.names.lookup t==some .local&&l1==l2&& !(cs.names.any λ(n,k)=>n==t&&(k== .local||k== .cell))
theorem z27{η:Env}{elt:Expr}{gens:List Comprehension}{cs:Scope}{pos p':Pos}{t:Str}{l:Nat}{b:Bool}(h:swB η.scope cs t p'.line pos.line=b):swapsWith (.ListComp elt gens cs pos) (some (.Name t p')) l η=pure b:=by
 rw[<-h];rfl
theorem y4q{ws:List Str}{i:Int}(hi:i=1∨i= -1)(hw:∀w∈ws,A7 w):∃ws':List Str,slL (ws.map V.str) none none (some i)=ws'.map V.str/\ws'.length=ws.length/\∀w∈ws',A7 w:=by
 obtain⟨ws',e,h⟩:=z6L (P:=A7) (ys:=slL (ws.map V.str) none none (some i)) λy hy=>by
  apply z0X (z9f y hy);intro w hm
  exact⟨w,rfl,hw w hm⟩
 refine⟨ws',e,?_,h⟩
 have:=y1v (xs:=ws.map V.str) hi
 rw[e] at this
 simpa using this
theorem let_len:("abcdefghijklmnopqrstuvwxyz":Str).length=26:=by decide+kernel
noncomputable def y4K(B:Str):V->V
 | .int i=> .str (Txt.slice B none (some (1+i)))
 |v=>v
noncomputable def z3Y(r1:Expr)(r2:Stmt):TC:=⟨[.P (.str "abcdefghijklmnopqrstuvwxyz"),.A 2,.L 0,.P (.int 1),.call (.ref 375) 2,.A 3,.P (.int 3),.P (.int 23),.lst 2,.L 3,.P (.int 2),.B .Mod,.sub,.A 4,.P (.str ""),.Y "str",.raw r1,.H (.bi "str.join") 1,.A 5,.cut [.L 3,.P (.int 56),.B .FloorDiv,.L 5,.len,.P (.int 1),.B .Add,.B .Mod,.A 6],.asgL 7,.L 1,.forR 8 [.L 2,.L 3,.P (.int 504),.B .FloorDiv,.L 4,.L 8,.B .Mult,.B .Add,.P (.int 26),.B .Mod,.sub,.A 9,.L 7,.Y "list",.L 5,.P .none,.L 6,.P .none,.slc,.sub,.L 9,.B .Add,.L 5,.L 6,.P .none,.P .none,.slc,.sub,.B .Add,.H (.bi "list.append") 1,.pop],.cut [.L 3,.P (.int 16),.B .FloorDiv,.P (.int 3),.B .Mod,.P (.int 1),.K .Eq,.M .And [.L 1,.P (.int 9),.K .Lt,.M .And [.P (.bool true)]],.I [.X r2] []],.L 7,.P .none,.P .none,.P (.int 1),.P (.int 1),.una .USub,.lst 2,.L 3,.P (.int 48),.B .FloorDiv,.P (.int 2),.B .Mod,.sub,.slc,.sub,.ret],[.inr r1,.inl r2],[([3],some [1]),([7,0,0],none)]⟩
theorem y3W{P:Int->Prop}{a:Int}{n:Nat}(h:0<n)(q:∀k:Nat,k<n->P (k:Int)):P (a.fmod (n:Int)):=by
 have hp:(0:Int)<(n:Int):=Int.ofNat_lt.mpr h
 obtain⟨k,e⟩:=Int.eq_ofNat_of_zero_le (Ba a hp)
 rw[e]
 exact q k (Int.ofNat_lt.mp (e▸Bb a hp))
structure NmOk(n:Nat)(ws:List Str):Prop where
 l:ws.length=n
 w:∀w∈ws,A7 w
def NmI(a0 a1 a2 a3 a4 a5 a6:V)(a:Addr)(σ:Sto)(i:Nat)(m₀:Loc)(τ₀:Sto):Prop:=∀P:Loc->Sto->Prop,(∀{o:Obj} {k sg:Option V} {ws:List Str},NmOk i ws->P [some a0,some a1,some a2,some a3,some a4,some a5,some a6,some (.ref a),k,sg] ((a,o,.list (ws.map V.str))::σ))->P m₀ τ₀
theorem NmI.mk{a0 a1 a2 a3 a4 a5 a6:V}{a:Addr}{σ:Sto}{i:Nat}{o:Obj}{k sg:Option V}{ws:List Str}(x0:NmOk i ws):NmI a0 a1 a2 a3 a4 a5 a6 a σ i [some a0,some a1,some a2,some a3,some a4,some a5,some a6,some (.ref a),k,sg] ((a,o,.list (ws.map V.str))::σ):=λ_ k=>k x0
noncomputable abbrev vC:List Str:=["_law_script","_law_many","_law_letters","_law_number","_law_step","_law_frame","_law_at","_law_names_here","_law_k","_law_sign"]
set_option tactic.hygienic true in
theorem z6O(H:G1 C){xs:List Int}{n:Nat}(hx:xs.length<=100)(h1:n<=20)(q:∀ws:List Str,ws.length=n->(∀w∈ws,A7 w)->Q (.lst (ws.map V.str)) σ):
  CW C (d+2) (.ref 380) [.lst (xs.map V.int),.int (n:Int)] σ Q:=by
 have h1k:n<=1000:=nD h1 rfl
 refine z1R ?_
 refine z0M (G1.kin ‹_›) vC [("_law_mixed",.ref 375),("range",.type "range"),("len",.bi "len")] (by kernel_rfl) (vs2 λ_ _=>by kernel_rfl) rfl (gA ‹_› [48,20,2]) ?_
 intro η hsc
 refine xG H (z3Y _ _) ?_
 intro F m0
 refine LK (fnc (z1T H hx (by decide) (by decide) λN b0 b1=> ?_))
 clear b0 b1
 refine LK (y0d λstep hstep=> ?_)
 repeat' first|(with_reducible refine⟨z2c,?_⟩)|refine LK ?_|fail
 show AT C η vC _ true _ (eval _ η) [some (.lst (xs.map V.int)),some (.int (n:Int)),some (.str "abcdefghijklmnopqrstuvwxyz"),some (.int N),some (.int step),none,none,none,none,none] _ _
 refine z0H "_law_j" ["_law_letters","_law_number"] [] (by rw[hsc];kernel_rfl) C3 (.cons LkC.lk (.cons LkC.lk .nil)) (z1p ?_)
 repeat' with_reducible first|refine z0G ?_|refine z0d ?_|refine z0n ?_|refine z0O ?_|refine z0c ?_|refine z0e ?_|refine z6Y ?_ (by with_unfolding_all decide)|refine z8y ?_ (by with_unfolding_all decide) (by with_unfolding_all decide)|refine z1D ?_|refine z0o ?_|refine z1P ?_|fail
 obtain⟨c,hc⟩:=Int.eq_ofNat_of_zero_le (Ba (N.fdiv 2) (show(0:Int)<8 by decide))
 have hc8:c<8:=Int.ofNat_lt.mp (hc▸Bb (N.fdiv 2) (show(0:Int)<8 by decide))
 have hck:c<=1000:=nD (AZ hc8) rfl
 rw[hc]
 clear hc
 refine⟨_,_,_,c,rfl,z7v hck,z7w c,z0i (by rw[z00];exact nD hck rfl),λenv' he=>
  z73 (R:=λ_ Y=>∃c,Y= .str ⟨#[c]⟩/\z12 c=true) (z0j he) trivial _ _ _ (λX hX K hK=> ?_) (λys hl hys=> ?_)⟩
 ·obtain⟨i,_,rfl⟩:=z1z hX
  repeat' with_reducible first|refine z1f ?_|refine z0d ?_|refine z0n ?_|refine z0u ?_|refine z0O ?_|refine z6X ?_|refine z6Y ?_ (by with_unfolding_all decide)|refine z8y ?_ (by with_unfolding_all decide) (by with_unfolding_all decide)|refine z5N ?_ (IntMulOk.of_left (by with_unfolding_all decide))|refine z5W λc hc=> ?_|fail
  exact hK _ ⟨_,rfl,hc⟩
 obtain⟨ps,rfl,hps⟩:=z6L (P:=λp=>Lt p/\p.length=1) (ys:=ys) λy hy=>by
  obtain⟨_,_,c,rfl,hc⟩:=hys y hy
  exact⟨_,rfl,z8j hc,rfl⟩
 have hpl:ps.length<=7:=by rw[Ab,z00] at hl;rw[hl];exact Bm hc8
 have hj:=y2o hps
 refine LK (z4a (.lst _) (z6z (λp hp=>(hps p hp).2) (nD hpl rfl)) ?_)
 generalize Txt.join "" ps=fr at hj⊢
 obtain⟨hj1,hj2⟩:=hj
 have hfl:fr.length<=7:=by rw[hj2];exact hpl
 have hfs:fr.length<=sizeLine:=z0i (nD hfl rfl)
 clear hpl hps hl hys hj2
 refine z2n (α:=Nat) (λat_=>at_<fr.length+1) (λat_=>[some (.lst (xs.map V.int)),some (.int (n:Int)),some (.str "abcdefghijklmnopqrstuvwxyz"),some (.int N),some (.int step),some (.str fr),some (.int (at_:Int)),none,none,none]) σ (λK hK _=> ?_) λat_ hat=> ?_
 ·refine LK (z6l hfs ?_)
  exact y3W (P:=λz=>K .next [some (.lst (xs.map V.int)),some (.int (n:Int)),some (.str "abcdefghijklmnopqrstuvwxyz"),some (.int N),some (.int step),some (.str fr),some (.int z),none,none,none] σ) (Nat.succ_pos _) hK
 have hal:at_<=fr.length:=Bm hat
 intro a o hf
 have l1:=z57 (x:=fr) hal
 have l2:=z58 (x:=fr) hal
 have z1:∀c:Nat,(Txt.slice fr none (some (at_:Int))).length+(⟨#[c]⟩:Str).length<=sizeLine:=λc=>z0i (by rw[l1];exact nD (Bh (Ac hal hfl)) rfl)
 have z3:∀c:Nat,(Txt.slice fr none (some (at_:Int))++⟨#[c]⟩++Txt.slice fr (some (at_:Int)) none).length=fr.length+1:=λc=>by
  rw[z0l,z0l,l1,l2,show(⟨#[c]⟩:Str).length=1 from rfl,Nat.add_right_comm,Nat.add_sub_cancel' hal]
 have z2:∀c:Nat,(Txt.slice fr none (some (at_:Int))++⟨#[c]⟩).length+(Txt.slice fr (some (at_:Int)) none).length<=sizeLine:=λc=>by rw[<-z0l,z3];exact z0i (nD (Bh hfl) rfl)
 refine LK (.mk n (NmI (.lst (xs.map V.int)) (.int (n:Int)) (.str "abcdefghijklmnopqrstuvwxyz") (.int N) (.int step) (.str fr) (.int (at_:Int)) a σ) rfl h1k (.mk (ws:=[]) ⟨rfl,λ_ h=>nomatch h⟩) (λi hi m τ hI QB hQB _=> ?_) λm τ hI=> ?_)
 ·have hi20:i<20:=AF hi h1
  clear q hsc hstep
  apply hI;intro o k sg ws ok
  refine LK (z5N ?_ (z4P (by exact AY hi20 (by decide))))
  refine LK (z5W λc hc=> ?_)
  repeat' first|(refine LK ?_;with_reducible refine⟨tyL At.hd,?_⟩)|refine LK ?_|fail
  refine z3G .none (.int _) hfs ?_
  refine LK (z3t ?_ (z1 _))
  refine LK (z3G (.int _) .none hfs ?_)
  refine LK (z3t ?_ (z2 _))
  refine LK (z39 (z0i (by rw[Ab,ok.l];exact nD (AZ hi20) rfl)) λo'=> ?_)
  refine hQB _ _ ?_
  have hm:=NmI.mk (a0:= .lst (xs.map V.int)) (a1:= .int (n:Int)) (a2:= .str "abcdefghijklmnopqrstuvwxyz") (a3:= .int N) (a4:= .int step) (a5:= .str fr) (a6:= .int (at_:Int)) (a:=a) (σ:=σ) (o:=o') (k:=some (.int (i:Int))) (sg:=some (.str ⟨#[c]⟩)) (show NmOk (i+1) (ws++[Txt.slice fr none (some (at_:Int))++⟨#[c]⟩++Txt.slice fr (some (at_:Int)) none]) from⟨by rw[Ag,ok.l];rfl,λw hw=>(Ad.mp hw).elim (ok.w w) λh=>by
   rw[Af.mp h]
   exact⟨by rw[z3];exact Nat.succ_pos _,by rw[z3];exact Bh hfl,((hj1.slice _ _).append (z8j hc)).append (hj1.slice _ _)⟩⟩)
  rw[Am] at hm
  exact hm
 apply hI;intro o k sg ws hG1
 clear z1 z2 z3 l1 l2 hstep
 refine z2n (α:=V×List Str) (λp=>(∃P,A8 ((a,o,AO.list (ws.map V.str))::σ) p.1 (.list (p.2.map V.str)) P)/\NmOk n p.2) (λp=>[some (.lst (xs.map V.int)),some (.int (n:Int)),some (.str "abcdefghijklmnopqrstuvwxyz"),some (.int N),some (.int step),some (.str fr),some (.int (at_:Int)),some p.1,k,sg]) ((a,o,.list (ws.map V.str))::σ) (λK hK _=> ?_) λp hp=> ?_
 ·have hno:K .next [some (.lst (xs.map V.int)),some (.int (n:Int)),some (.str "abcdefghijklmnopqrstuvwxyz"),some (.int N),some (.int step),some (.str fr),some (.int (at_:Int)),some (.ref a),k,sg] ((a,o,.list (ws.map V.str))::σ):=hK (.ref a,ws) ⟨⟨_,.refL (.head _)⟩,hG1⟩
  cases hn9:decide ((n:Int)<9) with
  |false=>
   repeat' first|refine z1o (by with_reducible assumption) ?_|(refine z0p (λ_=> ?_) (λ_=> ?_)<;>try (exfalso;rename_i hb;revert hb;simp[V.isNone];done))|fail
   all_goals exact hno
  |true=>
  have hn8:n<=8:=Bm (Int.ofNat_lt.mp (AD hn9))
  repeat' first|refine z2H (by with_reducible assumption) ?_|(refine z0p (λ_=> ?_) (λ_=> ?_)<;>try (exfalso;rename_i hb;revert hb;simp[V.isNone];done))|refine LK ?_|fail
  rotate_left
  ·exact hno
  have hls:("abcdefghijklmnopqrstuvwxyz":Str).length<=sizeLine:=z0i (by rw[let_len];decide)
  obtain⟨ci,hci⟩:=Int.eq_ofNat_of_zero_le (Ba (N.fdiv 504) (show(0:Int)<26 by decide))
  have hci26:ci<=26:=AZ (Int.ofNat_lt.mp (hci▸Bb (N.fdiv 504) (show(0:Int)<26 by decide)))
  have m1:(Txt.slice "abcdefghijklmnopqrstuvwxyz" (some ((N.fdiv 504).fmod 26)) none).length=26-ci:=by rw[hci,z58 (by rw[let_len];exact hci26),let_len]
  have m3:∀z:Nat,z<=100->z<=sizeLine:=λz h=>z0i (nD h rfl)
  have m4:fr.length+(Txt.slice "abcdefghijklmnopqrstuvwxyz" (some ((N.fdiv 504).fmod 26)) none).length<=sizeLine:=m3 _ (by rw[m1];exact nD (Bd hfl (Nat.sub_le 26 ci)) rfl)
  have m5:(fr++Txt.slice "abcdefghijklmnopqrstuvwxyz" (some ((N.fdiv 504).fmod 26)) none).length+("abcdefghijklmnopqrstuvwxyz":Str).length<=sizeLine:=m3 _ (by rw[z0l,m1,let_len];exact nD (Bg (Bd hfl (Nat.sub_le 26 ci)) 26) rfl)
  have m6:26<=(fr++Txt.slice "abcdefghijklmnopqrstuvwxyz" (some ((N.fdiv 504).fmod 26)) none++"abcdefghijklmnopqrstuvwxyz").length:=by rw[z0l,let_len];exact Nat.le_add_left 26 _
  have hbig:(fr++Txt.slice "abcdefghijklmnopqrstuvwxyz" (some ((N.fdiv 504).fmod 26)) none++"abcdefghijklmnopqrstuvwxyz").length<=sizeLine:=by rw[z0l];exact m5
  have hlt:=(hj1.append (let_lt.slice (some ((N.fdiv 504).fmod 26)) none)).append let_lt
  show AS C η vC _ true _ (exec _ η) [some (.lst (xs.map V.int)),some (.int (n:Int)),some (.str "abcdefghijklmnopqrstuvwxyz"),some (.int N),some (.int step),some (.str fr),some (.int (at_:Int)),some (.ref a),k,sg] _ _
  refine z10 "_law_k" ["_law_frame","_law_letters","_law_number"] [] (z27 (by rw[hsc];kernel_rfl)) (by rw[hsc];kernel_rfl) C3 (.cons LkC.lk (.cons LkC.lk (.cons LkC.lk .nil))) (z1p ?_)
  repeat' with_reducible first|refine z0G ?_|refine z0d ?_|refine z0c ?_|refine z0e ?_|refine z1D ?_|refine z0o ?_|refine z1P ?_|fail
  refine⟨_,_,_,n,rfl,z7v h1k,z7w n,z0i (by rw[z00];exact nD h1k rfl),λenv' he=>
   z0N (f:=y4K (fr++Txt.slice "abcdefghijklmnopqrstuvwxyz" (some ((N.fdiv 504).fmod 26)) none++"abcdefghijklmnopqrstuvwxyz")) (z0j he) trivial _ _ _ (λX hX K hK=> ?_) ?_⟩
  ·obtain⟨j,hj,rfl⟩:=z1z hX
   repeat' with_reducible first|refine z1f ?_|refine z0d ?_|refine z0n ?_|refine z0u ?_|refine z0O ?_|refine z2i ?_|refine z6Y ?_ (by with_unfolding_all decide)|refine z8y ?_ (by with_unfolding_all decide) (by with_unfolding_all decide)|refine z1u ?_|refine z1v ?_|fail
   refine z3G (.int _) .none hls ?_
   repeat' with_reducible first|refine z0d ?_|refine z0n ?_|refine z0O ?_|refine z2i ?_|refine z6X ?_|refine z3t ?_ ?_|refine z1u ?_|refine z1v ?_|fail
   ·refine z3G .none (.int _) hbig ?_
    exact hK
   ·exact m5
   ·exact m4
  generalize (fr++Txt.slice "abcdefghijklmnopqrstuvwxyz" (some ((N.fdiv 504).fmod 26)) none++"abcdefghijklmnopqrstuvwxyz")=B at m6 hlt
  have m2:∀j:Nat,j<n->(Txt.slice B none (some (1+(j:Int)))).length=1+j:=λj hj=>z57 (n:=1+j) (Ac (Be (AZ (AF hj hn8)) 1) (Ac (by decide) m6))
  rw[Ay,show(z07 0 1 n).map (y4K B)=((List.range n).map λj:Nat=>Txt.slice B none (some (1+(j:Int)))).map V.str by rw[z4k,AJ,AJ];rfl]
  with_reducible refine z2K ?_
  refine hK (_,_) ⟨⟨_,.lst _⟩,by rw[Ab,BA],λw hw=> ?_⟩
  ·apply z0X hw;intro j hj
   have hj:=Bv.mp hj
   exact⟨by rw[m2 j hj];exact Bn 1 j,by rw[m2 j hj,Nat.add_comm];exact AF hj hn8,hlt.slice _ _⟩
 obtain⟨x,vs⟩:=p
 obtain⟨⟨P,hH⟩,hv⟩:=hp
 have hvz:(vs.map V.str).length<=sizeLine:=z0E (hv.l▸h1k) (by decide)
 repeat' first|(with_reducible refine y25 ?_)|refine LK ?_|fail
 refine y0d λi hi=> ?_
 refine LK (z3F hH .none .none (.int _) (by rcases hi with rfl|rfl<;>decide) hvz (z2A ?_))
 obtain⟨vs',e,h4,h2⟩:=y4q hi hv.w
 rw[e]
 exact⟨σ,As _ _,q _ (h4.trans hv.l) h2⟩
structure B4(w:Str)(ns:List (Str×Int×Int)):Prop where
 len:ns.length<=6
 ok:∀n∈ns,A9 n
 ne:∀n∈ns,n.1≠w
 nd:(ns.map (·.1)).Nodup
noncomputable def fstV:V->V
 | .tup (x::_)=>x
 |v=>v
noncomputable def z30(r1:Stmt)(r2:Stmt)(r3:Stmt):TC:=⟨[.L 1,.Q .lst,.V,.not,.M .Or [.L 1,.len,.P (.int 6),.K .Gt,.M .Or [.P (.bool false)]],.I [.X r1] [],.X r2,.L 1,.forL 3 [.L 3,.call (.ref 130) 1,.V,.not,.M .Or [.L 3,.S 0,.L 2,.K .In,.M .Or [.P (.bool false)]],.I [.X r3] [],.P (.bool true),.L 2,.L 3,.S 0,.setI]],[.inl r1,.inl r2,.inl r3],[([0,0,0],none),([1],none),([2,0,0,0,0],none)]⟩
noncomputable def mtV(w:Str)(ns:List (Str×Int×Int)):LV:=(w,.bool true)::ns.map λn=>(n.1,.bool true)
theorem z3P{w:Str}{ns:List (Str×Int×Int)}:(mtV w ns).map (·.1)=w::ns.map (·.1):=by unfold mtV;rw[Ap,AJ];rfl
theorem y1b{w:Str}{ns:List (Str×Int×Int)}{i:Nat}{n:Str×Int×Int}(hok:B4 w ns)(h:ns[i]? =some n):n.1∉(mtV w (ns.take i)).map (·.1)/\((mtV w (ns.take i)).map (·.1)).Nodup/\mtV w (ns.take i)++[(n.1,.bool true)]=mtV w (ns.take (i+1)):=by
 have htk:ns.take (i+1)=ns.take i++[n]:=by rw[List.take_add_one,h];rfl
 have hnd:(w::ns.map (·.1)).Nodup:=Au.mpr ⟨λh=>by obtain⟨x,hx,e⟩:=Ah.mp h;exact hok.ne x hx e,hok.nd⟩
 have hsub:(w::(ns.take (i+1)).map (·.1)).Sublist (w::ns.map (·.1)):=((List.take_sublist _ _).map _).cons_cons w
 have hnd1:=hsub.nodup hnd
 rw[htk,Am] at hnd1
 have h3:=List.nodup_append.mp (show((w::(ns.take i).map (·.1))++[n.1]).Nodup from hnd1)
 rw[z3P]
 exact⟨λhm=>h3.2.2 _ hm _ (.head _) rfl,h3.1,by unfold mtV;rw[htk,Am];rfl⟩
def NnI(w:Str)(a b:Addr)(ns:List (Str×Int×Int))(σ:Sto)(i:Nat)(m₀:Loc)(τ₀:Sto):Prop:=∀P:Loc->Sto->Prop,(∀{o:Obj} {x:Option V},P [some (.str w),some (.ref a),some (.ref b),x] ((b,o,dS (mtV w (ns.take i)))::σ))->P m₀ τ₀
theorem NnI.mk{w:Str}{a b:Addr}{ns:List (Str×Int×Int)}{σ:Sto}{i:Nat}{o:Obj}{x:Option V}:NnI w a b ns σ i [some (.str w),some (.ref a),some (.ref b),x] ((b,o,dS (mtV w (ns.take i)))::σ):=λ_ k=>k
noncomputable abbrev vJ:List Str:=["ware","needs","met","need"]
theorem z1U(H:G1 C){w:Str}{a:Addr}{ns:List (Str×Int×Int)}(hat:At σ a (.list (ns.map z0f)))(hok:B4 w ns)(q:Q .none σ):CW C (d+3) (.ref 213) [.str w,.ref a] σ Q:=by
 refine z1R ?_
 refine z0M (G1.kin ‹_›) vJ [("isinstance",.bi "isinstance"),("list",.type "list"),("len",.bi "len"),("MOST_NEEDS",.int 6),("BadNeed",.ref 61),("is_need",.ref 130)] (by kernel_rfl) (vs2 λ_ _=>by kernel_rfl) rfl (gA ‹_› [0,12,2,31,32,15]) ?_
 intro η hsc
 clear hsc
 obtain⟨oa,hm⟩:=hat
 have h6:=hok.len
 refine xG H (z30 _ _ _) ?_
 intro F m0
 refine LK (z3O (k:= .lst) (.refL hm) ?_)
 refine LK (z0B (.refL hm) (Ab _) (z0E h6 (by decide)) ?_)
 refine z1o (AX (Int.not_lt.mpr (Bk.mpr h6))) ?_
 refine LK ?_
 show AS C η vJ _ true _ (exec _ η) [some (.str w),some (.ref a),none,none] _ _
 refine z1F (z6V (KK.str C.prog C.w) λb o hf=> ?_)
 repeat' with_reducible first|refine z0d ?_|refine z6j ?_
 refine⟨w,rfl,rfl,λo'=> ?_⟩
 with_reducible refine z2K ?_
 refine LK (.mk _ _ (NnI w a b ns σ) (.refL (.tail _ hm)) .mk (λi X hX m τ hI QB hQB _=> ?_) λm τ hI=> ?_)
 ·clear q
  rw[Al] at hX
  apply z0Z hX;intro n hn
  obtain⟨hnew,hnd,hnx⟩:=y1b hok hn
  have hil:=(An.mp hn).1
  have hz:(mtV w (ns.take i)).length<=sizeLine:=z0i (by unfold mtV;rw[Aq,Ab,AR];exact nD (Bh (Ac (Nat.min_le_right _ _) h6)) rfl)
  have hno:=hok.ok n (Ak hn)
  apply hI;intro o x
  refine LK (fnc (z3j H hno ?_))
  refine LK (z38 H.ns At.hd hnd (z0g ?_))
  rw[z0U hnew]
  refine LK (z8M hnd hz λo'=> ?_)
  rw[z15 hnew,hnx]
  exact hQB _ _ (.tail _ hm) .mk
 ·apply hI;intro o x
  exact⟨σ,As _ _,q⟩
abbrev z0b:=Str×Int×Int
abbrev ES:=Str->List (Int×List z0b)
noncomputable abbrev kvV(kv:LA):LV:=kv.map λp=>(p.1,.ref p.2)
noncomputable abbrev esV(es:List (Int×List z0b)):List (Int×V):=es.map λp=>(p.1,.lst (p.2.map z0f))
theorem z0Q(kv:LA):(kvV kv).map (·.1)=kv.map (·.1):=by simp[AJ,Function.comp_def]
theorem z0L(es:List (Int×List z0b)):(esV es).map (·.1)=es.map (·.1):=by simp[AJ,Function.comp_def]
structure C1(σ:Sto)(i k:Addr)(kv:LA)(es:ES):Prop where
 inst:∃dx,At σ i (.inst 272 dx [("kept",.ref k)])
 kept:At σ k (dS (kvV kv))
 kvn:(kv.map (·.1)).Nodup
 kl:kv.length<=12
 inn:∀p∈kv,At σ p.2 (dI (esV (es p.1)))
 out:∀w,w∉kv.map (·.1)->es w=[]
 eok:∀w,((es w).map (·.1)).Nodup/\(es w).length<=8/\∀p∈es w,p.2.length<=6
 sep:(i::k::kv.map (·.2)).Nodup
theorem C1.at{i k:Addr}{kv:LA}{es:ES}(S:C1 σ i k kv es)(w:Str):
  (vAt (kvV kv) w=none/\w∉kv.map (·.1)/\es w=[])∨∃a,vAt (kvV kv) w=some (.ref a)/\(w,a)∈kv/\At σ a (dI (esV (es w))):=by
 by_cases h:w∈kv.map (·.1)
 ·apply z0X h;intro p hp
  exact .inr ⟨p.2,z0R (by rw[z0Q];exact S.kvn) (Ah.mpr ⟨p,hp,rfl⟩),hp,S.inn p hp⟩
 ·exact .inl ⟨z0U (by rw[z0Q];exact h),h,S.out w h⟩
theorem z0y{a b dx:Addr}{P:V->Prop}(h:At σ a (.inst 272 dx [("kept",.ref b)]))(q:P (.ref b)):z5M 272 "kept" (.ref a) σ P:=y27 h rfl q
theorem z0k{a b dx:Addr}{nm:Str}{P:Addr->Prop}(h:At σ a (.inst 272 dx [("kept",.ref b)]))(q:P a)(hn:(nm==("kept":Str))=false:=by decide+kernel):z4p 272 nm (.ref a) σ P:=
 y3c h (by rw[List.lookup_cons,hn];rfl) q
noncomputable def I7:TC:=⟨[.L 1,.call (.ref 116) 1,.O .And [.L 2,.call (.ref 123) 1,.O .And [.L 2,.L 0,.att 272 "kept",.Y "dict",.L 1,.dic,.H (.bi "dict.get") 2,.G .In]],.ret],[],[]⟩
noncomputable def I0:TC:=⟨[.L 0,.att 272 "kept",.call (.bi "sorted") 1,.ret],[],[]⟩
noncomputable def z3W(r1:Stmt):TC:=⟨[.L 1,.call (.ref 116) 1,.V,.not,.I [.X r1] [],.L 0,.att 272 "kept",.Y "dict",.L 1,.dic,.H (.bi "dict.get") 2,.call (.bi "sorted") 1,.ret],[.inl r1],[([0,0,0],none)]⟩
noncomputable def z3X(r1:Stmt):TC:=⟨[.L 0,.mI 272 "has",.L 1,.L 2,.H (.ref 234) 2,.V,.not,.I [.X r1] [],.L 0,.att 272 "kept",.L 1,.sub,.L 2,.sub,.call (.type "list") 1,.ret],[.inl r1],[([0,0,0],none)]⟩
theorem C1.kn{i k:Addr}{kv:LA}{es:ES}(S:C1 σ i k kv es):((kvV kv).map (·.1)).Nodup:=by rw[z0Q];exact S.kvn
theorem C1.en{i k:Addr}{kv:LA}{es:ES}(S:C1 σ i k kv es)(w:Str):((esV (es w)).map (·.1)).Nodup:=by rw[z0L];exact(S.eok w).1
theorem z4O(H:G1 C){i k b:Addr}{o:Obj}{kv:LA}{es:ES}{w:Str}(S:C1 σ i k kv es)(q:∀c,At ((b,o,.dict [])::σ) c (dI (esV (es w)))->Q (.ref c) ((b,o,.dict [])::σ)):KW C d (.bi "dict.get") [.ref k,.str w,.ref b] ((b,o,.dict [])::σ) Q:=by
 refine z8E H.ns (S.kept.cons _) S.kn ?_
 rcases S.at w with⟨e,_,e2⟩|⟨a,e,_,ha⟩
 ·rw[e];exact q b (by rw[e2];exact At.hd)
 ·rw[e];exact q a (ha.cons _)
noncomputable abbrev vR:List Str:=["self","ware","make"]
theorem z5v(H:G1 C){i k:Addr}{kv:LA}{es:ES}{w:Str}{mk:Int}(S:C1 σ i k kv es)(hw:A7 w)(h1:1<=mk)(h2:mk<=999)(q:Q (.bool (vAt (esV (es w)) mk).isSome) σ):
  CW C (d+2) (.ref 234) [.ref i,.str w,.int mk] σ Q:=by
 refine z1R ?_
 refine z0M (G1.kin ‹_›) vR [("is_ware",.ref 116),("is_make",.ref 123)] (by kernel_rfl) (vs3 λ_ _ _=>by kernel_rfl) rfl (gA ‹_› [10,11]) ?_
 intro η hsc
 clear hsc
 obtain⟨dx,hin⟩:=S.inst
 have hk:=S.kept
 refine xG H I7 ?_
 intro F m0
 refine LK (fnc (z1d H hw ?_))
 refine LK (fnc (z1c H h1 h2 ?_))
 refine LK (z0y hin ?_)
 refine LK ⟨tyD hk,?_⟩
 intro b o hf
 refine LK (z4O H S λc hc=> ?_)
 refine LK (z95 H.ns hc (S.en w) ?_)
 exact⟨σ,As _ _,q⟩
theorem y0o{Xs:List V}{σ₁:Sto}(hs:σ.Sublist σ₁)(q:NLf Q Xs σ):NLf (λx σ'=>∃τ,τ.Sublist σ'/\Q x τ) Xs σ₁:=by
 rcases q with q|q
 ·exact .inl ⟨σ,hs,q⟩
 ·exact .inr λa o hf=>⟨_,hs.cons_cons _,q a o λp hp=>hf p (hs.subset hp)⟩
theorem z9l(H:G1 C){i k:Addr}{kv:LA}{es:ES}(S:C1 σ i k kv es)(q:NLf Q ((z2e (kv.map (·.1))).map V.str) σ):
  CW C (d+1) (.ref 269) [.ref i] σ Q:=by
 refine z0M (G1.kin ‹_›) ["self"] [("sorted",.bi "sorted")] (by kernel_rfl) (vs1 λ_=>by kernel_rfl) rfl (gA ‹_› [41]) ?_
 intro η hsc
 clear hsc
 obtain⟨dx,hin⟩:=S.inst
 refine xG H I0 ?_
 intro F m0
 refine LK (z0y hin ?_)
 refine LK (z63 H.ns S.kept S.kn (by rw[Ab];exact AG S.kl (by decide)) ?_)
 rw[z0Q]
 exact q
theorem z4W(H:G1 C){i k:Addr}{kv:LA}{es:ES}{w:Str}(S:C1 σ i k kv es)(hw:A7 w)(q:NLf Q ((z2u ((es w).map (·.1))).map V.int) σ):
  CW C (d+2) (.ref 255) [.ref i,.str w] σ Q:=by
 refine z1R ?_
 refine z0M (G1.kin ‹_›) ["self","ware"] [("is_ware",.ref 116),("BadWare",.ref 37),("sorted",.bi "sorted")] (by kernel_rfl) (vs2 λ_ _=>by kernel_rfl) rfl (gA ‹_› [10,33,41]) ?_
 intro η hsc
 clear hsc
 obtain⟨dx,hin⟩:=S.inst
 refine xG H (z3W _) ?_
 intro F m0
 refine LK (fnc (z1d H hw ?_))
 refine LK (z0y hin ?_)
 refine LK ⟨tyD S.kept,?_⟩
 intro b o hf
 refine LK (z4O H S λc hc=> ?_)
 refine LK (z62 H.ns hc (S.en w) (by rw[Ab];exact AG (S.eok w).2.1 (by decide)) ?_)
 rw[z0L]
 exact y0o (As _ _) q
theorem z3k(H:G1 C){i k:Addr}{kv:LA}{es:ES}{w:Str}{mk:Int}{ns:List z0b}(S:C1 σ i k kv es)(hw:A7 w)(h1:1<=mk)(h2:mk<=999)(hm:(mk,ns)∈es w)
  (q:NLf Q (ns.map z0f) σ):CW C (d+3) (.ref 262) [.ref i,.str w,.int mk] σ Q:=by
 refine z0M (G1.kin ‹_›) vR [("NoMake",.ref 97),("list",.type "list")] (by kernel_rfl) (vs3 λ_ _ _=>by kernel_rfl) rfl (gA ‹_› [40,12]) ?_
 intro η hsc
 clear hsc
 obtain⟨dx,hin⟩:=S.inst
 have hv:vAt (esV (es w)) mk=some (.lst (ns.map z0f)):=z0R (S.en w) (Ah.mpr ⟨_,hm,rfl⟩)
 rcases S.at w with⟨_,_,e2⟩|⟨a,e,_,ha⟩
 ·rw[e2] at hm;cases hm
 refine xG H (z3X _) ?_
 intro F m0
 refine LK (z0k hin ?_)
 refine LK (fnc (z5v H S hw h1 h2 ?_))
 rw[hv]
 refine LK (z0y hin ?_)
 refine LK (z3u S.kept S.kn e ?_)
 refine LK (y3G ha (S.en w) hv ?_)
 exact⟨z2z (.lst _) (z0E ((S.eok w).2.2 _ hm) (by decide)) q⟩
theorem y3a(es:List (Int×List z0b))(mk:Int):z21 (esV es) mk=esV (es.filter λp=>decide (p.1≠mk)):=by
 unfold z21
 rw[List.filter_map];rfl
theorem y3b(kv:LA)(w:Str):z21 (kvV kv) w=kvV (kv.filter λp=>decide (p.1≠w)):=by
 unfold z21
 rw[List.filter_map];rfl
theorem z87(kv:LA)(w:Str)(b:Addr):kvV (kv++[(w,b)])=kvV kv++[(w,.ref b)]:=Am
theorem z8W(es:List (Int×List z0b))(mk:Int)(ns:List z0b):esV (es++[(mk,ns)])=esV es++[(mk,.lst (ns.map z0f))]:=Am
theorem C1.ne{i k:Addr}{kv:LA}{es:ES}(S:C1 σ i k kv es){w:Str}{a:Addr}(h:(w,a)∈kv):i≠a/\k≠a/\i≠k:=by
 have:=S.sep
 have ha:a∈kv.map (·.2):=Ah.mpr ⟨_,h,rfl⟩
 have h1:=Au.mp this
 have h2:=Au.mp h1.2
 exact⟨λe=>h1.1 (.tail _ (e▸ha)),λe=>h2.1 (e▸ha),λe=>h1.1 (e▸ .head _)⟩
noncomputable def z4x(r1:Stmt):TC:=⟨[.L 0,.mI 272 "has",.L 1,.L 2,.H (.ref 234) 2,.V,.not,.I [.X r1] [],.L 0,.att 272 "kept",.L 1,.sub,.Y "dict",.L 2,.H (.bi "dict.pop") 1,.pop,.L 0,.att 272 "kept",.L 1,.sub,.dic,.K .Eq,.I [.L 0,.att 272 "kept",.Y "dict",.L 1,.H (.bi "dict.pop") 1,.pop] []],[.inl r1],[([0,0,0],none)]⟩
noncomputable def z5p(r1:Stmt)(r2:Stmt)(r3:Stmt)(r4:Stmt)(r5:Stmt):TC:=⟨[.L 1,.call (.ref 116) 1,.V,.not,.I [.X r1] [],.L 2,.call (.ref 123) 1,.V,.not,.I [.X r2] [],.L 1,.L 3,.call (.ref 213) 2,.pop,.L 0,.mI 272 "has",.L 1,.L 2,.H (.ref 234) 2,.V,.I [.X r3] [],.cut [.L 1,.L 0,.att 272 "kept",.K .NotIn,.M .And [.L 0,.att 272 "kept",.len,.P (.int 12),.K .Eq,.M .And [.P (.bool true)]],.I [.X r4] []],.L 0,.att 272 "kept",.Y "dict",.L 1,.dic,.H (.bi "dict.get") 2,.len,.P (.int 8),.K .Eq,.I [.X r5] [],.L 3,.call (.type "list") 1,.L 0,.att 272 "kept",.Y "dict",.L 1,.dic,.H (.bi "dict.setdefault") 2,.L 2,.setI],[.inl r1,.inl r2,.inl r3,.inl r4,.inl r5],[([0,0,0],none),([1,0,0],none),([3,0,0],none),([4,0,0],none),([5,0,0],none)]⟩
noncomputable def z2M(r1:Stmt):TC:=⟨[.X r1],[.inl r1],[([0],none)]⟩
theorem z8q(H:G1 C){i k a:Addr}{kv:LA}{es:ES}{w:Str}{mk:Int}{ns:List z0b}(S:C1 σ i k kv es)(hw:A7 w)(h1:1<=mk)(h2:mk<=999)(hm:(mk,ns)∈es w)(ha:(w,a)∈kv)
  (qa:(es w).filter (λp=>decide (p.1≠mk))≠[]->∀σ',C5 σ σ' a (dI (esV ((es w).filter λp=>decide (p.1≠mk))))->Q .none σ')
  (qb:(es w).filter (λp=>decide (p.1≠mk))=[]->∀σ₁ σ',C5 σ σ₁ a (dI [])->C5 σ₁ σ' k (dS (kvV (kv.filter λp=>decide (p.1≠w))))->Q .none σ'):
  CW C (d+3) (.ref 248) [.ref i,.str w,.int mk] σ Q:=by
 refine z0M (G1.kin ‹_›) vR [("NoMake",.ref 97)] (by kernel_rfl) (vs3 λ_ _ _=>by kernel_rfl) rfl (gA ‹_› [40]) ?_
 intro η hsc
 clear hsc
 obtain⟨dx,hin⟩:=S.inst
 have hk:=S.kept
 have hkn:=S.kn
 have hen:=S.en w
 have hv:vAt (esV (es w)) mk=some (.lst (ns.map z0f)):=z0R hen (Ah.mpr ⟨_,hm,rfl⟩)
 have hkv:vAt (kvV kv) w=some (.ref a):=z0R hkn (Ah.mpr ⟨_,ha,rfl⟩)
 obtain⟨n1,n2,n3⟩:=S.ne ha
 refine xG H (z4x _) ?_
 intro F m0
 refine LK (z0k hin ?_)
 refine LK (fnc (z5v H S hw h1 h2 ?_))
 rw[hv]
 refine LK (z0y hin ?_)
 refine LK (z3u hk hkn hkv ?_)
 refine LK ⟨tyD (S.inn _ ha),?_⟩
 refine LK (z8G (S.inn _ ha) hen (z0E (S.eok w).2.1 (by decide)) hv λσ' U=> ?_)
 rw[y3a] at U
 have hin':=U.at hin n1
 have hk':=U.at hk n2
 have hen':((esV ((es w).filter λp=>decide (p.1≠mk))).map (·.1)).Nodup:=by
  rw[z0L];exact((List.filter_sublist).map _).nodup (S.eok w).1
 refine LK (z0y hin' ?_)
 refine LK (z3u hk' hkn hkv ?_)
 intro b o hf
 refine LK (y2W (KK.int C.prog C.w) H.ns (U.here.cons _) hen' At.hd ?_)
 have hke:∀p∈σ',p∈(b,o,AO.dict [])::σ':=λp h=> .tail _ h
 have he:(esV ((es w).filter λp=>decide (p.1≠mk))).isEmpty=((es w).filter λp=>decide (p.1≠mk)).isEmpty:=by unfold esV;rw[List.isEmpty_map]
 refine z0g ?_
 rw[he]
 refine z0p (λhb=> ?_) λhb=> ?_
 ·have hb:=List.isEmpty_iff.mp hb
  rw[hb] at U
  have hk2:=hk'.cons (b,o,AO.dict [])
  refine LK (z0y (hin'.cons _) ?_)
  refine LK ⟨tyD hk2,?_⟩
  refine LK (z8H hk2 hkn (z0E S.kl (by decide)) hkv λσ₂ U2=> ?_)
  rw[y3b] at U2
  exact qb hb ((b,o,.dict [])::σ') σ₂ ⟨U.here.cons _,λp hp hn=> .tail _ (U.keep p hp hn)⟩ U2
 ·exact qa (λe=>by rw[e] at hb;cases hb) ((b,o,.dict [])::σ') ⟨U.here.cons _,λp hp hn=> .tail _ (U.keep p hp hn)⟩
noncomputable abbrev vG:List Str:=["self","ware","make","needs"]
theorem z9k(H:G1 C){i k nl:Addr}{kv:LA}{es:ES}{w:Str}{mk:Int}{ns:List z0b}(S:C1 σ i k kv es)(hw:A7 w)(h1:1<=mk)(h2:mk<=999)
  (hnl:At σ nl (.list (ns.map z0f))) (hns:B4 w ns) (hnew:mk∉(es w).map (·.1)) (hroom:(es w).length≠8) (hroom2:w∉kv.map (·.1)->kv.length≠12)
  (qa:∀a,(w,a)∈kv->∀σ',C5 σ σ' a (dI (esV (es w++[(mk,ns)])))->Q .none σ')
  (qb:w∉kv.map (·.1)->∀b σ',A4 σ b->At σ' b (dI (esV [(mk,ns)]))->At σ' k (dS (kvV (kv++[(w,b)])))->(∀p∈σ,p.1≠k->p∈σ')->Q .none σ'):
  CW C (d+4) (.ref 241) [.ref i,.str w,.int mk,.ref nl] σ Q:=by
 refine z0M (G1.kin ‹_›) vG [("is_ware",.ref 116),("BadWare",.ref 37),("is_make",.ref 123),("BadMake",.ref 49),("need_needs",.ref 213),("Twice",.ref 73),("len",.bi "len"),("MOST_WARES",.int 12),("Full",.ref 85),("MOST_MAKES",.int 8),("list",.type "list")] (by kernel_rfl) (vs4 λ_ _ _ _=>by kernel_rfl) rfl (gA ‹_› [10,33,11,34,35,36,2,37,38,39,12]) ?_
 intro η hsc
 clear hsc
 obtain⟨dx,hin⟩:=S.inst
 have hk:=S.kept
 have hkn:=S.kn
 have hen:=S.en w
 have hkz:(kvV kv).length<=sizeLine:=z0E S.kl (by decide)
 have hez:(esV (es w)).length<=sizeLine:=z0E (S.eok w).2.1 (by decide)
 have hv:vAt (esV (es w)) mk=none:=z0U (by rw[z0L];exact hnew)
 obtain⟨onl,hnm⟩:=hnl
 refine xG H (z5p _ _ _ _ _) ?_
 intro F m0
 refine LK (fnc (z1d H hw ?_))
 refine LK (fnc (z1c H h1 h2 ?_))
 refine LK (fnc (z1U H ⟨onl,hnm⟩ hns ?_))
 refine LK (z0k hin ?_)
 refine LK (fnc (z5v H S hw h1 h2 ?_))
 rw[hv]
 refine z8T [some (.ref i),some (.str w),some (.int mk),some (.ref nl)] σ (λK hK _=> ?_) ?_
 ·refine LK (z0y hin ?_)
  refine LK (z41 H.ns hk hkn (z0g ?_))
  refine z0p (λhb=> ?_) λ_=>hK
  refine LK (z0y hin ?_)
  refine LK (z4L H.ns hk hkn hkz ?_)
  refine z1o (AX λe=>hroom2 (λhm=> ?_) (by rw[<-Ab];exact Br e)) hK
  obtain⟨p,hp,rfl⟩:=Ah.mp hm
  rw[z0R hkn (Ah.mpr ⟨p,hp,rfl⟩)] at hb
  cases hb
 refine LK (z0y hin ?_)
 refine LK ⟨tyD hk,?_⟩
 intro b0 o0 hf0
 refine LK (z4O H S λc hc=> ?_)
 refine LK (z4K H.ns hc hen hez ?_)
 refine z1o (AX λe=>hroom (by rw[<-Ab];exact Br e)) ?_
 clear hc c
 refine LK (z2z (.refL (.tail _ hnm)) (z0E hns.len (by decide)) (.inl ?_))
 refine LK (z0y (hin.cons _) ?_)
 refine LK ⟨tyD (hk.cons _),?_⟩
 intro b o hf
 rcases S.at w with⟨e,hno,e2⟩|⟨a,e,ha,hat⟩
 ·refine LK (z45 H.ns ((hk.cons _).cons _) hkn hkz (λY hY=>by rw[e] at hY;cases hY) λ_ σ' U=> ?_)
  rw[z15 (by rw[z0Q];exact hno)] at U
  have hfb:A4 σ b:=λp hp=>hf p (.tail _ hp)
  have hbk:k≠b:=hfb.ne hk
  refine LK (z8a (U.at At.hd hbk.symm:At σ' b (dI [])) Aw (by decide) λσ'' U2=> ?_)
  refine qb hno b σ'' hfb U2.here (U2.at ?_ hbk) λp hp hne=>U2.keep p (U.keep p (.tail _ (.tail _ hp)) hne) (hfb p hp)
  rw[z87]
  exact U.here
 ·refine LK (z45 H.ns ((hk.cons _).cons _) hkn hkz (λY hY=> ?_) λhY=>by rw[e] at hY;cases hY)
  rw[e] at hY
  cases hY
  refine LK (z8a ((hat.cons _).cons _) hen hez λσ'' U2=> ?_)
  rw[z15 (by rw[z0L];exact hnew)] at U2
  refine qa a ha σ'' ⟨?_,λp hp hne=>U2.keep p (.tail _ (.tail _ hp)) hne⟩
  rw[z8W]
  exact U2.here
theorem y4t(H:G1 C){x dx:Addr}{o:Obj}(q:∀k σ',A4 ((x,o,.inst 272 dx [])::σ) k->At σ' x (.inst 272 dx [("kept",.ref k)])->At σ' k (dS [])->(∀p∈σ,p.1≠x->p∈σ')->Q .none σ'):
  CW C (d+1) (.ref 227) [.ref x] ((x,o,.inst 272 dx [])::σ) Q:=by
 refine z0M (G1.kin ‹_›) ["self"] [] (by kernel_rfl) (vs1 λ_=>by kernel_rfl) rfl C3 ?_
 intro η hsc
 clear hsc
 refine xG H (z2M _) ?_
 intro F m0
 refine LK ?_
 show AS C η ["self"] _ true _ (exec _ η) [some (.ref x)] _ _
 refine z4b (z7y H) ?_
 refine z3E λk o' hf=> ?_
 with_reducible refine z0d ?_
 refine⟨x,dx,[],rfl,At.hd.cons _,rfl,by decide,λσ' U=> ?_⟩
 have hne:x≠k:=hf _ (.head _)
 exact q k σ' hf U.here (U.at At.hd hne.symm) λp hp hn=>U.keep p (.tail _ (.tail _ hp)) hn
theorem z8n(H:G1 C)(q:∀x k dx σ',A4 σ x->A4 σ k->x≠k->At σ' x (.inst 272 dx [("kept",.ref k)])->At σ' k (dS [])->(∀p∈σ,p∈σ')->Q (.ref x) σ'):CW C (d+2) (.ref 272) [] σ Q:=by
 refine z93 (z6G H) λx dx o hf=> ?_
 exact y4t H λk σ' hk h1 h2 h3=>⟨rfl,q x k dx σ' hf (λp hp=>hk p (.tail _ hp)) (hk _ (.head _)) h1 h2 λp hp=>h3 p hp (hf p hp)⟩
end
section
variable {C:Cx} [HM C] [NF C] {d:Nat} {σ:Sto} {Q:VP} {EQ:Value->Sto->Prop} {ro i k dk:Addr} {rv kv:LA} {es es':ES} {wi ns wi':List z0b} {ps:LI} {w c c':Str} {ks ks':List Str} {σd σl:Sto}
section
variable {C:Cx} [HM C] [NF C] {d:Nat} {σ:Sto} {Q:VP}
theorem z09{α β:Type}{f:α->β}:∀{l:List α},(l.map f).Nodup->∀{x y:α},x∈l->y∈l->f x=f y->x=y
 |a::l,h,x,y,hx,hy,e=>by
  have h':=Au.mp h
  rcases Ae.mp hx with hx|hx
  ·rcases Ae.mp hy with hy|hy
   ·rw[hx,hy]
   ·exact absurd (Ah.mpr ⟨y,hy,by rw[<-e,hx]⟩) h'.1
  ·rcases Ae.mp hy with hy|hy
   ·exact absurd (Ah.mpr ⟨x,hx,by rw[e,hy]⟩) h'.1
   ·exact z09 h'.2 hx hy e
theorem z0Y{α:Type}{l:List α}{x:α}(h:l.Nodup)(hx:x∉l):(l++[x]).Nodup:=
 List.nodup_append.mpr ⟨h,Au.mpr ⟨Av,Aw⟩,λa ha b hb=>by
  rw[Af.mp hb];rintro rfl;exact hx ha⟩
structure B6(w:Str)(l:List (Int×List z0b)):Prop where
 nd:(l.map (·.1)).Nodup
 len:l.length<=8
 mb:∀p∈l,1<=p.1/\p.1<=999
 nok:∀p∈l,B4 w p.2
theorem B6.nil{w:Str}:B6 w []:=⟨Aw,by decide,(λp h=>by cases h),λp h=>by cases h⟩
theorem B6.filter{w:Str}{l:List (Int×List z0b)}(h:B6 w l)(f:Int×List z0b->Bool):B6 w (l.filter f):=
 ⟨((List.filter_sublist).map _).nodup h.nd,Ac (Bc _ _) h.len,λp hp=>h.mb p (Bu.mp hp).1,λp hp=>h.nok p (Bu.mp hp).1⟩
theorem B6.add{w:Str}{l:List (Int×List z0b)}(h:B6 w l){mk:Int}{ns:List z0b}(hn:mk∉l.map (·.1))(hl:l.length<8)(h1:1<=mk)(h2:mk<=999)(h6:B4 w ns):B6 w (l++[(mk,ns)]):=by
 refine⟨by rw[Am];exact z0Y h.nd hn,by simp;exact Bm hl,λp hp=> ?_,λp hp=> ?_⟩
 ·rcases Ad.mp hp with e|e
  ·exact h.mb p e
  ·rw[Af.mp e];exact⟨h1,h2⟩
 ·rcases Ad.mp hp with e|e
  ·exact h.nok p e
  ·rw[Af.mp e];exact h6
noncomputable def z03(es:ES)(w:Str)(l:List (Int×List z0b)):ES:=λv=>if v=w then l else es v
theorem z0m(es:ES)(w:Str)(l:List (Int×List z0b)):z03 es w l w=l:=by simp[z03]
theorem z0t{es:ES}{w v:Str}{l:List (Int×List z0b)}(h:v≠w):z03 es w l v=es v:=by simp[z03,h]
theorem z3i(es:ES)(w:Str)(l l':List (Int×List z0b)):z03 (z03 es w l) w l'=z03 es w l':=by
 funext v
 by_cases e:v=w
 ·rw[e,z0m,z0m]
 ·rw[z0t e,z0t e,z0t e]
theorem z9j{es:ES}{w:Str}{l:List (Int×List z0b)}(h:es w=l):z03 es w l=es:=by
 funext v
 by_cases e:v=w
 ·rw[e,z0m,h]
 ·rw[z0t e]
structure Rw(σ:Sto)(ro:Addr)(rv:LA)(es:ES):Prop where
 rows:At σ ro (dS (kvV rv))
 rin:∀p∈rv,At σ p.2 (dI (esV (es p.1)))
 rwn:(rv.map (·.1)).Nodup
 rl:rv.length<=12
 wok:∀p∈rv,A7 p.1
 out:∀w,w∉rv.map (·.1)->es w=[]
 eok:∀w,B6 w (es w)
 sep:(ro::rv.map (·.2)).Nodup
variable {ro:Addr} {rv:LA} {es:ES}
theorem Rw.frame{σ':Sto}(S:Rw σ ro rv es)(h:∀a∈ro::rv.map (·.2),∀x,At σ a x->At σ' a x):Rw σ' ro rv es:=
 {S with rows:=h _ (.head _) _ S.rows,rin:=λp hp=>h _ (.tail _ (Ah.mpr ⟨p,hp,rfl⟩)) _ (S.rin p hp)}
theorem Rw.ne(S:Rw σ ro rv es){p:Str×Addr}(h:p∈rv):p.2≠ro:=λe=>(Au.mp S.sep).1 (e▸Ah.mpr ⟨p,h,rfl⟩)
theorem Rw.set(S:Rw σ ro rv es){σ':Sto}{w:Str}{b:Addr}{l:List (Int×List z0b)}(hb:(w,b)∈rv)(ok:B6 w l)(U:C5 σ σ' b (dI (esV l))):Rw σ' ro rv (z03 es w l):=by
 refine{S with rows:=U.at S.rows (S.ne hb).symm,rin:=λp hp=> ?_,out:=λv hv=> ?_,eok:=λv=> ?_}
 ·by_cases e:p.1=w
  ·have:p=(w,b):=z09 S.rwn hp hb e
   subst this;rw[z0m];exact U.here
  ·rw[z0t e]
   exact U.at (S.rin p hp) λe2=>e (by rw[z09 (Au.mp S.sep).2 hp hb e2])
 ·rw[z0t (λe=>hv (by rw[e];exact Ah.mpr ⟨_,hb,rfl⟩))];exact S.out v hv
 ·by_cases e:v=w
  ·subst e;rw[z0m];exact ok
  ·rw[z0t e];exact S.eok v
theorem Rw.at(S:Rw σ ro rv es){w:Str}(h:w∈rv.map (·.1)):∃b,(w,b)∈rv/\vAt (kvV rv) w=some (.ref b)/\At σ b (dI (esV (es w))):=by
 apply z0X h;intro p hp
 exact⟨p.2,hp,z0R (by rw[z0Q];exact S.rwn) (Ah.mpr ⟨p,hp,rfl⟩),S.rin p hp⟩
end
structure D4(wi:List z0b):Prop where
 len:wi.length<=8
 ok:∀n∈wi,A9 n
theorem y5e(n:Nat):(-1+((n+1:Nat):Int)).toNat=n:=by rw[Int.natCast_add,Int.add_comm];exact congrArg Int.toNat (Int.add_neg_cancel_right n 1)
theorem B6.e3{w:Str}{l:List (Int×List z0b)}(h:B6 w l):(l.map (·.1)).Nodup/\l.length<=8/\∀p∈l,p.2.length<=6:=⟨h.nd,h.len,λp hp=>(h.nok p hp).len⟩
theorem C1.frame{σ':Sto}(S:C1 σ i k kv es)(h:∀a∈i::k::kv.map (·.2),∀x,At σ a x->At σ' a x):C1 σ' i k kv es:=
 ⟨let⟨dx,e⟩:=S.inst;⟨dx,h _ (.head _) _ e⟩,h _ (.tail _ (.head _)) _ S.kept,S.kvn,S.kl,λp hp=>h _ (.tail _ (.tail _ (Ah.mpr ⟨p,hp,rfl⟩))) _ (S.inn p hp),S.out,S.eok,S.sep⟩
theorem z1J{P:Str->List (Int×List z0b)->Prop}{w:Str}{l:List (Int×List z0b)}(h:∀v,P v (es v))(hl:P w l):∀v,P v (z03 es w l v):=λv=>by
 by_cases e:v=w
 ·subst e;rw[z0m];exact hl
 ·rw[z0t e];exact h v
abbrev E3(l:List (Int×List z0b)):Prop:=(l.map (·.1)).Nodup/\l.length<=8/\∀p∈l,p.2.length<=6
theorem C1.vv(S:C1 σ i k kv es):(kv.map (·.2)).Nodup:=(Au.mp (Au.mp S.sep).2).2
theorem C1.set(S:C1 σ i k kv es){σ':Sto}{w:Str}{a:Addr}{l:List (Int×List z0b)}(ha:(w,a)∈kv)(ok:B6 w l)(U:C5 σ σ' a (dI (esV l))):C1 σ' i k kv (z03 es w l):=by
 obtain⟨n1,n2,n3⟩:=S.ne ha
 obtain⟨dx,hin⟩:=S.inst
 refine⟨⟨dx,U.at hin n1⟩,U.at S.kept n2,S.kvn,S.kl,λp hp=> ?_,λv hv=> ?_,z1J (P:=λ_ l=>E3 l) S.eok ok.e3,S.sep⟩
 ·by_cases e:p.1=w
  ·have:p=(w,a):=z09 S.kvn hp ha e
   subst this;rw[z0m];exact U.here
  ·rw[z0t e]
   exact U.at (S.inn p hp) λe2=>e (by rw[z09 S.vv hp ha e2])
 ·rw[z0t (λe=>hv (by rw[e];exact Ah.mpr ⟨_,ha,rfl⟩))];exact S.out v hv
theorem C1.add(S:C1 σ i k kv es){σ':Sto}{w:Str}{b:Addr}{l:List (Int×List z0b)}(hno:w∉kv.map (·.1))(hl:kv.length<12)(ok:B6 w l)(hf:A4 σ b)(h1:At σ' b (dI (esV l)))(h2:At σ' k (dS (kvV (kv++[(w,b)]))))(h3:∀p∈σ,p.1≠k->p∈σ'):
  C1 σ' i k (kv++[(w,b)]) (z03 es w l):=by
 have mv:∀c x,c≠k->At σ c x->At σ' c x:=λc x h ⟨o,ho⟩=>⟨o,h3 _ ho h⟩
 have mem:∀p∈kv++[(w,b)],p∈kv∨p=(w,b):=λp hp=>by simpa using hp
 obtain⟨dx,hin⟩:=S.inst
 have s1:=Au.mp S.sep
 have s2:=Au.mp s1.2
 refine⟨⟨dx,mv _ _ (λe=>s1.1 (e▸ .head _)) hin⟩,h2,by rw[Am];exact z0Y S.kvn hno,by simp;exact Bm hl,λp hp=> ?_,λv hv=> ?_,z1J (P:=λ_ l=>E3 l) S.eok ok.e3,?_⟩
 ·rcases mem p hp with h|rfl
  ·rw[z0t (λe=>hno (by rw[<-e];exact Ah.mpr ⟨p,h,rfl⟩))]
   exact mv _ _ (λe=>s2.1 (e▸Ah.mpr ⟨p,h,rfl⟩)) (S.inn p h)
  ·rw[z0m];exact h1
 ·rw[Am,Ad,not_or] at hv
  rw[z0t (λe=>hv.2 (by rw[e];exact .head _))];exact S.out v hv.1
 ·rw[Am]
  refine z0Y (l:=i::k::kv.map (·.2)) S.sep λh=> ?_
  rcases Ae.mp h with h|h
  ·exact hf.ne hin h.symm
  ·rcases Ae.mp h with h|h
   ·exact hf.ne S.kept h.symm
   ·obtain⟨p,hp,e⟩:=Ah.mp h
    exact hf.ne (S.inn p hp) e
theorem C1.del(S:C1 σ i k kv es){σ₁ σ':Sto}{w:Str}{a:Addr}(ha:(w,a)∈kv)(U:C5 σ σ₁ a (dI []))(U2:C5 σ₁ σ' k (dS (kvV (kv.filter λp=>decide (p.1≠w))))):
  C1 σ' i k (kv.filter λp=>decide (p.1≠w)) (z03 es w []):=by
 obtain⟨n1,n2,n3⟩:=S.ne ha
 obtain⟨dx,hin⟩:=S.inst
 have s1:=Au.mp S.sep
 have s2:=Au.mp s1.2
 have sub:∀p,p∈kv.filter (λp=>decide (p.1≠w))->p∈kv/\p.1≠w:=λp hp=>by simpa using Bu.mp hp
 refine⟨⟨dx,U2.at (U.at hin n1) n3⟩,U2.here,((List.filter_sublist).map _).nodup S.kvn,Ac (Bc _ _) S.kl,λp hp=> ?_,λv hv=> ?_,z1J (P:=λ_ l=>E3 l) S.eok (B6.nil (w:=w)).e3,?_⟩
 ·obtain⟨h1,h2⟩:=sub p hp
  rw[z0t h2]
  exact U2.at (U.at (S.inn p h1) λe2=>h2 (by rw[z09 S.vv h1 ha e2])) λe=>s2.1 (e▸Ah.mpr ⟨p,h1,rfl⟩)
 ·by_cases e:v=w
  ·rw[e,z0m]
  ·rw[z0t e]
   refine S.out v λhm=>hv ?_
   obtain⟨p,hp,rfl⟩:=Ah.mp hm
   exact Ah.mpr ⟨p,Bu.mpr ⟨hp,by simpa using e⟩,rfl⟩
 ·exact((((List.filter_sublist (l:=kv)).map (·.2)).cons_cons k).cons_cons i).nodup S.sep
theorem y3g(l:LA):((kvV l).map λp=>(KK.str C.prog C.w).v p.1)=(l.map (·.1)).map V.str:=by rw[AJ,AJ];rfl
noncomputable def z4z(r1:Stmt):TC:=⟨[.X r1,.L 0,.forDS 2 [.L 0,.L 2,.sub,.forDI 3 [.L 1,.mI 272 "put",.L 2,.L 3,.L 0,.L 2,.sub,.L 3,.sub,.call (.type "list") 1,.H (.ref 241) 3,.pop]],.L 1,.ret],[.inl r1],[([0],none)]⟩
def ShI(ro x k:Addr)(rv:LA)(es:ES)(σ:Sto)(i:Nat)(m₀:Loc)(τ₀:Sto):Prop:=∀P:Loc->Sto->Prop,(∀{kv:LA} {es':ES} {u v:Option V} {τ:Sto},C1 τ x k kv es'->kv.map (·.1)=(rv.map (·.1)).take i->(∀w∈(rv.map (·.1)).take i,es' w=es w)->(∀p∈kv,A4 σ p.2)->(∀p∈σ,p∈τ)->P [some (.ref ro),some (.ref x),u,v] τ)->P m₀ τ₀
theorem ShI.mk{ro x k:Addr}{rv:LA}{es:ES}{σ:Sto}{i:Nat}{kv:LA}{es':ES}{u v:Option V}{τ:Sto}(x0:C1 τ x k kv es')(x1:kv.map (·.1)=(rv.map (·.1)).take i)(x2:(∀w∈(rv.map (·.1)).take i,es' w=es w))(x3:(∀p∈kv,A4 σ p.2))(x4:(∀p∈σ,p∈τ)):ShI ro x k rv es σ i [some (.ref ro),some (.ref x),u,v] τ:=λ_ k=>k x0 x1 x2 x3 x4
def SjI(ro x k:Addr)(kv:LA)(es':ES)(w:Str)(l:List (Int×List z0b))(σ:Sto)(j:Nat)(m₀:Loc)(τ₀:Sto):Prop:=∀P:Loc->Sto->Prop,(∀{kv':LA} {v:Option V} {τ:Sto},C1 τ x k kv' (z03 es' w (l.take j))->(j=0/\kv'=kv∨0<j/\kv'.map (·.1)=kv.map (·.1)++[w])->(∀p∈kv',A4 σ p.2)->(∀p∈σ,p∈τ)->P [some (.ref ro),some (.ref x),some (.str w),v] τ)->P m₀ τ₀
theorem SjI.mk{ro x k:Addr}{kv:LA}{es':ES}{w:Str}{l:List (Int×List z0b)}{σ:Sto}{j:Nat}{kv':LA}{v:Option V}{τ:Sto}(x0:C1 τ x k kv' (z03 es' w (l.take j)))(x1:(j=0/\kv'=kv∨0<j/\kv'.map (·.1)=kv.map (·.1)++[w]))(x2:(∀p∈kv',A4 σ p.2))(x3:(∀p∈σ,p∈τ)):SjI ro x k kv es' w l σ j [some (.ref ro),some (.ref x),some (.str w),v] τ:=λ_ k=>k x0 x1 x2 x3
theorem B6.tk{w:Str}{l:List (Int×List z0b)}(h:B6 w l)(j:Nat):B6 w (l.take j):=
 ⟨((List.take_sublist _ _).map _).nodup h.nd,Ac (List.take_sublist _ _).length_le h.len,λp hp=>h.mb p (List.mem_of_mem_take hp),λp hp=>h.nok p (List.mem_of_mem_take hp)⟩
theorem z1s{α:Type}{l:List α}{j:Nat}{x:α}(h:l[j]? =some x):l.take (j+1)=l.take j++[x]:=by rw[List.take_add_one,h];rfl
theorem z4V{α:Type}{l:List α}(hn:l.Nodup){j:Nat}{x:α}(h:l[j]? =some x):x∉l.take j:=λhm=>by
 have:=(List.take_sublist (j+1) l).nodup hn
 rw[z1s h] at this
 exact(List.nodup_append.mp this).2.2 _ hm _ (.head _) rfl
theorem z7O(H:G1 C)(S:Rw σ ro rv es)(hne:∀p∈rv,es p.1≠[])
  (q:∀x k kv σ',C1 σ' x k kv es->kv.map (·.1)=rv.map (·.1)->A4 σ x->A4 σ k->(∀p∈kv,A4 σ p.2)->(∀p∈σ,p∈σ')->Q (.ref x) σ'):CW C (d+5) (.ref 387) [.ref ro] σ Q:=by
 refine z0M (G1.kin ‹_›) ["_law_rows","_law_shop_here","_law_ware","_law_make"] [("Shop",.ref 272),("list",.type "list")] (by kernel_rfl) (vs1 λ_=>by kernel_rfl) rfl (gA ‹_› [44,12]) ?_
 intro η hsc
 clear hsc
 have hrn:((kvV rv).map (·.1)).Nodup:=by rw[z0Q];exact S.rwn
 obtain⟨oro,hrm⟩:=S.rows
 refine xG H (z4z _) ?_
 intro F m0
 refine LK ?_
 show AS C η ["_law_rows","_law_shop_here","_law_ware","_law_make"] [("Shop",.ref 272),("list",.type "list")] true _ (exec _ η) [some (.ref ro),none,none,none] _ _
 refine z1F (z3b (z6G H) ?_)
 with_reducible refine z0o ?_
 refine⟨rfl,z8n H λx k dx σ1 f1 f2 f3 f4 f5 f6=> ?_⟩
 with_reducible refine z2K ?_
 refine LK (.mk ro oro (kvV rv) (ShI ro x k rv es σ) rfl H.ns (f6 _ hrm) hrn (.mk (kv:=[]) (es':=λ_=>[]) ⟨⟨dx,f4⟩,f5,Aw,by decide,(λ_ h=>by cases h),(λ_ _=>rfl),(λ_=>(B6.nil (w:="")).e3),Au.mpr ⟨λh=>f3 (Af.mp h),Au.mpr ⟨Av,Aw⟩⟩⟩ rfl (λ_ h=>by cases h) (λ_ h=>by cases h) f6) (λi p hX m τ hI QB hQB _=> ?_) λm τ hI=> ?_)
 ·clear q
  apply hI;intro kv es' u v τ T hkeys hes hfp hkp
  rw[Al] at hX
  apply z0Z hX;rintro ⟨w,b⟩ hwb
  have hb:=Ak hwb
  have hwe:(rv.map (·.1))[i]? =some w:=z2h hwb
  have htk:=z1s hwe
  have hnew:w∉kv.map (·.1):=by rw[hkeys];exact z4V S.rwn hwe
  have hil:=(An.mp hwb).1
  have hkl:kv.length<12:=by
   have h1:=congrArg List.length hkeys
   rw[Ab,AR,Ab] at h1
   rw[h1];exact AG (Bi _ _) (AF hil S.rl)
  have hok:=S.eok w
  have hw:=S.wok _ hb
  have hen:((esV (es w)).map (·.1)).Nodup:=by rw[z0L];exact hok.nd
  obtain⟨ob,hbm⟩:=S.rin _ hb
  have hrb:vAt (kvV rv) w=some (.ref b):=z0R hrn (Ah.mpr ⟨_,hb,rfl⟩)
  have hne1:=hne _ hb
  clear hX hwb hwe hil
  refine LK (z3u ⟨oro,hkp _ hrm⟩ hrn hrb ?_)
  refine LK (.mk b ob (esV (es w)) (SjI ro x k kv es' w (es w) σ) rfl H.ns (hkp _ hbm) hen (.mk (kv':=kv) (by rw[List.take_zero,z9j (T.out w hnew)];exact T) (.inl ⟨rfl,rfl⟩) hfp hkp) (λj p hX m τ2 hI QB hQB' _=> ?_) λm τ2 hI=> ?_)
  ·clear hQB hes hkeys hne1 T hfp hkp htk
   apply hI;intro kv' v' τ2 T2 hk2 hfp2 hkp2
   rw[Al] at hX
   apply z0Z hX;rintro ⟨mk,ns⟩ hme
   have hmem:=Ak hme
   have hjl:=(An.mp hme).1
   have hns:=hok.nok _ hmem
   have hmb:=hok.mb _ hmem
   have hv:vAt (esV (es w)) mk=some (.lst (ns.map z0f)):=z0R hen (Ah.mpr ⟨_,hmem,rfl⟩)
   have hjt:=z1s hme
   have hjnew:mk∉(z03 es' w ((es w).take j) w).map (·.1):=by rw[z0m,List.map_take];exact z4V hok.nd (z2h hme)
   have hj8:(z03 es' w ((es w).take j) w).length≠8:=by rw[z0m,AR];exact Bq (AG (Bi _ _) (AF hjl hok.len))
   have hokj:=hok.tk (j+1)
   obtain⟨dx',hin⟩:=T2.inst
   have hkl2:w∉kv'.map (·.1)->j=0/\kv'=kv:=λhno=>by
    rcases hk2 with h|⟨_,e⟩
    ·exact h
    ·rw[e] at hno;exact absurd (Aj _ (.head _)) hno
   clear hX hme hjl hmem
   refine LK (z0k hin ?_)
   refine LK (z3u ⟨oro,hkp2 _ hrm⟩ hrn hrb ?_)
   refine LK (y3G ⟨ob,hkp2 _ hbm⟩ hen hv ?_)
   refine LK (z2z (.lst _) (z0E hns.len (by decide)) (.inr λnl onl hfn=> ?_))
   have T3:C1 ((nl,onl,.list (ns.map z0f))::τ2) x k kv' (z03 es' w ((es w).take j)):=T2.frame λa _ y hy=>hy.cons _
   clear T2 hin
   refine LK (fnc (z9k H T3 hw hmb.1 hmb.2 At.hd hns hjnew hj8 (λhno e=>Bq hkl (by rw[<-(hkl2 hno).2];exact e)) (λa ha σ2 U=> ?_) λhno b2 σ2 hf h1 h2 h3=> ?_))
   ·rw[z0m,<-hjt] at U
    have T4:=T3.set ha hokj U
    rw[z3i] at T4
    refine hQB' _ _ (U.keep _ (.tail _ (hkp2 _ hbm)) λe=>hfp2 _ ha _ hbm e) (.mk T4 (.inr ⟨Nat.succ_pos _,?_⟩) hfp2 λp hp=>U.keep p (.tail _ (hkp2 p hp)) λe=>hfp2 _ ha p hp e)
    rcases hk2 with⟨_,rfl⟩|⟨_,e⟩
    ·exact absurd (Ah.mpr ⟨_,ha,rfl⟩) hnew
    ·exact e
   ·obtain⟨rfl,rfl⟩:=hkl2 hno
    have T4:=T3.add hno hkl hokj hf (by rw[hjt];exact h1) h2 h3
    rw[z3i] at T4
    have kp:∀p∈σ,p∈σ2:=λp hp=>h3 p (.tail _ (hkp2 p hp)) (f2 p hp)
    refine hQB' _ _ (kp _ hbm) (.mk T4 (.inr ⟨Nat.succ_pos _,Am⟩) (λp hp=>(Ad.mp hp).elim (hfp2 p) λh=>Af.mp h▸λp' hp'=>hf p' (.tail _ (hkp2 p' hp'))) kp)
  ·apply hI;intro kv' v' τ2 T2 hk2 hfp2 hkp2
   have hz:(esV (es w)).length=(es w).length:=Ab _
   rw[hz,AU] at T2
   have hk3:kv'.map (·.1)=kv.map (·.1)++[w]:=by
    rcases hk2 with⟨e,_⟩|⟨_,e⟩
    ·exact absurd (List.eq_nil_of_length_eq_zero (hz▸e)) hne1
    ·exact e
   refine hQB _ _ (hkp2 _ hrm) (.mk T2 (by rw[hk3,htk,hkeys]) (λv hv=> ?_) hfp2 hkp2)
   rw[htk] at hv
   by_cases e:v=w
   ·rw[e,z0m]
   ·rw[z0t e]
    exact(Ad.mp hv).elim (hes v) λh=>absurd (Af.mp h) e
 ·apply hI;intro kv es' u v τ T hkeys hes hfp hkp
  rw[Ab,<-Ab (f:=(·.1)),AU] at hkeys hes
  have e:es'=es:=funext λv=>by
   by_cases h:v∈rv.map (·.1)
   ·exact hes v h
   ·rw[S.out v h,T.out v (by rw[hkeys];exact h)]
  subst e
  exact q x k kv τ T hkeys f1 f2 hfp hkp
noncomputable abbrev pkV(pk:LI):LV:=pk.map λp=>(p.1,V.int p.2)
theorem z14(pk:LI):(pkV pk).map (·.1)=pk.map (·.1):=by simp[AJ,Function.comp_def]
structure G5(pk:LI):Prop where
 nd:(pk.map (·.1)).Nodup
 len:pk.length<=12
 ok:∀p∈pk,A7 p.1/\1<=p.2/\p.2<=999
def PkIn(es:ES)(pk:LI):Prop:=∀p∈pk,∃ns,(p.2,ns)∈es p.1
noncomputable def nx(es:ES)(pk:LI)(w:Str):List Str:=
 match pk.find? (λp=>decide (p.1=w)) with
 |none=>[]
 |some p=>match(es w).find? (λe=>decide (e.1=p.2)) with
  |none=>[]
  |some e=>e.2.map (·.1)
theorem z23{K B:Type}[DecidableEq K]{l:List (K×B)}(hn:(l.map (·.1)).Nodup){k:K}{b:B}(h:(k,b)∈l):l.find? (λp=>decide (p.1=k))=some (k,b):=by
 cases e:l.find? (λp=>decide (p.1=k)) with
 |none=>exact absurd (List.find?_eq_none.mp e _ h) (by simp)
 |some p=>
  have h1:=List.mem_of_find?_eq_some e
  have h2:=List.find?_some e
  rw[z09 hn h1 h (by simpa using h2)]
theorem z8Y{K B:Type}[DecidableEq K]{l:List (K×B)}{k:K}(h:k∉l.map (·.1)):l.find? (λp=>decide (p.1=k))=none:=
 List.find?_eq_none.mpr λp hp=>by
  have:p.1≠k:=λe=>h (e▸Ah.mpr ⟨p,hp,rfl⟩)
  simpa using this
theorem y4U{pk:LI}(pb:G5 pk)(pi:PkIn es pk)(w:Str)(en:((es w).map (·.1)).Nodup):
  (w∉pk.map (·.1)/\vAt (pkV pk) w=none/\nx es pk w=[])∨∃mk ns,(w,mk)∈pk/\vAt (pkV pk) w=some (.int mk)/\(mk,ns)∈es w/\nx es pk w=ns.map (·.1):=by
 by_cases h:w∈pk.map (·.1)
 ·obtain⟨⟨w,mk⟩,hp,rfl⟩:=Ah.mp h
  obtain⟨ns,hns⟩:=pi _ hp
  refine .inr ⟨mk,ns,hp,z0R (by rw[z14];exact pb.nd) (Ah.mpr ⟨_,hp,rfl⟩),hns,?_⟩
  unfold nx
  rw[z23 pb.nd hp]
  show(match(es w).find? (λe:Int×List z0b=>decide (e.1=mk)) with|none=>[]|some e=>e.2.map (λn:z0b=>n.1))=_
  rw[z23 en hns]
 ·refine .inl ⟨h,z0U (by rw[z14];exact h),?_⟩
  unfold nx
  rw[z8Y h]
set_option tactic.hygienic true in
theorem y4d{pk:LI}(h:∀w,∀p∈es w,p.2.length<=6)(w:Str):(nx es pk w).length<=6:=by
 unfold nx
 split
 ·exact Nat.zero_le _
 ·split
  ·exact Nat.zero_le _
  ·rename_i e he
   rw[Ab];exact h w _ (List.mem_of_find?_eq_some he)
theorem y4V{pk:LI}{wi:List z0b}(pb:G5 pk)(h6:∀w,∀p∈es w,p.2.length<=6)(h8:wi.length<=8):∃N R,N<=100/\Bf (nx es pk) N [] (wi.map (·.1)) R:=by
 obtain⟨N,R,h1,h2⟩:=y0D (nx:=nx es pk) (U:=pk.map (·.1)) (λx hx=>by unfold nx;rw[z8Y hx]) 100 [] (wi.map (·.1)) (by
  have:=y1q (U:=pk.map (·.1)) (f:=[]) (y4d (pk:=pk) h6)
  have hl:=pb.len
  rw[Ab] at this⊢
  exact nD (Bd h8 (Ac this (Bj 6 hl))) rfl)
 exact⟨N,R,h1,h2⟩
theorem y5f{b:Bool}(h:(!b)=true):¬b=true:=by cases b<;>simp at h⊢
theorem y4T{b:Bool}(h:(!b)=false):b=true:=by cases b<;>simp at h⊢
noncomputable def z4D(r1:Expr)(r2:Stmt):TC:=⟨[.L 0,.Q .lst,.V,.not,.M .Or [.L 0,.len,.P (.int 8),.K .Gt,.M .Or [.raw r1,.call (.bi "all") 1,.V,.not,.M .Or [.P (.bool false)]]],.I [.X r2] []],[.inr r1,.inl r2],[([0],some [2,0,1]),([0,0,0],none)]⟩
noncomputable def H1:TC:=⟨[.cut [.L 3,.L 5,.sub,.L 2,.K .In,.I [.L 0,.mI 272 "needs",.L 3,.L 5,.sub,.L 2,.L 3,.L 5,.sub,.sub,.H (.ref 262) 2,.forL 4 [.L 4,.S 0,.L 3,.K .NotIn,.I [.L 3,.Y "list",.L 4,.S 0,.H (.bi "list.append") 1,.pop] []]] []],.L 5,.P (.int 1),.B .Add,.A 5],[],[]⟩
noncomputable def z4B(r1:Stmt):TC:=⟨[.asgL 3,.L 1,.forL 4 [.L 4,.S 0,.L 3,.K .NotIn,.I [.L 3,.Y "list",.L 4,.S 0,.H (.bi "list.append") 1,.pop] []],.P (.int 0),.A 5,.X r1,.L 3,.ret],[.inl r1],[([3],none)]⟩
theorem y17{x:V}{xs:List V}{P:Sto->Prop}{k:TK}(h:A8 σ x (.list xs) P)(q:Q (.bool (TK.lst.is k)) σ):cQ ((y2l x k).map .bool) σ Q (KW C d (.bi "isinstance") [x,.type k.n] σ Q):=by
 cases h with
 |lst=>exact q
 |refL h=>exact⟨z3O (.refL h) q⟩
theorem z4G(H:G1 C){x:V}{wi:List z0b}{Px:Sto->Prop}(hx:A8 σ x (.list (wi.map z0f)) Px)(ok:D4 wi)(q:Q .none σ):CW C (d+3) (.ref 142) [x] σ Q:=by
 refine z0M (G1.kin ‹_›) ["wish"] [("isinstance",.bi "isinstance"),("list",.type "list"),("len",.bi "len"),("MOST_WISHES",.int 8),("all",.bi "all"),("BadWish",.ref 109)] (by kernel_rfl) (vs1 λ_=>by kernel_rfl) rfl (gA ‹_› [0,12,2,13,4,14]) ?_
 intro η hsc
 have hz:(wi.map z0f).length<=sizeLine:=z0E ok.len (by decide)
 refine xG H (z4D _ _) ?_
 intro F m0
 refine y17 hx ?_
 refine y23 hx hz ?_
 refine z1o (AX (Int.not_lt.mpr (Bk.mpr (by rw[Ab];exact ok.len)))) ?_
 refine LK ?_
 show AT C η ["wish"] _ true _ (eval _ η) [some x] _ _
 refine z0H "need" [] [("is_need",.ref 130)] (by rw[hsc];kernel_rfl) (gA H [15]) .nil (z0W ?_)
 with_reducible refine z0d ?_
 refine⟨_,_,hx,hz,λenv' he=>z0N (f:=λ_=> .bool true) (z0j he) hx.p _ _ _ (λX hX K hK=> ?_) ?_⟩
 ·apply z0X hX;intro n hn
  repeat' with_reducible first|refine z0G ?_|refine z0d ?_|refine z0c ?_|refine z0e ?_|refine z0o ?_|refine z2G (cA ‹_›) ?_|fail
  exact fnc (z3j H (ok.ok n hn) hK)
 ·rw[Ay,show(wi.map z0f).map (λ_=>V.bool true)=(wi.map λ_=>true).map V.bool by rw[AJ,AJ];rfl]
  refine LK (z8C (.lst _) ?_)
  rw[show(wi.map λ_=>true).all id=true by rw[List.all_map];exact AK.mpr λ_ _=>rfl]
  exact q
theorem z49{f:List Str}{l:List Str}{j:Nat}{y:Str}(h:l[j]? =some y):z01 f (l.take (j+1))=z01 (z01 f (l.take j)) [y]:=by rw[z1s h,z65];rfl
noncomputable abbrev agC:List C8:=[.L 4,.S 0,.L 3,.K .NotIn,.I [.L 3,.Y "list",.L 4,.S 0,.H (.bi "list.append") 1,.pop] []]
theorem z8N{F:Fx}{n:Nat}{QB:FP}{a0 a1 a2:V}{v5:Option V}{a:Addr}{o:Obj}{f:List Str}{nd:z0b}(hl:f.length<=1000)(h:∀o',QB .next [some a0,some a1,some a2,some (.ref a),some (z0f nd),v5] ((a,o',.list ((z01 f [nd.1]).map V.str))::σ)):W F (n+50) QB agC [] [some a0,some a1,some a2,some (.ref a),some (z0f nd),v5] [] ((a,o,.list (f.map V.str))::σ):=by
 refine LK (z99 (.refL (.head _)) (z0g ?_))
 have e:z01 f [nd.1]=if f.any (·==nd.1) then f else f++[nd.1]:=rfl
 refine z0p (λhb=> ?_) λhb=> ?_
 ·rw[if_neg (y5f hb)] at e
  rw[e,Am] at h
  refine LK ⟨tyL At.hd,?_⟩
  exact⟨z39 (z0E hl (by decide)) h⟩
 ·rw[if_pos (y4T hb)] at e
  rw[e] at h
  exact h o
def AgI(a0 a1 a2:V)(a:Addr)(f l:List Str)(v5:Option V)(σ:Sto)(j:Nat)(m₀:Loc)(τ₀:Sto):Prop:=∀P:Loc->Sto->Prop,(∀{o:Obj} {v:Option V},P [some a0,some a1,some a2,some (.ref a),v,v5] ((a,o,.list ((z01 f (l.take j)).map V.str))::σ))->P m₀ τ₀
theorem AgI.mk{a0 a1 a2:V}{a:Addr}{f l:List Str}{v5:Option V}{σ:Sto}{j:Nat}{o:Obj}{v:Option V}:AgI a0 a1 a2 a f l v5 σ j [some a0,some a1,some a2,some (.ref a),v,v5] ((a,o,.list ((z01 f (l.take j)).map V.str))::σ):=λ_ k=>k
def AwI(a0 a1 a2:V)(a:Addr)(nx:Str->List Str)(R:List Str)(σ:Sto)(n:Nat)(m₀:Loc)(τ₀:Sto):Prop:=∀P:Loc->Sto->Prop,(∀{o:Obj} {v:Option V} {f w:List Str},Bf nx n f w R->(f++w).Nodup->f.length+n<=100->P [some a0,some a1,some a2,some (.ref a),v,some (.int (f.length:Int))] ((a,o,.list ((f++w).map V.str))::σ))->P m₀ τ₀
theorem AwI.mk{a0 a1 a2:V}{a:Addr}{nx:Str->List Str}{R:List Str}{σ:Sto}{n:Nat}{o:Obj}{v:Option V}{f w:List Str}(x0:Bf nx n f w R)(x1:(f++w).Nodup)(x2:f.length+n<=100):AwI a0 a1 a2 a nx R σ n [some a0,some a1,some a2,some (.ref a),v,some (.int (f.length:Int))] ((a,o,.list ((f++w).map V.str))::σ):=λ_ k=>k x0 x1 x2
theorem z7R(H:G1 C)(S:C1 σ i k kv es){x:V}{wi:List z0b}{Px:Sto->Prop}(hx:A8 σ x (.list (wi.map z0f)) Px)(ok:D4 wi){pa:Addr}{pk:LI}(hp:At σ pa (dS (pkV pk)))(pb:G5 pk)(pi:PkIn es pk)
  {N:Nat} {R:List Str} (hN:N<=100) (hB:Bf (nx es pk) N [] (wi.map (·.1)) R) (q:∀a o,A4 σ a->Q (.ref a) ((a,o,.list (R.map V.str))::σ)):CW C (d+4) (.ref 149) [.ref i,x,.ref pa] σ Q:=by
 refine z0M (G1.kin ‹_›) ["shop","wish","pick","found","need","at"] [("len",.bi "len")] (by kernel_rfl) (vs3 λ_ _ _=>by kernel_rfl) rfl (gA ‹_› [2]) ?_
 intro η hsc
 clear hsc
 have hn:((pkV pk).map (·.1)).Nodup:=by rw[z14];exact pb.nd
 obtain⟨dx,hin⟩:=S.inst
 refine xG H (z4B _) ?_
 intro F m0 a o hf
 refine LK (.mk _ _ (AgI (.ref i) x (.ref pa) a [] (wi.map (·.1)) none σ) (hx.mono λp h=> .tail _ h) .mk (λj X hX m τ hI QB hQB _=> ?_) λm τ hI=> ?_)
 ·rw[Al] at hX
  apply z0Z hX;intro n hne
  apply hI;intro o v
  have hl:=F7 ((wi.map (·.1)).take j) []
  exact z8N (Ac hl (by rw[AR,Ab,List.length_nil];have:=ok.len;exact(by rw[AP];exact Ac (Nat.min_le_right _ _) (nD this rfl)))) λo'=>hQB _ _ (hx.mono λp h=> .tail _ h).p (by rw[<-z49 (z2h hne)];exact .mk)
 apply hI;intro o v
 rw[Ab,<-Ab (f:=(·.1)),AU]
 obtain⟨n0,v0,hn0,hB0,he0⟩:=Bf.news (w:=[]) (ys:=wi.map (·.1)) (f:=[]) hB
 rw[Ay,Ay] at he0
 rw[he0]
 have hnd0:v0.Nodup:=by rw[<-he0];exact E2 Aw
 clear he0 hx ok hB
 refine LK ?_
 show AS C η ["shop","wish","pick","found","need","at"] _ true _ (exec _ η) [some (.ref i),some x,some (.ref pa),some (.ref a),v,some (.int 0)] _ _
 refine y0w (AwI (.ref i) x (.ref pa) a (nx es pk) R σ) (λn m τ hI QB hQB=> ?_) n0 (.mk (f:=[]) (w:=v0) hB0 hnd0 (by rw[List.length_nil,AP];exact Ac hn0 hN))
 apply hI;intro o v f w hB hnd hfl
 have hwl:=hB.len
 have hzz:((f++w).map V.str).length=f.length+w.length:=by rw[Ab,Ag]
 repeat' with_reducible first|refine z0G ?_|refine z0d ?_|refine z0c ?_|refine z0e ?_|refine z0D ?_|refine z0o ?_|refine z2S ?_|fail
 refine z0B (.refL (.head _)) hzz (z0i (by rw[hzz];exact Ac (Be hwl _) (nD hfl rfl))) ?_
 refine y4A (z0g ⟨λhb=> ?_,λhb=> ?_⟩)
 ·cases w with
  |nil=>exact absurd (AD hb) (Int.lt_irrefl _)
  |cons y w=>
   clear hb q
   have hyf:y∉f:=λh=>(List.nodup_append.mp hnd).2.2 _ h _ (.head _) rfl
   obtain⟨n,rfl,hB2⟩:∃n',n=n'+1/\Bf (nx es pk) n' (f++[y]) (w++nx es pk y) R:=by
    cases hB with
    |skip h _=>exact absurd h hyf
    |take _ h=>exact⟨_,rfl,h⟩
   obtain⟨n',w',hn',hB',he'⟩:=Bf.news hB2
   have hnd':(f++[y]++w').Nodup:=by
    rw[<-he'];exact E2 (by rw[Ao];exact hnd)
   have hf99:f.length<1000:=by exact AG (Ac (Bn _ _) hfl) (by decide)
   have hat:((f++y::w).map V.str)[f.length]? =some (.str y):=z2h (by rw[List.getElem?_append_right (AN _),Nat.sub_self];rfl)
   have hpc:∀o' l,At ((a,o',AO.list l)::σ) pa (dS (pkV pk)):=λo' l=>hp.cons _
   have hend:∀o v,QB .next [some (.ref i),some x,some (.ref pa),some (.ref a),v,some (.int ((f++[y]).length:Int))] ((a,o,.list ((f++[y]++w').map V.str))::σ):=λo v=>hQB n' _ _ (Nat.lt_succ_of_le hn') (.mk hB' hnd' (by rw[Ag];show f.length+1+n'<=100;exact Ac (by rw[Nat.add_assoc,Nat.add_comm 1];exact Be (Bh hn') _) hfl))
   rw[Ag] at hend
   have hfa:f.length+(y::w).length<=200:=by have:=hB2.len;rw[Ag] at this;rw[Aq];exact Ac (Be (Bh (Ac (Bn _ _) this)) _) (nD hfl rfl)
   clear hQB hB hnd hB2 hB' hnd' hwl hn' hB0 hnd0 hn0 hN hzz
   refine xG H H1 ?_
   intro F m0
   refine y29 (α:=Obj×Option V) (λ_=>True) (λp=>[some (.ref i),some x,some (.ref pa),some (.ref a),p.2,some (.int (f.length:Int))]) (λp=>(a,p.1,.list ((f++[y]++w').map V.str))::σ) (λK hK _=> ?_) λp _=>hend p.1 p.2
   clear hend
   refine LK (z0I (.refL (.head _)) hf99 hat ?_)
   rcases y4U pb pi y (S.eok y).1 with⟨_,e1,e2⟩|⟨mk,ns,hpm,e1,hns,e2⟩
   ·rw[e2] at he'
    have he':f++[y]++w=f++[y]++w':=he'
    rw[Ao] at he'
    rw[show f++y::w=f++[y]++w' from he']
    refine LK (z38 H.ns (hpc _ _) hn (z0g ?_))
    rw[e1]
    exact hK (o,v) trivial
   ·obtain⟨hw,h1,h2⟩:=pb.ok _ hpm
    have hnl:=(S.eok y).2.2 _ hns
    refine LK (z38 H.ns (hpc _ _) hn (z0g ?_))
    rw[e1]
    refine LK (z0k (hin.cons _) ?_)
    refine LK (z0I (.refL (.head _)) hf99 hat ?_)
    refine LK (z0I (.refL (.head _)) hf99 hat ?_)
    refine LK (z3u (hpc _ _) hn e1 ?_)
    refine LK (fnc (z3k H (S.frame λa _ x h=>h.cons _) hw h1 h2 hns (.inl ?_)))
    refine LK (.mk _ _ (AgI (.ref i) x (.ref pa) a (f++y::w) (ns.map (·.1)) (some (.int (f.length:Int))) σ) (.lst _) .mk (λj X hX m τ hI QB hQB _=> ?_) λm τ hI=> ?_)
    ·rw[Al] at hX
     apply z0Z hX;intro nd hne
     apply hI;intro o v
     have hl:=F7 ((ns.map (·.1)).take j) (f++y::w)
     exact z8N (Ac hl (by rw[AR,Ab,Ag];simp only at hnl;exact nD (Bd hfa (Ac (Nat.min_le_right _ _) hnl)) rfl)) λo'=>hQB _ _ trivial (by rw[<-z49 (z2h hne)];exact .mk)
    ·apply hI;intro o v
     rw[show(ns.map z0f).length=(ns.map (·.1)).length by rw[Ab,Ab],AU,<-e2,show f++y::w=f++[y]++w from(Ao f [y] w).symm,he']
     exact hK (o,v) trivial
 ·cases w with
  |nil=>
   have hfR:f=R:=by cases hB;rfl
   subst hfR
   rw[Az]
   exact q _ _ hf
  |cons y w=>exact absurd (Int.ofNat_lt.mpr (Nat.lt_add_of_pos_right (Nat.succ_pos w.length))) (AW hb)
noncomputable def z08(es:ES)(p:Str×Int):List z0b:=match(es p.1).find? (λe=>decide (e.1=p.2)) with
 |none=>[]
 |some e=>e.2
theorem z3Q{w:Str}{mk:Int}{ns:List z0b}(en:((es w).map (·.1)).Nodup)(h:(mk,ns)∈es w):z08 es (w,mk)=ns:=by
 unfold z08
 show(match(es w).find? (λe:Int×List z0b=>decide (e.1=mk)) with|none=>[]|some e=>e.2)=_
 rw[z23 en h]
set_option tactic.hygienic true in
theorem y2x{pk:LI}(h:∀w,∀p∈es w,∀n∈p.2,A9 n)(w:Str):∀y∈nx es pk w,A7 y:=by
 unfold nx
 intro y hy
 split at hy
 ·cases hy
 ·split at hy
  ·cases hy
  ·rename_i e he
   apply z0X hy;intro n hn
   exact(h w _ (List.mem_of_find?_eq_some he) n hn).w
theorem z5Z{α:Type}[DecidableEq α]:∀{l r:List α},l.Nodup->(∀x∈l,x∈r)->l.length<=r.length
 |[],r,_,_=>Nat.zero_le _
 |x::l,r,hn,hs=>by
  obtain⟨h1,h2⟩:=Au.mp hn
  have hx:=hs x (.head _)
  have:=z5Z (r:=r.erase x) h2 λy hy=>(List.mem_erase_of_ne λe=>h1 (by rw[<-e];exact hy)).mpr (hs y (.tail _ hy))
  rw[List.length_erase_of_mem hx] at this
  have h3:0<r.length:=List.length_pos_of_mem hx
  rw[Aq];exact Ac (Bh this) (Bp (Nat.sub_add_cancel h3))
noncomputable def t_within:TC:=⟨[.L 1,.L 0,.cm2 .LtE [.L 2,.G .LtE],.ret],[],[]⟩
theorem z5x(H:G1 C){mk lo hi:Int}(q:Q (.bool (decide (lo<=mk)&&decide (mk<=hi))) σ):CW C (d+1) (.ref 137) [.int mk,.int lo,.int hi] σ Q:=by
 refine z0M (G1.kin ‹_›) ["make","low","high"] [] (by kernel_rfl) (vs3 λ_ _ _=>by kernel_rfl) rfl C3 ?_
 intro η hsc
 clear hsc
 refine xG H t_within ?_
 intro F m0
 exact z0p (λh=>qB q (by rw[h];rfl)) λh=>qB q (by rw[h];rfl)
theorem z6Q(H:G1 C)(S:C1 σ i k kv es){x:V}{wi:List z0b}{Px:Sto->Prop}(hx:A8 σ x (.list (wi.map z0f)) Px)(ok:D4 wi){pa:Addr}{pk:LI}(hp:At σ pa (dS (pkV pk)))(pb:G5 pk)(pi:PkIn es pk)
  {N:Nat} {R:List Str} (hN:N<=100) (hB:Bf (nx es pk) N [] (wi.map (·.1)) R) (q:Q (.lst (R.map V.str)) σ):CW C (d+4) (.ref 149) [.ref i,x,.ref pa] σ Q:=
 z37 (z7R H S hx ok hp pb pi hN hB λa o hf=>⟨a,o,_,σ,rfl,rfl,q⟩)
theorem Rw.inRv(S:Rw σ ro rv es){w:Str}{e:Int×List z0b}(h:e∈es w):w∈rv.map (·.1):=by
 by_cases hm:w∈rv.map (·.1)
 ·exact hm
 ·rw[S.out w hm] at h;cases h
noncomputable def pI(pk:LI)(w:Str):Option Int:=(pk.find? (λp=>decide (p.1=w))).map (·.2)
theorem y3j{pk:LI}(hn:(pk.map (·.1)).Nodup){w:Str}{mk:Int}(h:(w,mk)∈pk):pI pk w=some mk:=by
 unfold pI;rw[z23 hn h];rfl
theorem y4g{ps:LI}{x:Str}(hn:(ps.map (·.1)).Nodup)(h:x∈ps.map (·.1)):∃m,(x,m)∈ps/\pI ps x=some m:=by
 apply z0X h;rintro ⟨x,m⟩ hp
 exact⟨m,hp,y3j hn hp⟩
theorem A7.ok{x:Str}(h:A7 x):PyData.strOk x=true:=by
 unfold PyData.strOk
 rw[<-Array.all_toList,AK]
 intro c hc
 have:=h.lt c hc
 simp[z12] at this
 exact AE (show c<0x110000 by exact AG this.2 (by decide))
theorem z8U{α:Type}(f:α->V)(g:α->PyData)(h:∀a,Dp σ (f a) (g a)):∀l:List α,Dps σ (l.map f) (l.map g)
 |[]=> .nil
 |a::l=> .cons (h a) (z8U f g h l)
theorem z88{α:Type}(g:α->PyData)(hd:∀a,PyData.depth (g a)<=2):∀l:List α,(∀a∈l,PyData.canLay0 (g a)=true)->PyData.canLayAll0 (l.map g)=true/\PyData.depthAll (l.map g)<=2
 |[],_=>⟨rfl,Nat.zero_le _⟩
 |a::l,hc=>by
  have ih:=z88 g hd l λb hb=>hc b (.tail _ hb)
  exact⟨by simp[PyData.canLayAll0,hc a (.head _),ih.1],by have:=ih.2;have:=hd a;simp only[Ap,PyData.depthAll];exact Nat.max_le.mpr ⟨this,ih.2⟩⟩
structure Dat(xs:List V)(ds:List PyData):Prop where
 dp:∀σ,Dps σ xs ds
 sh:SeqAt.shaped (.list ds)=true
 nil:PyData.eqv (.list ds) (.list [])=xs.isEmpty
theorem z69{α:Type}(f:α->V)(g:α->PyData)(l:List α)(h1:∀σ a,Dp σ (f a) (g a))(hd:∀a,PyData.depth (g a)<=2)(hc:∀a∈l,PyData.canLay0 (g a)=true):
  Dat (l.map f) (l.map g):=by
 refine⟨λσ=>z8U f g (h1 σ) l,?_,by cases l<;>simp[PyData.eqv,PyData.eqvAll]⟩
 have:=z88 g hd l hc
 have h2:PyData.depth (.list (l.map g))<=64:=by
  have:=this.2
  simp only[PyData.depth];exact nD (Bh this) rfl
 unfold SeqAt.shaped
 rw[show PyData.canLay0 (.list (l.map g))=true from by simp only[PyData.canLay0];exact this.1,AE h2];rfl
theorem y2b{l:List Str}(h:∀w∈l,A7 w):Dat (l.map V.str) (l.map PyData.str):=
 z69 V.str PyData.str l (λ_ a=> .str a) (λa=>by simp[PyData.depth]) λa ha=>by simp only[PyData.canLay0];exact(h a ha).ok
theorem A8.dp{x:V}{xs:List V}{ds:List PyData}{P:Sto->Prop}(h:A8 σ x (.list xs) P)(hd:Dps σ xs ds):Dp σ x (.list ds):=by
 cases h with
 |lst=>exact .lst hd
 |refL h=>exact .ref h hd
theorem eqvS:∀a b:List Str,PyData.eqvAll (a.map PyData.str) (b.map PyData.str)=decide (a=b)
 |[],[]=>by simp[PyData.eqvAll]
 |[],_::_=>by simp[PyData.eqvAll]
 |_::_,[]=>by simp[PyData.eqvAll]
 |x::a,y::b=>by
  simp only[Ap,PyData.eqvAll,PyData.eqv,eqvS a b,List.cons.injEq]
  by_cases h:x=y
  ·simp[h]
  ·simp[h]
theorem y3D{a b:List Str}(ha:∀w∈a,A7 w)(hb:∀w∈b,A7 w)(q:Q (.bool (!decide (a=b))) σ):AC2 C d (compareOp .NotEq) (.lst (a.map V.str)) (.lst (b.map V.str)) σ Q:=by
 refine z98 ((A8.lst _).dp ((y2b ha).dp σ)) ((A8.lst _).dp ((y2b hb).dp σ)) (y2b ha).sh (y2b hb).sh ?_
 rw[show PyData.eqv (.list (a.map PyData.str)) (.list (b.map PyData.str))=_ from eqvS a b];exact q
theorem z8l{l:List Str}(h:∀w∈l,A7 w):∀w∈z2e l,A7 w:=λw hw=>h w ((z1n l).mem_iff.mp hw)
section
variable {C:Cx} [HM C] [NF C] {d:Nat} {σ:Sto} {Q:VP}
open AutoSeq1 (wpAny_loadPart')
theorem y2d(l b:Addr)(items items2:Array Value)(n n2:Nat)(hsz:(items.size !=items2.size)=true):
  MeetsIn C.prog C.w (Builtin.«list.__eq__» ⟨[.ref l,.ref b],[]⟩)
   (λA R s=>s.heap.get? l=some (z0q items n)/\s.heap.get? b=some (z0q items2 n2)/\R (.ok (.ret (.bool false))) s):=by
 intro A R s h
 obtain⟨hp,g,d,tk,os⟩:=s;obtain⟨hl,hb,h⟩:=h
 have f3:=AutoSeq1.sub_list_list
 wp_walk using wpAny_loadPart' hl,wpAny_loadPart' hb
 exact h
theorem y3x{xs:List V}(q:Q (.bool xs.isEmpty) σ):AC2 C d (compareOp .Eq) (.lst xs) (.lst []) σ Q:=by
 cases xs with
 |nil=>exact y2V (.lst .nil) (.lst .nil) rfl rfl q
 |cons X xs=>
  intro A G D s v u hA R hv hu
  obtain⟨a,ws,n,rfl,ho,hr⟩:=(A8.lst (σ:=σ) (X::xs)).isList R hv
  obtain⟨b,zs,n',rfl,ho',hr'⟩:=(A8.lst (σ:=σ) []).isList R hu
  have e1:ws.size=xs.length+1:=by rw[<-Bz,hr.length,Aq]
  have e2:zs.size=0:=by rw[<-Bz,hr'.length];rfl
  refine wpAny_richCompare_same_room (op:= .Eq) (T:="list") ⟨_,ho,rfl⟩ ⟨_,ho',rfl⟩ F.slot_list_eq (call_meetsIn F.slot_list_eq ⟨_,ho,rfl⟩ F.entry_list_eq (F.args_list_eq_2 _ _) (y2d a b ws zs n n' (by rw[e1,e2];rfl)) ⟨ho,ho',?_⟩) hA.line0
  exact⟨(λx=>nomatch x),A0.now R (.bool _) q⟩
end
section
variable {er:ES}
noncomputable def prV(p:Str×Int):V:= .tup [.str p.1,.int p.2]
theorem z9q{η:Env}{ν:List Str}{gl:LV}{own:Bool}{m:Loc}{elt tgt iter:Expr}{ifs:List Expr}{scope:Scope}{pos:Pos}{ms:Loc}(x y:Str)(caps:List Str)(gl':LV)
  (hok:z1x scope η.scope ν [x,y] caps (gl'.map (·.1))=true) (hgl:∀p∈gl',z04 C p.1 p.2) (hcaps:D7 ν m caps ms)
  (h:AI C η ν gl own d iter tgt m σ λxs Pp σ₁=>xs.length<=sizeLine/\∀env',env'.scope=relabel scope η->
   z0P C env' (x::y::caps) gl' d tgt elt ifs Pp (λys σ₂=>Q (.lst ys) σ₂) xs [] (none::none::ms) σ₁)
  (hs:autoParam (∀x,foldedSetIterable iter η x=pure x) auF):
  AT C η ν gl own d (eval (.ListComp elt [⟨tgt,iter,ifs,0⟩] scope pos) η) m σ Q:=z4Y [x,y] caps gl' hok hgl hcaps h hs
end
noncomputable def z3M(st:List (Int×Int))(m:Int):Bool:=st.all λp=>decide (p.1<=m)&&decide (m<=p.2)
noncomputable def z1M(es:ES)(w:Str):List Int:=(z2u ((es w).map (·.1))).reverse
noncomputable def lfF(es:ES)(w:Str)(st:List (Int×Int)):List Int:=(z1M es w).filter (z3M st)
theorem desM_len:(z1M es w).length=(es w).length:=by unfold z1M;rw[List.length_reverse,(z1m _).length_eq,Ab]
theorem z5e{m:Int}(h:m∈z1M es w):∃ns,(m,ns)∈es w:=by
 obtain⟨⟨m,ns⟩,hm,rfl⟩:=Ah.mp ((z1m _).mem_iff.mp (List.mem_reverse.mp h))
 exact⟨ns,hm⟩
theorem z6N(ps:LI)(x:Str):vAt (pkV ps) x=(pI ps x).map V.int:=by
 unfold vAt pI pkV
 rw[List.find?_map]
 cases e:List.find? ((λp:Str×V=>decide (p.1=x))∘λp:Str×Int=>(p.1,V.int p.2)) ps with
 |none=>rw[show List.find? (λp:Str×Int=>decide (p.1=x)) ps=none from e];rfl
 |some p=>rw[show List.find? (λp:Str×Int=>decide (p.1=x)) ps=some p from e];rfl
theorem z6w{α:Type}{p:α->Bool}{l:List α}{j:Nat}{x:α}(h:l[j]? =some x)(hp:p x=true)(hn:∀y∈l.take j,p y=false):l.find? p=some x:=by
 obtain⟨hj,e⟩:=An.mp h
 have el:l=l.take j++x::l.drop (j+1):=by rw[<-e,List.getElem_cons_drop,List.take_append_drop]
 rw[el,List.find?_append,List.find?_eq_none.mpr (λy hy=>by rw[hn y hy];exact BB),List.find?_cons_of_pos hp];rfl
theorem z6e{α:Type}{P:α->Prop}{l:List α}{j:Nat}{x:α}(h:l[j]? =some x)(hn:∀y∈l.take j,P y)(hx:P x):∀y∈l.take (j+1),P y:=λy hy=>by
 rw[List.take_add_one,h] at hy
 rcases Ad.mp hy with hy|hy
 ·exact hn y hy
 ·rw[Af.mp hy];exact hx
noncomputable abbrev aV(p:Int×V):V:= .tup [.int p.1,p.2]
set_option genInjectivity false in
inductive G3
 |wish (k:Nat)
 |need (o:Str) (mk:Int) (k:Nat)
 |pick (o:Str) (mk:Int)
noncomputable def srcV:G3->V
 | .wish k=> .tup [.str "wish",.int (k:Int)]
 | .need o mk k=> .tup [.str "need",.str o,.int mk,.int (k:Int)]
 | .pick o mk=> .tup [.str "pick",.str o,.int mk]
inductive H4(es:ES)(wi:List z0b)(ps:LI)(w:Str):G3->Int->Int->Prop
 |wish {k:Nat} {lo hi:Int}:wi[k]? =some (w,lo,hi)->H4 es wi ps w (.wish k) lo hi
 |need {o:Str} {mk:Int} {k:Nat} {ns:List z0b} {lo hi:Int}:(o,mk)∈ps->(mk,ns)∈es o->ns[k]? =some (w,lo,hi)->H4 es wi ps w (.need o mk k) lo hi
 |pick {mk:Int}:(w,mk)∈ps->H4 es wi ps w (.pick w mk) mk mk
theorem z8O{x:Str}(h:(decide (x.length<=100)&&x.cps.toList.all λc=>decide (c<128))=true):Asc x:=by
 rw[AC] at h
 exact⟨AD h.1,λc hc=>AD (AK.mp h.2 c hc)⟩
noncomputable def I1:TC:=⟨[.L 0,.Q .int,.O .And [.L 0,.Q .bool,.una .Not,.O .And [.P (.int 0),.L 0,.cm2 .LtE [.L 1,.G .Lt]]],.ret],[],[]⟩
noncomputable def H7:TC:=⟨[.L 1,.call (.ref 116) 1,.O .And [.L 2,.call (.ref 123) 1,.O .And [.L 0,.Y "dict",.L 1,.H (.bi "dict.get") 1,.L 2,.G .Eq]],.ret],[],[]⟩
theorem z4F(H:G1 C){k m:Nat}(h:k<m)(q:Q (.bool true) σ):CW C (d+1) (.ref 156) [.int (k:Int),.int (m:Int)] σ Q:=by
 refine z0M (G1.kin ‹_›) ["thing","many"] [("isinstance",.bi "isinstance"),("int",.type "int"),("bool",.type "bool")] (by kernel_rfl) (vs2 λ_ _=>by kernel_rfl) rfl (gA ‹_› [0,6,7]) ?_
 intro η hsc
 clear hsc
 refine xG H I1 ?_
 intro F m0
 refine LK (z6h z2X ?_)
 exact qB q (AE (Int.ofNat_lt.mpr h)).symm
theorem y4h(pb:G5 ps){x:Str}{m:Int}(h:(x,m)∈ps):vAt (pkV ps) x=some (.int m):=by rw[z6N,y3j pb.nd h];rfl
theorem z31(H:G1 C){ga:Addr}(hg:At σ ga (dS (pkV ps)))(pb:G5 ps){x:Str}{m:Int}(h:(x,m)∈ps)(q:Q (.bool true) σ):CW C (d+2) (.ref 163) [.ref ga,.str x,.int m] σ Q:=by
 refine z0M (G1.kin ‹_›) ["granted","ware","make"] [("is_ware",.ref 116),("is_make",.ref 123)] (by kernel_rfl) (vs3 λ_ _ _=>by kernel_rfl) rfl (gA ‹_› [10,11]) ?_
 intro η hsc
 clear hsc
 have hn:((pkV ps).map (·.1)).Nodup:=by rw[z14];exact pb.nd
 obtain⟨hw,h1,h2⟩:=pb.ok _ h
 obtain⟨og,hgm⟩:=hg
 refine xG H H7 ?_
 intro F m0
 refine LK (fnc (z1d H hw ?_))
 refine LK (fnc (z1c H h1 h2 ?_))
 refine LK ⟨tyD ⟨og,hgm⟩,?_⟩
 refine LK (y3I (KK.str C.prog C.w) H.ns hgm hn ?_)
 rw[y4h pb h]
 exact qB q (AE rfl).symm
noncomputable def E0:TC:=⟨[.L 4,.Q .tup,.V,.not,.M .Or [.L 4,.len,.P (.int 0),.K .Eq,.M .Or [.L 4,.S 0,.Q .str,.V,.not,.M .Or [.P (.bool false)]]],.I [.P .none,.ret] [],.P .none,.A 5,.L 4,.S 0,.P (.str "wish"),.K .Eq,.M .And [.L 4,.len,.P (.int 2),.K .Eq,.M .And [.L 4,.S 1,.L 1,.len,.call (.ref 156) 2,.V,.M .And [.P (.bool true)]]],.I [.L 1,.L 4,.S 1,.sub,.A 5] [],.L 4,.S 0,.P (.str "pick"),.K .Eq,.M .And [.L 4,.len,.P (.int 3),.K .Eq,.M .And [.L 2,.L 4,.S 1,.L 4,.S 2,.call (.ref 163) 3,.V,.M .And [.P (.bool true)]]],.I [.L 4,.S 1,.L 4,.S 2,.L 4,.S 2,.tup 3,.A 5] [],.L 4,.S 0,.P (.str "need"),.K .Eq,.M .And [.L 4,.len,.P (.int 4),.K .Eq,.M .And [.L 2,.L 4,.S 1,.L 4,.S 2,.call (.ref 163) 3,.V,.M .And [.P (.bool true)]]],.I [.L 0,.mI 272 "needs",.L 4,.S 1,.L 4,.S 2,.H (.ref 262) 2,.A 6,.L 4,.S 3,.L 6,.len,.call (.ref 156) 2,.V,.I [.L 6,.L 4,.S 3,.sub,.A 5] []] [],.L 5,.P .none,.K .Is,.M .Or [.L 5,.S 0,.L 3,.K .NotEq,.M .Or [.P (.bool false)]],.I [.P .none,.ret] [],.L 5,.S 1,.L 5,.S 2,.tup 2,.ret],[],[]⟩
theorem tg_w:∃t:Str,"wish"=t/\(t==("wish":Str))=true/\(t==("pick":Str))=false/\(t==("need":Str))=false:=⟨_,rfl,by decide+kernel,by decide+kernel,by decide+kernel⟩
theorem tg_p:∃t:Str,"pick"=t/\(t==("wish":Str))=false/\(t==("pick":Str))=true/\(t==("need":Str))=false:=⟨_,rfl,by decide+kernel,by decide+kernel,by decide+kernel⟩
theorem tg_n:∃t:Str,"need"=t/\(t==("wish":Str))=false/\(t==("pick":Str))=false/\(t==("need":Str))=true:=⟨_,rfl,by decide+kernel,by decide+kernel,by decide+kernel⟩
theorem z8d(w:Str):(!(w==w))=false:=by rw[BD];rfl
noncomputable abbrev vL:List Str:=["shop","wish","granted","ware","source","need","needs"]
theorem z32(H:G1 C)(S:C1 σ i k kv es){x:V}{Px:Sto->Prop}(hx:A8 σ x (.list (wi.map z0f)) Px)(h8:wi.length<=8){ga:Addr}(hg:At σ ga (dS (pkV ps)))(pb:G5 ps){s:G3}{lo hi:Int}(hs:H4 es wi ps w s lo hi)(q:Q (.tup [.int lo,.int hi]) σ):
  CW C (d+4) (.ref 170) [.ref i,x,.ref ga,.str w,srcV s] σ Q:=by
 have ew:=z8d w
 cases hs with
 | @wish k lo hi hk=>
  have hl:=(An.mp hk).1
  obtain⟨t,et,e1,e2,e3⟩:=tg_w
  show CW C _ _ [.ref i,x,.ref ga,.str w,.tup [.str "wish",.int (k:Int)]] σ Q
  rw[et]
  refine z0M (G1.kin ‹_›) vL [("isinstance",.bi "isinstance"),("tuple",.type "tuple"),("len",.bi "len"),("str",.type "str"),("is_number",.ref 156),("is_granted",.ref 163)] (by kernel_rfl) (vs5 λ_ _ _ _ _=>by kernel_rfl) rfl (gA ‹_› [0,9,2,1,16,17]) ?_
  intro η hsc
  clear hsc
  refine xG H E0 ?_
  intro F m0
  refine z2H (by with_reducible assumption) ?_
  refine y23 hx (z0E h8 (by decide)) ?_
  rw[Ab]
  refine LK (fnc (z4F H hl ?_))
  refine LK (z0I hx (AF hl (nD h8 rfl)) (z2h hk) ?_)
  refine z1o (by with_reducible assumption) ?_
  refine z1o (by with_reducible assumption) ?_
  refine z1o (by with_reducible assumption) ?_
  exact q
 | @pick mk hp=>
  obtain⟨t,et,e1,e2,e3⟩:=tg_p
  show CW C _ _ [.ref i,x,.ref ga,.str w,.tup [.str "pick",.str w,.int _]] σ Q
  rw[et]
  refine z0M (G1.kin ‹_›) vL [("isinstance",.bi "isinstance"),("tuple",.type "tuple"),("len",.bi "len"),("str",.type "str"),("is_number",.ref 156),("is_granted",.ref 163)] (by kernel_rfl) (vs5 λ_ _ _ _ _=>by kernel_rfl) rfl (gA ‹_› [0,9,2,1,16,17]) ?_
  intro η hsc
  clear hsc
  refine xG H E0 ?_
  intro F m0
  refine z1o (by with_reducible assumption) ?_
  refine z2H (by with_reducible assumption) ?_
  refine LK (fnc (z31 H hg pb hp ?_))
  refine z1o (by with_reducible assumption) ?_
  refine z1o (by with_reducible assumption) ?_
  exact q
 | @need o mk k ns lo hi hp hm hk=>
  have hl:=(An.mp hk).1
  obtain⟨hy,hk1,hk2⟩:=pb.ok _ hp
  have hnl:ns.length<=6:=(S.eok o).2.2 _ hm
  obtain⟨dx,hin⟩:=S.inst
  obtain⟨t,et,e1,e2,e3⟩:=tg_n
  show CW C _ _ [.ref i,x,.ref ga,.str w,.tup [.str "need",.str o,.int mk,.int (k:Int)]] σ Q
  rw[et]
  refine z0M (G1.kin ‹_›) vL [("isinstance",.bi "isinstance"),("tuple",.type "tuple"),("len",.bi "len"),("str",.type "str"),("is_number",.ref 156),("is_granted",.ref 163)] (by kernel_rfl) (vs5 λ_ _ _ _ _=>by kernel_rfl) rfl (gA ‹_› [0,9,2,1,16,17]) ?_
  intro η hsc
  clear hsc
  refine xG H E0 ?_
  intro F m0
  refine z1o (by with_reducible assumption) ?_
  refine z1o (by with_reducible assumption) ?_
  refine z2H (by with_reducible assumption) ?_
  refine LK (fnc (z31 H hg pb hp ?_))
  refine LK (z0k hin ?_)
  refine LK (fnc (z3k H S hy hk1 hk2 hm (.inl ?_)))
  refine LK (z0B (n:=ns.length) (.lst _) (Ab _) (z0E hnl (by decide)) ?_)
  refine LK (fnc (z4F H hl ?_))
  refine LK (z0I (.lst _) (AF hl (nD hnl rfl)) (z2h hk) ?_)
  refine z1o (by with_reducible assumption) ?_
  exact q
theorem C1.c1(S:C1 σ i k kv es)(p:Addr×Obj×AO):C1 (p::σ) i k kv es:=S.frame λ_ _ _ h=>h.cons _
theorem y2B(ps:LI):ps.map prV=(pkV ps).map λp=>V.tup [(KK.str C.prog C.w).v p.1,p.2]:=by rw[AJ];rfl
theorem z7e{K:Type}[DecidableEq K]{kvs:List (K×V)}(hn:(kvs.map (·.1)).Nodup):y0V kvs=kvs:=by
 unfold y0V
 have:∀(l acc:List (K×V)),((acc++l).map (·.1)).Nodup->l.foldl (λacc p=>z2t acc p.1 p.2) acc=acc++l:=by
  intro l
  induction l with
  |nil=>intro acc _;rw[Az];rfl
  |cons p l ih=>
   intro acc h
   rw[List.foldl_cons,z15,ih,Ao]
   ·rfl
   ·rw[Ao];exact h
   ·intro hm
    rw[Am] at h
    exact(List.nodup_append.mp h).2.2 _ hm _ (.head _) rfl
 exact this kvs [] hn
theorem z44{x:V}{P:Sto->Prop}(h:A8 σ x (.list (ps.map prV)) P)(pb:G5 ps)(q:∀a o,A4 σ a->Q (.ref a) ((a,o,dS (pkV ps))::σ)):KW C d (.type "dict") [x] σ Q:=by
 rw[y2B (C:=C)] at h
 refine z8D (KK.str C.prog C.w) h (by rw[Ab];exact nD pb.len rfl) λa o hf=> ?_
 rw[z7e (by rw[z14];exact pb.nd)]
 exact q a o hf
theorem y1S{xs:List V}{X:V}(q:Q X σ):C2 C d (.lst (xs++[X])) (.int (-1)) σ Q:=by
 have hl:(xs++[X]).length=xs.length+1:=by rw[Ag];rfl
 refine y1U (.lst _) (by decide) (by rw[hl];exact Int.neg_le_neg (Bk.mpr (Bh (Nat.zero_le _)))) (by decide) ?_ q
 rw[hl,y5e]
 exact List.getElem?_concat_length
theorem z7a{ns:List z0b}{j:Nat}{X:V}(h:(z3L (ns.map z0f))[j]? =some X):∃n,ns[j]? =some n/\X= .tup [.int (j:Int),z0f n]:=by
 simp only[z3L,Al,List.getElem?_zipIdx,AP] at h
 cases e:ns[j]? with
 |none=>rw[e] at h;simp at h
 |some n=>rw[e] at h;simp at h;exact⟨n,rfl,h.symm⟩
theorem z8X{mk:Int}:∀{ss:List (Int×Int)} {ys:List V},F2 (λ(p:V×V) Y=>∀lo hi,p=(V.int lo,V.int hi)->Y= .bool (decide (lo<=mk)&&decide (mk<=hi))) (ss.map λp=>(V.int p.1,V.int p.2)) ys->ys=(ss.map λp=>decide (p.1<=mk)&&decide (mk<=p.2)).map V.bool
 |[],_,h=>by cases h;rfl
 |p::ss,_,h=>by
  cases h with
  |cons a b=>rw[a p.1 p.2 rfl,z8X b];rfl
noncomputable def z6a(r1:Expr):TC:=⟨[.asgL 3,.L 0,.mI 272 "makes",.L 1,.H (.ref 255) 1,.forV 4 [.raw r1,.call (.bi "all") 1,.V,.I [.L 3,.Y "list",.L 4,.H (.bi "list.append") 1,.pop] []],.L 3,.ret],[.inr r1],[([1,0,0],some [1])]⟩
noncomputable def z9h(r1:Expr)(r2:Expr):TC:=⟨[.L 1,.call (.type "dict") 1,.A 2,.L 1,.P (.int 1),.una .USub,.sub,.asg2 3 4,.L 0,.mI 272 "needs",.L 3,.L 4,.H (.ref 262) 2,.forE 5 6 [.L 6,.S 0,.L 2,.K .In,.M .And [.L 2,.L 6,.S 0,.sub,.L 6,.S 1,.L 6,.S 2,.call (.ref 137) 3,.V,.not,.M .And [.P (.bool true)]],.I [.L 6,.S 0,.raw r1,.raw r2,.tup 3,.ret] []],.P .none,.ret],[.inr r1,.inr r2],[([2,0,0,0,0],some [1]),([2,0,0,0,0],some [2])]⟩
noncomputable def z6c(r1:Expr)(r2:Expr):TC:=⟨[.L 2,.call (.type "dict") 1,.A 6,.L 5,.forL 7 [.L 0,.L 1,.L 6,.L 3,.L 7,.call (.ref 170) 5,.asg2 8 9,.L 4,.L 8,.L 9,.call (.ref 137) 3,.V,.not,.I [.L 3,.raw r1,.raw r2,.tup 3,.ret] []],.P .none,.ret],[.inr r1,.inr r2],[([1,0,1,0,0],some [1]),([1,0,1,0,0],some [2])]⟩
theorem y1T{p:Str×Int}(q:Q (prV p) σ):C2 C d (.lst ((ps++[p]).map prV)) (.int (-1)) σ Q:=by rw[Am];exact y1S q
theorem z7b(ns:List z0b):(z3L (ns.map z0f)).length=ns.length:=by simp[z3L]
def LbI(a0 a1 a2:V)(fa:Addr)(l:List Int)(t:Int->Bool)(σ:Sto)(j:Nat)(m₀:Loc)(τ₀:Sto):Prop:=∀P:Loc->Sto->Prop,(∀{o:Obj} {v:Option V},P [some a0,some a1,some a2,some (.ref fa),v] ((fa,o,.list (((l.take j).filter t).map V.int))::σ))->P m₀ τ₀
theorem LbI.mk{a0 a1 a2:V}{fa:Addr}{l:List Int}{t:Int->Bool}{σ:Sto}{j:Nat}{o:Obj}{v:Option V}:LbI a0 a1 a2 fa l t σ j [some a0,some a1,some a2,some (.ref fa),v] ((fa,o,.list (((l.take j).filter t).map V.int))::σ):=λ_ k=>k
theorem y2e{l:List Int}{t:Int->Bool}{j:Nat}{mk:Int}(h:l[j]? =some mk):(l.take (j+1)).filter t=if t mk then(l.take j).filter t++[mk] else(l.take j).filter t:=by
 rw[z1s h,List.filter_append]
 cases e:t mk<;>simp[e]
theorem z9M(H:G1 C)(S:C1 σ i k kv es)(hw:A7 w){ss:List (Int×Int)}(hl:ss.length<=200)(q:Q (.lst ((lfF es w ss).map V.int)) σ):
  CW C (d+3) (.ref 175) [.ref i,.str w,.lst (ss.map λp=> .tup [.int p.1,.int p.2])] σ Q:=by
 refine z37 (z1R ?_)
 refine z0M (G1.kin ‹_›) ["shop","ware","stretches","found","make"] [("reversed",.type "reversed"),("all",.bi "all")] (by kernel_rfl) (vs3 λ_ _ _=>by kernel_rfl) rfl (gA ‹_› [18,4]) ?_
 intro η hsc
 obtain⟨dx,hin⟩:=S.inst
 have h8:=(S.eok w).2.1
 have hsl:=desM_len (es:=es) (w:=w)
 refine xG H (z6a _) ?_
 intro F m0 fa ofa hff
 refine LK (z0k (hin.cons _) ?_)
 refine LK (fnc (z4W H (S.c1 _) hw (.inl ?_)))
 refine LK (.mk _ _ (LbI (.ref i) (.str w) (.lst (ss.map λp=> .tup [.int p.1,.int p.2])) fa (z1M es w) (z3M ss) σ) (.lst _) .mk (λj X hX m τ hI QB hQB _=> ?_) λm τ hI=> ?_)
 ·clear q
  rw[<-List.map_reverse,Al] at hX
  obtain⟨mk,hmk,rfl⟩:=Bw.mp hX
  have hmk:(z1M es w)[j]? =some mk:=hmk
  have hj:=(An.mp hmk).1
  have hnx:=y2e (t:=z3M ss) hmk
  apply hI;intro o v
  have hgl:((((z1M es w).take j).filter (z3M ss)).map V.int).length<=sizeLine:=z0i (by
   rw[Ab]
   exact Ac (Bc _ _) (Ac (List.length_take_le _ _) (Ac (AZ hj) (by rw[hsl];exact nD h8 rfl))))
  refine LK ?_
  show AT C η ["shop","ware","stretches","found","make"] _ true _ (eval _ η) [some (.ref i),some (.str w),some (.lst (ss.map λp=> .tup [.int p.1,.int p.2])),some (.ref fa),some (.int mk)] _ _
  refine z9q "low" "high" ["make"] [("within",.ref 137)] (by rw[hsc];kernel_rfl) (gA H [19]) (.cons LkC.lk .nil) (z0W ?_)
  with_reducible refine z0d ?_
  refine⟨_,_,.lst _,z0E hl (by decide),λenv' he=> ?_⟩
  have hss:(ss.map λp=>V.tup [.int p.1,.int p.2])=(ss.map λp=>(V.int p.1,V.int p.2)).map λp=>V.tup [p.1,p.2]:=by rw[AJ];rfl
  rw[hss]
  refine z72 (Gd:=λp Y=>∀lo hi,p=(V.int lo,V.int hi)->Y= .bool (decide (lo<=mk)&&decide (mk<=hi))) (z0j he) (z0j he) trivial _ _ _ _ (λp hp K hK=> ?_) λys hys=> ?_
  ·obtain⟨⟨lo,hi⟩,hm,rfl⟩:=Ah.mp hp
   repeat' with_reducible first|refine z0G ?_|refine z0d ?_|refine z0c ?_|refine z0e ?_|refine z0o ?_|refine z2G (cA ‹_›) ?_|fail
   refine fnc (z5x H ?_)
   exact hK _ λlo' hi' e=>by cases e;rfl
  obtain rfl:ys=(ss.map λp=>decide (p.1<=mk)&&decide (mk<=p.2)).map V.bool:=z8X hys
  rw[Ay,<-hss]
  refine LK (z8C (.lst _) ?_)
  rw[show((ss.map λp=>decide (p.1<=mk)&&decide (mk<=p.2)).all id)=z3M ss mk by rw[List.all_map];rfl]
  refine z0p (λhb=> ?_) λhb=> ?_
  ·rw[if_pos hb] at hnx
   refine LK ⟨tyL At.hd,?_⟩
   refine LK (z39 hgl λo'=> ?_)
   refine hQB _ _ trivial ?_
   have hm:LbI (.ref i) (.str w) (.lst (ss.map λp=> .tup [.int p.1,.int p.2])) fa (z1M es w) (z3M ss) σ (j+1) _ ((fa,o',.list ((((z1M es w).take (j+1)).filter (z3M ss)).map V.int))::σ):= .mk (v:=some (.int mk))
   rw[hnx,Am] at hm
   exact hm
  ·rw[hb,if_neg BB] at hnx
   refine hQB _ _ trivial ?_
   have hm:LbI (.ref i) (.str w) (.lst (ss.map λp=> .tup [.int p.1,.int p.2])) fa (z1M es w) (z3M ss) σ (j+1) _ ((fa,o,.list ((((z1M es w).take (j+1)).filter (z3M ss)).map V.int))::σ):= .mk (v:=some (.int mk))
   rw[hnx] at hm
   exact hm
 ·apply hI;intro o v
  refine⟨_,List.Sublist.refl _,fa,o,_,σ,rfl,rfl,?_⟩
  rw[show(((z2u ((es w).map (·.1))).map V.int).reverse).length=(z1M es w).length by unfold z1M;rw[List.length_reverse,List.length_reverse,Ab],AU]
  exact q
noncomputable def rs2(w:Str)(a b:G3):V:= .tup [.str w,.lst [srcV a,srcV b],.lst []]
theorem z8m(s:G3):Tr σ [] (srcV s) (srcV s):=by
 cases s with
 |wish k=>exact .tup (Tr.dat λy hy=>by simp at hy;rcases hy with rfl|rfl<;>simp)
 |need o m k=>exact .tup (Tr.dat λy hy=>by simp at hy;rcases hy with rfl|rfl|rfl|rfl<;>simp)
 |pick o m=>exact .tup (Tr.dat λy hy=>by simp at hy;rcases hy with rfl|rfl|rfl<;>simp)
theorem Res.two{a b:Addr}{oa ob:Obj}{s1 s2:G3}(ha:A4 σ a)(hb:A4 σ b)(hab:a≠b):Res σ (rs2 w s1 s2) (.tup [.str w,.ref a,.ref b]) ((b,ob,.list [])::(a,oa,.list [srcV s1,srcV s2])::σ):=
 .mk [a,b] (λp h=> .tail _ (.tail _ h)) (Au.mpr ⟨λh=>hab (Af.mp h),Au.mpr ⟨Av,Aw⟩⟩) (Aa.mpr ⟨ha,Aa.mpr ⟨hb,λ_ h=>nomatch h⟩⟩)
  (.tup (.cons (.str w) (.cons (A:=[a]) (.ref (A:=[]) (At.hd.cons _) (.cons (z8m s1) (.cons (z8m s2) .nil))) (.cons (A:=[b]) (.ref (A:=[]) At.hd .nil) .nil))))
noncomputable def clT(ps:LI)(n:z0b):Bool:=match pI ps n.1 with
 |some m=> !(decide (n.2.1<=m)&&decide (m<=n.2.2))
 |none=>false
noncomputable def clF(es:ES)(ps:LI)(w:Str)(mk:Int):Option V:=((z08 es (w,mk)).zipIdx.find? λp=>clT ps p.1).map λp=>rs2 p.1.1 (.pick p.1.1 ((pI ps p.1.1).getD 0)) (.need w mk p.2)
def ClI(a0 a1 a2 a3 a4:V)(ps:LI)(l:List (z0b×Nat))(τ:Sto)(j:Nat)(m₀:Loc)(τ₀:Sto):Prop:=∀P:Loc->Sto->Prop,(∀{v1 v2:Option V},(∀y∈l.take j,clT ps y.1=false)->P [some a0,some a1,some a2,some a3,some a4,v1,v2] τ)->P m₀ τ₀
theorem ClI.mk{a0 a1 a2 a3 a4:V}{ps:LI}{l:List (z0b×Nat)}{τ:Sto}{j:Nat}{v1 v2:Option V}(x0:(∀y∈l.take j,clT ps y.1=false)):ClI a0 a1 a2 a3 a4 ps l τ j [some a0,some a1,some a2,some a3,some a4,v1,v2] τ:=λ_ k=>k x0
noncomputable abbrev vM:List Str:=["shop","pairs","picked","ware","make","k","need"]
theorem y2Q(H:G1 C)(S:C1 σ i k kv es){ps0:LI}{mk:Int}(pb:G5 (ps0++[(w,mk)])){ns:List z0b}(hm:(mk,ns)∈es w)
  (q1:∀t xs σ',clF es (ps0++[(w,mk)]) w mk=some t->Res σ t (.tup xs) σ'->Q (.tup xs) σ') (q2:clF es (ps0++[(w,mk)]) w mk=none->Q .none σ):
  CW C (d+4) (.ref 187) [.ref i,.lst ((ps0++[(w,mk)]).map prV)] σ Q:=by
 refine z1R ?_
 refine z0M (G1.kin ‹_›) vM [("dict",.type "dict"),("enumerate",.type "enumerate"),("within",.ref 137)] (by kernel_rfl) (vs2 λ_ _=>by kernel_rfl) rfl (gA ‹_› [22,21,19]) ?_
 intro η hsc
 clear hsc
 obtain⟨dx,hin⟩:=S.inst
 obtain⟨hw,h1,h2⟩:=pb.ok (w,mk) (Aj _ (.head _))
 have hpn:((pkV (ps0++[(w,mk)])).map (·.1)).Nodup:=by rw[z14];exact pb.nd
 unfold clF at q1 q2
 rw[z3Q (S.eok w).1 hm] at q1 q2
 refine xG H (z9h _ _) ?_
 intro F m0
 refine LK (z44 (.lst _) pb λpa opa hfp=> ?_)
 refine LK (y25 ?_)
 refine LK (y1T ?_)
 refine LK (z0k (hin.cons _) ?_)
 refine LK (fnc (z3k H (S.c1 _) hw h1 h2 hm (.inl ?_)))
 refine LK (.mk _ _ (ClI (.ref i) (.lst ((ps0++[(w,mk)]).map prV)) (.ref pa) (.str w) (.int mk) (ps0++[(w,mk)]) ns.zipIdx ((pa,opa,dS (pkV (ps0++[(w,mk)])))::σ)) (.lst _) (.mk λy h=>nomatch h) (λj X hX m τ hI QB hQB hQR=> ?_) λm τ hI=> ?_)
 ·obtain⟨⟨nm,lo,hi⟩,hne,rfl⟩:=z7a hX
  have hz:ns.zipIdx[j]? =some ((nm,lo,hi),j):=by rw[List.getElem?_zipIdx,hne,AP];rfl
  apply hI;intro v1 v2 hall
  have hgo:=λ(e:clT (ps0++[(w,mk)]) (nm,lo,hi)=false) v1 v2=>hQB _ _ trivial (.mk (v1:=v1) (v2:=v2) (z6e hz hall e))
  refine LK (z38 H.ns At.hd hpn (z0g ?_))
  rw[z6N]
  cases hv:pI (ps0++[(w,mk)]) nm with
  |none=>exact hgo (by unfold clT;rw[hv]) _ _
  |some mm=>
   have hvA:vAt (pkV (ps0++[(w,mk)])) nm=some (.int mm):=by rw[z6N,hv];rfl
   have hcl:clT (ps0++[(w,mk)]) (nm,lo,hi)= !(decide (lo<=mm)&&decide (mm<=hi)):=by unfold clT;rw[hv]
   refine LK (z3u At.hd hpn hvA ?_)
   refine LK (fnc (z5x H ?_))
   refine z0p (λhb=> ?_) λhb=>hgo (hcl.trans hb) _ _
   have hfd:=z6w (p:=λp:z0b×Nat=>clT (ps0++[(w,mk)]) p.1) hz (hcl.trans hb) hall
   rw[hfd] at q1
   have q1:=λxs σ'=>q1 (rs2 nm (.pick nm mm) (.need w mk j)) xs σ' (by show some (rs2 nm (.pick nm ((pI (ps0++[(w,mk)]) nm).getD 0)) (.need w mk j))=_;rw[hv];rfl)
   clear hgo hQB hfd q2
   refine LK ?_
   show AT C η vM _ true _ (eval _ η) [some (.ref i),some (.lst ((ps0++[(w,mk)]).map prV)),some (.ref pa),some (.str w),some (.int mk),some (.int (j:Int)),some (.tup [.str nm,.int lo,.int hi])] _ _
   refine z1Z ?_
   repeat' with_reducible first|refine z1f ?_|refine z0G ?_|refine z0d ?_|refine z0r ?_|refine z0n ?_|refine z0u ?_|refine z2j ?_|refine z0c ?_|refine z0e ?_|refine⟨by with_unfolding_all exact AH rfl,?_⟩|refine z3u At.hd hpn hvA ?_|refine z3H ?_|fail
   intro a oa hfa
   refine LK ?_
   show AT C η vM _ true _ (eval _ η) [some (.ref i),some (.lst ((ps0++[(w,mk)]).map prV)),some (.ref pa),some (.str w),some (.int mk),some (.int (j:Int)),some (.tup [.str nm,.int lo,.int hi])] _ _
   refine z1Z (z0e ⟨Nat.zero_le _,λb ob hfb=> ?_⟩)
   exact hQR _ _ _ ⟨_,((As _ _).cons_cons _).cons_cons _,q1 _ _ (.two (λp hp=>hfa p (.tail _ hp)) (λp hp=>hfb p (.tail _ (.tail _ hp))) (hfb _ (.head _)))⟩
 ·apply hI;intro v1 v2 hall
  rw[z7b,<-List.length_zipIdx,AU] at hall
  exact⟨σ,As _ _,q2 (by rw[List.find?_eq_none.mpr λy hy=>by rw[hall y hy];exact BB];rfl)⟩
noncomputable def osF(w:Str)(mk:Int)(ss:List (G3×Int×Int)):Option V:=(ss.find? λp=> !(decide (p.2.1<=mk)&&decide (mk<=p.2.2))).map λp=>rs2 w (.pick w mk) p.1
noncomputable abbrev ssV(ss:List (G3×Int×Int)):List V:=ss.map λp=>srcV p.1
def OsI(a0 a1 a2 a3 a4 a5 a6:V)(mk:Int)(ss:List (G3×Int×Int))(τ:Sto)(j:Nat)(m₀:Loc)(τ₀:Sto):Prop:=∀P:Loc->Sto->Prop,(∀{v1 v2 v3:Option V},(∀y∈ss.take j,(!(decide (y.2.1<=mk)&&decide (mk<=y.2.2)))=false)->P [some a0,some a1,some a2,some a3,some a4,some a5,some a6,v1,v2,v3] τ)->P m₀ τ₀
theorem OsI.mk{a0 a1 a2 a3 a4 a5 a6:V}{mk:Int}{ss:List (G3×Int×Int)}{τ:Sto}{j:Nat}{v1 v2 v3:Option V}(x0:(∀y∈ss.take j,(!(decide (y.2.1<=mk)&&decide (mk<=y.2.2)))=false)):OsI a0 a1 a2 a3 a4 a5 a6 mk ss τ j [some a0,some a1,some a2,some a3,some a4,some a5,some a6,v1,v2,v3] τ:=λ_ k=>k x0
noncomputable abbrev vE:List Str:=["shop","wish","pairs","ware","make","sources","granted","source","low","high"]
theorem z9N(H:G1 C)(S:C1 σ i k kv es){x y:V}{Px Py:Sto->Prop}(hx:A8 σ x (.list (wi.map z0f)) Px)(h8:wi.length<=8)(pb:G5 ps){mk:Int}{ss:List (G3×Int×Int)}(hy:A8 σ y (.list (ssV ss)) Py)(hss:∀p∈ss,H4 es wi ps w p.1 p.2.1 p.2.2)
  (q1:∀t xs σ',osF w mk ss=some t->Res σ t (.tup xs) σ'->Q (.tup xs) σ') (q2:osF w mk ss=none->Q .none σ):
  CW C (d+5) (.ref 194) [.ref i,x,.lst (ps.map prV),.str w,.int mk,y] σ Q:=by
 refine z1R ?_
 refine z0M (G1.kin ‹_›) vE [("dict",.type "dict"),("stretch_of",.ref 170),("within",.ref 137)] (by kernel_rfl) (vs6 λ_ _ _ _ _ _=>by kernel_rfl) rfl (gA ‹_› [22,23,19]) ?_
 intro η hsc
 clear hsc
 refine xG H (z6c _ _) ?_
 intro F m0
 refine LK (z44 (.lst _) pb λpa opa hfp=> ?_)
 have hy2:=hy.mono (τ:=(pa,opa,dS (pkV ps))::σ) λp h=> .tail _ h
 refine LK (.mk _ _ (OsI (.ref i) x (.lst (ps.map prV)) (.str w) (.int mk) y (.ref pa) mk ss ((pa,opa,dS (pkV ps))::σ)) hy2 (.mk λy h=>nomatch h) (λj X hX m τ hI QB hQB hQR=> ?_) λm τ hI=> ?_)
 ·rw[Al] at hX
  apply z0Z hX;rintro ⟨s,lo,hi⟩ hse
  have hs:=hss _ (Ak hse)
  apply hI;intro v1 v2 v3 hall
  refine LK (fnc (z32 H (S.c1 _) (hx.mono λp h=> .tail _ h) h8 At.hd pb hs ?_))
  refine LK (fnc (z5x H ?_))
  refine z0p (λhb=> ?_) λhb=>hQB _ _ hy2.p (.mk (z6e hse hall hb))
  have q1:=λxs σ'=>q1 (rs2 w (.pick w mk) s) xs σ' (by unfold osF;rw[z6w (p:=λp:G3×Int×Int=> !(decide (p.2.1<=mk)&&decide (mk<=p.2.2))) hse hb hall];rfl)
  clear hQB q2
  refine LK ?_
  show AT C η vE _ true _ (eval _ η) [some (.ref i),some x,some (.lst (ps.map prV)),some (.str w),some (.int mk),some y,some (.ref pa),some (srcV s),some (.int lo),some (.int hi)] _ _
  refine z1Z ?_
  repeat' with_reducible first|refine z0G ?_|refine z0d ?_|refine z0r ?_|refine z2j ?_|refine z0c ?_|refine z0e ?_|refine⟨by with_unfolding_all exact AH rfl,?_⟩|fail
  intro a oa hfa
  refine LK ?_
  show AT C η vE _ true _ (eval _ η) [some (.ref i),some x,some (.lst (ps.map prV)),some (.str w),some (.int mk),some y,some (.ref pa),some (srcV s),some (.int lo),some (.int hi)] _ _
  refine z1Z (z0e ⟨Nat.zero_le _,λb ob hfb=> ?_⟩)
  exact hQR _ _ _ ⟨_,((As _ _).cons_cons _).cons_cons _,q1 _ _ (.two (λp hp=>hfa p (.tail _ hp)) (λp hp=>hfb p (.tail _ (.tail _ hp))) (hfb _ (.head _)))⟩
 ·apply hI;intro v1 v2 v3 hall
  rw[Ab,AU] at hall
  exact⟨σ,As _ _,q2 (by unfold osF;rw[List.find?_eq_none.mpr λy hy=>by rw[hall y hy];exact BB];rfl)⟩
noncomputable def srF(c:Nat->G3)(w:Str)(ns:List z0b)(n:Nat):List (G3×Int×Int):=(List.range n).filterMap λj=>(ns[j]?).bind λx=>if x.1==w then some (c j,x.2) else none
theorem y1w{c:Nat->G3}{ns:List z0b}{l:Nat}{x:z0b}(h:ns[l]? =some x):srF c w ns (l+1)=srF c w ns l++if x.1==w then[(c l,x.2)] else[]:=by
 unfold srF
 rw[List.range_succ,List.filterMap_append]
 congr 1
 simp only[List.filterMap_cons,List.filterMap_nil,h,Option.bind_some]
 cases x.1==w<;>rfl
theorem z3V(c:Nat->G3)(ns:List z0b)(n:Nat):(srF c w ns n).length<=n:=Ac (List.length_filterMap_le _ _) (Bp BA)
theorem z9g{c:Nat->G3}{ns:List z0b}{n:Nat}{p:G3×Int×Int}(h:p∈srF c w ns n):∃j,p.1=c j/\ns[j]? =some (w,p.2.1,p.2.2):=by
 obtain⟨j,_,e⟩:=List.mem_filterMap.mp h
 obtain⟨x,hx,e⟩:=Option.bind_eq_some_iff.mp e
 cases hb:x.1==w with
 |false=>rw[hb] at e;cases e
 |true=>
  rw[hb] at e
  cases e
  exact⟨j,rfl,by rw[hx,<-BF hb]⟩
noncomputable def ssF(es:ES)(wi:List z0b)(ps:LI)(w:Str):List (G3×Int×Int):=srF .wish w wi wi.length++ps.flatMap λp=>srF (.need p.1 p.2) w (z08 es p) (z08 es p).length
theorem y4n(pi:PkIn es ps)(en:∀w,((es w).map (·.1)).Nodup):∀p∈ssF es wi ps w,H4 es wi ps w p.1 p.2.1 p.2.2:=λp hp=>by
 rcases Ad.mp hp with h|h
 ·obtain⟨j,e,hj⟩:=z9g h
  rw[e];exact .wish hj
 ·obtain⟨⟨o,m⟩,ho,h⟩:=List.mem_flatMap.mp h
  obtain⟨j,e,hj⟩:=z9g h
  obtain⟨ns,hns⟩:=pi _ ho
  rw[show z08 es (o,m)=ns from z3Q (en o) hns] at hj
  rw[e];exact .need ho hns hj
theorem y0T{l:LI}(h:∀p∈l,(z08 es p).length<=6):(l.flatMap λp=>srF (.need p.1 p.2) w (z08 es p) (z08 es p).length).length<=6*l.length:=by
 induction l with
 |nil=>exact AN _
 |cons p l ih=>
  have h1:=Ac (z3V (w:=w) (.need p.1 p.2) (z08 es p) (z08 es p).length) (h p (.head _))
  have h2:=ih λp hp=>h p (.tail _ hp)
  rw[List.flatMap_cons,Ag,Aq];exact Ac (Bd h1 h2) (Bp (by rw[Nat.mul_succ,Nat.add_comm]))
noncomputable def wsT(wi:List z0b)(w:Str):V->Bool
 | .int j=>(wi[j.toNat]?).any λn=>n.1==w
 |_=>false
theorem y45(l:List Nat):((l.map λj:Nat=>V.int (j:Int)).filter (wsT wi w)).map (λX=>V.tup [.str "wish",X])=ssV (l.filterMap λj=>(wi[j]?).bind λx=>if x.1==w then some (.wish j,x.2) else none):=by
 induction l with
 |nil=>rfl
 |cons j l ih=>
  have e:wsT wi w (V.int (j:Int))=(wi[j]?).any λn=>n.1==w:=by show(wi[((j:Nat):Int).toNat]?).any _=_;rw[Int.toNat_natCast]
  rw[Ap,List.filter_cons,e,List.filterMap_cons]
  cases hj:wi[j]? with
  |none=>exact ih
  |some n=>
   rw[Option.bind_some]
   show(if(n.1==w)=true then _ else _:List V).map _=_
   cases n.1==w with
   |false=>exact ih
   |true=>exact congrArg (V.tup [.str "wish",.int (j:Int)]::·) ih
theorem y4v{j:Nat}(hj:j<wi.length):wsT wi w (V.int (j:Int))=(wi[j].1==w):=by
 show(wi[((j:Nat):Int).toNat]?).any _=_
 rw[Int.toNat_natCast,Ar hj];rfl
noncomputable def z3q(r1:Stmt):TC:=⟨[.X r1,.L 2,.forL2 5 6 [.L 0,.mI 272 "needs",.L 5,.L 6,.H (.ref 262) 2,.forE 7 8 [.L 8,.S 0,.L 3,.K .Eq,.I [.L 4,.Y "list",.P (.str "need"),.L 5,.L 6,.L 7,.tup 4,.H (.bi "list.append") 1,.pop] []]],.L 4,.ret],[.inl r1],[([0],none)]⟩
def SfI(a0 a1 a2 a3:V)(fa:Addr)(σ:Sto)(L:Nat->List (G3×Int×Int))(j:Nat)(m₀:Loc)(τ₀:Sto):Prop:=∀P:Loc->Sto->Prop,(∀{o:Obj} {v1 v2 v3 v4:Option V},P [some a0,some a1,some a2,some a3,some (.ref fa),v1,v2,v3,v4] ((fa,o,.list (ssV (L j)))::σ))->P m₀ τ₀
theorem SfI.mk{a0 a1 a2 a3:V}{fa:Addr}{σ:Sto}{L:Nat->List (G3×Int×Int)}{j:Nat}{o:Obj}{v1 v2 v3 v4:Option V}:SfI a0 a1 a2 a3 fa σ L j [some a0,some a1,some a2,some a3,some (.ref fa),v1,v2,v3,v4] ((fa,o,.list (ssV (L j)))::σ):=λ_ k=>k
def SgI(a0 a1 a2 a3 a5 a6:V)(fa:Addr)(σ:Sto)(L:Nat->List (G3×Int×Int))(j:Nat)(m₀:Loc)(τ₀:Sto):Prop:=∀P:Loc->Sto->Prop,(∀{o:Obj} {v3 v4:Option V},P [some a0,some a1,some a2,some a3,some (.ref fa),some a5,some a6,v3,v4] ((fa,o,.list (ssV (L j)))::σ))->P m₀ τ₀
theorem SgI.mk{a0 a1 a2 a3 a5 a6:V}{fa:Addr}{σ:Sto}{L:Nat->List (G3×Int×Int)}{j:Nat}{o:Obj}{v3 v4:Option V}:SgI a0 a1 a2 a3 a5 a6 fa σ L j [some a0,some a1,some a2,some a3,some (.ref fa),some a5,some a6,v3,v4] ((fa,o,.list (ssV (L j)))::σ):=λ_ k=>k
theorem z5K(H:G1 C)(S:C1 σ i k kv es){x:V}{Px:Sto->Prop}(hx:A8 σ x (.list (wi.map z0f)) Px)(h8:wi.length<=8)(pb:G5 ps)(pi:PkIn es ps)
  (q:∀a o,A4 σ a->Q (.ref a) ((a,o,.list (ssV (ssF es wi ps w)))::σ)):CW C (d+4) (.ref 180) [.ref i,x,.lst (ps.map prV),.str w] σ Q:=by
 refine z92 ?_
 refine z0M (G1.kin ‹_›) ["shop","wish","pairs","ware","found","other","make","k","need"] [("range",.type "range"),("len",.bi "len"),("enumerate",.type "enumerate")] (by kernel_rfl) (vs4 λ_ _ _ _=>by kernel_rfl) rfl (gA ‹_› [20,2,21]) ?_
 intro η hsc
 obtain⟨dx,hin⟩:=S.inst
 have h12:=pb.len
 have h6:∀p∈ps,(z08 es p).length<=6:=λp hp=>by
  obtain⟨ns,hns⟩:=pi p hp
  rw[show z08 es p=ns from z3Q (S.eok p.1).1 hns];exact(S.eok p.1).2.2 _ hns
 have hlen:∀j,(srF .wish w wi wi.length++(ps.take j).flatMap λp=>srF (.need p.1 p.2) w (z08 es p) (z08 es p).length).length<=80:=λj=>by
  have h1:=y0T (w:=w) (l:=ps.take j) λp hp=>h6 p (List.mem_of_mem_take hp)
  have h2:=z3V (w:=w) .wish wi wi.length
  have h3:(ps.take j).length<=ps.length:=(List.take_sublist _ _).length_le
  rw[Ag];exact nD (Bd (Ac h2 h8) (Ac h1 (Bj 6 (Ac h3 h12)))) rfl
 refine xG H (z3q _) ?_
 intro F m0
 refine LK ?_
 show AS C η ["shop","wish","pairs","ware","found","other","make","k","need"] _ true _ (exec _ η) [some (.ref i),some x,some (.lst (ps.map prV)),some (.str w),none,none,none,none,none] _ _
 refine z2V "k" ["wish","ware"] [] (z27 (by rw[hsc];kernel_rfl)) (by rw[hsc];kernel_rfl) C3 (.cons LkC.lk (.cons LkC.lk .nil)) (z1p ?_)
 repeat' with_reducible first|refine z0G ?_|refine z0d ?_|refine z0c ?_|refine z0e ?_|refine z0o ?_|refine z2S ?_|refine z1P ?_|fail
 refine z6k hx (z0E h8 (by decide)) ?_
 rw[Ab]
 repeat' with_reducible first|refine z0e ?_|refine z1D ?_|fail
 refine⟨_,_,_,wi.length,rfl,z7v (nD h8 rfl),z7w _,by rw[z00];exact nD h8 rfl,λenv' he=>z1S (f:=λX=>V.tup [.str "wish",X]) (t:=wsT wi w) (z0j he) trivial _ _ _ (λX hX K hK=> ?_) (λX hX _ K hK=> ?_) ?_⟩
 ·obtain⟨j,hj,rfl⟩:=z1z hX
  rw[y4v hj] at hK
  have hjm:(wi.map z0f)[j]? =some (z0f wi[j]):=by rw[Al,Ar hj];rfl
  clear q
  repeat' with_reducible first|refine z0d ?_|refine z0u ?_|refine z0D ?_|fail
  refine z0I hx (Ac hj (nD h8 rfl)) hjm ?_
  unfold z0f
  repeat' first|(with_reducible refine z0n ?_)|fail
  refine z3H ?_
  repeat' with_reducible first|refine z0d ?_|refine z3l ?_|refine z0g ?_|fail
  exact hK
 ·obtain⟨j,hj,rfl⟩:=z1z hX
  clear q
  repeat' with_reducible first|refine z0G ?_|refine z0d ?_|refine z0r ?_|refine z2j ?_|refine z0c ?_|refine z0e ?_|refine⟨by with_unfolding_all exact AH rfl,?_⟩|fail
  exact hK
 rw[Ay,z4k,y45]
 intro fa ofa
 clear hsc
 with_reducible refine z2K ?_
 have h0:SfI (.ref i) x (.lst (ps.map prV)) (.str w) fa σ (λj=>srF .wish w wi wi.length++(ps.take j).flatMap λp=>srF (.need p.1 p.2) w (z08 es p) (z08 es p).length) 0 [some (.ref i),some x,some (.lst (ps.map prV)),some (.str w),some (.ref fa),none,none,none,none] ((fa,ofa,.list (ssV (srF .wish w wi wi.length++(ps.take 0).flatMap λp=>srF (.need p.1 p.2) w (z08 es p) (z08 es p).length)))::σ):= .mk
 rw[List.take_zero,List.flatMap_nil,Az] at h0
 refine LK (.mk _ _ (SfI (.ref i) x (.lst (ps.map prV)) (.str w) fa σ λj=>srF .wish w wi wi.length++(ps.take j).flatMap λp=>srF (.need p.1 p.2) w (z08 es p) (z08 es p).length) (.lst _) h0 (λj X hX m τ hI QB hQB _=> ?_) λm τ hI=> ?_)
 ·clear h0 q
  rw[Al] at hX
  apply z0Z hX;rintro ⟨ot,mk⟩ hpe
  have hpm:=Ak hpe
  obtain⟨ns,hns⟩:=pi _ hpm
  obtain⟨ho,h1,h2⟩:=pb.ok _ hpm
  have hnd:z08 es (ot,mk)=ns:=z3Q (S.eok ot).1 hns
  have hnl:ns.length<=6:=(S.eok ot).2.2 _ hns
  have htk:(ps.take (j+1)).flatMap (λp=>srF (.need p.1 p.2) w (z08 es p) (z08 es p).length)=(ps.take j).flatMap (λp=>srF (.need p.1 p.2) w (z08 es p) (z08 es p).length)++srF (.need ot mk) w ns ns.length:=by
   rw[List.take_add_one,hpe,List.flatMap_append]
   show _++((srF (.need ot mk) w (z08 es (ot,mk)) (z08 es (ot,mk)).length)++[])=_
   rw[hnd,Az]
  have hend:=λo v1 v2 v3 v4=>hQB _ _ trivial (SfI.mk (a0:= .ref i) (a1:=x) (a2:= .lst (ps.map prV)) (a3:= .str w) (fa:=fa) (σ:=σ) (L:=λj=>srF .wish w wi wi.length++(ps.take j).flatMap λp=>srF (.need p.1 p.2) w (z08 es p) (z08 es p).length) (j:=j+1) (o:=o) (v1:=v1) (v2:=v2) (v3:=v3) (v4:=v4))
  simp only[htk] at hend
  have hlj:=hlen j
  apply hI;intro o v1 v2 v3 v4
  clear hQB hI htk hlen hpe hX
  simp only
  generalize (ps.take j).flatMap (λp=>srF (.need p.1 p.2) w (z08 es p) (z08 es p).length)=L1 at hend hlj⊢
  refine LK (z0k (hin.cons _) ?_)
  refine LK (fnc (z3k H (S.c1 _) ho h1 h2 hns (.inl ?_)))
  have g0:SgI (.ref i) x (.lst (ps.map prV)) (.str w) (.str ot) (.int mk) fa σ (λl=>(srF .wish w wi wi.length++L1)++srF (.need ot mk) w ns l) 0 [some (.ref i),some x,some (.lst (ps.map prV)),some (.str w),some (.ref fa),some (.str ot),some (.int mk),v3,v4] ((fa,o,.list (ssV ((srF .wish w wi wi.length++L1)++[])))::σ):= .mk
  rw[Az] at g0
  refine LK (.mk _ _ (SgI (.ref i) x (.lst (ps.map prV)) (.str w) (.str ot) (.int mk) fa σ λl=>(srF .wish w wi wi.length++L1)++srF (.need ot mk) w ns l) (.lst _) g0 (λl X hX m τ hI QB2 hQB2 _=> ?_) λm τ hI=> ?_)
  ·obtain⟨⟨nm,lo,hi⟩,hne,rfl⟩:=z7a hX
   have hl:=(An.mp hne).1
   have hll:=z3V (w:=w) (.need ot mk) ns l
   have hnx:=λo v3 v4=>hQB2 _ _ trivial (SgI.mk (a0:= .ref i) (a1:=x) (a2:= .lst (ps.map prV)) (a3:= .str w) (a5:= .str ot) (a6:= .int mk) (fa:=fa) (σ:=σ) (L:=λl=>(srF .wish w wi wi.length++L1)++srF (.need ot mk) w ns l) (j:=l+1) (o:=o) (v3:=v3) (v4:=v4))
   simp only[y1w hne] at hnx
   apply hI;intro o v3 v4
   clear hQB2 hend hI g0
   refine z0p (λhb=> ?_) λhb=> ?_
   ·refine LK ⟨tyL At.hd,?_⟩
    refine LK (z39 (z0E (n:=100) (by rw[Ag];exact nD (Bd hlj (Ac (z3V _ _ _) (Ac (AZ hl) hnl))) rfl) (by decide)) λo'=> ?_)
    rw[hb,if_pos rfl,<-Ao] at hnx
    have hnx:=hnx o' (some (.int (l:Int))) (some (z0f (nm,lo,hi)))
    rw[ssV,Am] at hnx
    exact hnx
   ·rw[hb,if_neg BB,Az] at hnx
    exact hnx _ _ _
  ·apply hI;intro o v3 v4
   rw[z7b]
   rw[<-Ao] at hend
   exact hend _ _ _ _ _
 ·apply hI;intro o v1 v2 v3 v4
  dsimp only
  rw[Ab,AU]
  exactλhnd=>q fa o (z7g hnd)
structure Gd(es:ES)(wi:List z0b):Prop where
 ok:D4 wi
 nd:∀w,((es w).map (·.1)).Nodup
 ag:∀pk,G5 pk->PkIn es pk->∃N R,N<=100/\Bf (nx es pk) N [] (wi.map (·.1)) R/\(∀w∈R,A7 w)/\R.length<=N
 mb:∀w,∀p∈es w,A7 w/\1<=p.1/\p.1<=999
 l12:∀pk:LI,(pk.map (·.1)).Nodup->PkIn es pk->pk.length<=12
 l8:∀w,(es w).length<=8
 l6:∀w,∀p∈es w,p.2.length<=6
theorem PkIn.snoc(pi:PkIn es ps){mk:Int}{ns:List z0b}(hm:(mk,ns)∈es w):PkIn es (ps++[(w,mk)]):=λp hp=>by
 rcases Ad.mp hp with h|h
 ·exact pi p h
 ·rw[Af.mp h];exact⟨ns,hm⟩
theorem G5.snoc(g:Gd es wi){mk:Int}{ns:List z0b}(pb:G5 ps)(pi:PkIn es ps)(hw:w∉ps.map (·.1))(hm:(mk,ns)∈es w):G5 (ps++[(w,mk)]):=by
 have hn:((ps++[(w,mk)]).map (·.1)).Nodup:=by rw[Am];exact z0Y pb.nd hw
 refine⟨hn,g.l12 _ hn (pi.snoc hm),λp hp=> ?_⟩
 rcases Ad.mp hp with h|h
 ·exact pb.ok p h
 ·rw[Af.mp h];exact g.mb w _ hm
noncomputable def agF(es:ES)(wi:List z0b)(ps:LI):List Str:=Classical.epsilon λR=>∃N,N<=100/\Bf (nx es ps) N [] (wi.map (·.1)) R/\(∀w∈R,A7 w)/\R.length<=N
theorem y3Q(g:Gd es wi)(pb:G5 ps)(pi:PkIn es ps):∃N,N<=100/\Bf (nx es ps) N [] (wi.map (·.1)) (agF es wi ps)/\(∀w∈agF es wi ps,A7 w)/\(agF es wi ps).length<=N:=
 Classical.epsilon_spec (p:=λR=>∃N,N<=100/\Bf (nx es ps) N [] (wi.map (·.1)) R/\(∀w∈R,A7 w)/\R.length<=N) (by obtain⟨N,R,h⟩:=g.ag ps pb pi;exact⟨R,N,h⟩)
noncomputable def wtF(es:ES)(wi:List z0b)(ps:LI):List Str:=(agF es wi ps).filter λx=> !(vAt (pkV ps) x).isSome
noncomputable def wtT(ps:LI):V->Bool
 | .str x=> !(vAt (pkV ps) x).isSome
 |_=>false
theorem wt_eq:((agF es wi ps).map V.str).filter (wtT ps)=(wtF es wi ps).map V.str:=by rw[List.filter_map];rfl
theorem y1I(pb:G5 ps):∀y∈wtF es wi ps,y∈agF es wi ps/\y∉ps.map (·.1):=λy hy=>by
 obtain⟨h1,h2⟩:=Bu.mp hy
 refine⟨h1,λhm=> ?_⟩
 obtain⟨mk,_,e⟩:=y4g pb.nd hm
 rw[z6N,e] at h2;cases h2
abbrev SR:=(LI×List V) ⊕ V
noncomputable def lpF(one:Int->SR):List Int->List (Int×V)->(LI×List V) ⊕ List (Int×V)
 |[],as=> .inr as
 |mk::l,as=>(one mk).elim (λx=> .inl (x.1,.lst (as.map aV)::x.2)) λZ=>lpF one l (as++[(mk,Z)])
noncomputable def cl0(es:ES)(ps:LI):Option V:=ps.getLast?.elim none λp=>clF es ps p.1 p.2
noncomputable def gdF(w:Str)(es:ES)(ss:List (G3×Int×Int))(as:List (Int×V)):List (Int×V):=as.filter λp=>(lfF es w (ss.map (·.2))).any (·==p.1)
noncomputable def onF(f:LI->SR)(ps:LI)(w:Str)(ss:List (G3×Int×Int))(mk:Int):SR:=(osF w mk ss).elim (f (ps++[(w,mk)])) .inr
noncomputable def sdF(es:ES)(wi:List z0b):Nat->LI->SR
 |0,_=> .inr .none
 |n+1,ps=>(cl0 es ps).elim ((wtF es wi ps).head?.elim (.inl (ps,[])) λw=>(lpF (onF (sdF es wi n) ps w (ssF es wi ps w)) (z1M es w) []).elim .inl λas=> .inr (.tup [.str w,.lst (ssV (ssF es wi ps w)),.lst ((gdF w es (ssF es wi ps w) as).map aV)])) .inr
noncomputable def cV:SR->V:=Sum.elim (λx=> .tup [.tup [.lst (x.1.map prV),.lst x.2],.none]) λZ=> .tup [.none,Z]
noncomputable def fsB(gs:List Int):V->Bool
 | .tup (.int k::_)=>gs.any (·==k)
 |_=>false
theorem C7.filt{τ:Sto}{gs:List Int}:∀{as:List (Int×V)} {vs:List V} {A:List Addr},C7 τ A vs (as.map aV)->∃B,B.Sublist A/\C7 τ B (vs.filter (fsB gs)) ((as.filter λp=>gs.any (·==p.1)).map aV)/\∀v∈vs,∃k Z,v= .tup [.int k,Z]
 |[],vs,A,h=>by obtain⟨rfl,rfl⟩:=h.inv;exact⟨[],.refl _,.nil,λ_ h=>nomatch h⟩
 |(k,Z)::as,vs,A,h=>by
  obtain⟨x,zs,B1,D,rfl,rfl,h1,h2⟩:=h.inv
  obtain⟨us,rfl,h3⟩:=h1.inv
  obtain⟨y,us,_,_,rfl,rfl,h4,h5⟩:=h3.inv
  obtain⟨rfl,rfl⟩:=h4.inv
  obtain⟨z,us,_,_,rfl,rfl,h6,h7⟩:=h5.inv
  obtain⟨rfl,rfl⟩:=h7.inv
  obtain⟨B,hB,hT,hv⟩:=C7.filt (gs:=gs) h2
  have hv':∀v∈V.tup [.int k,z]::zs,∃k Z,v= .tup [.int k,Z]:=Aa.mpr ⟨⟨k,z,rfl⟩,hv⟩
  cases e:gs.any (·==k) with
  |true=>
   refine⟨_,(List.Sublist.refl _).append hB,?_,hv'⟩
   rw[show(V.tup [.int k,z]::zs).filter (fsB gs)=V.tup [.int k,z]::zs.filter (fsB gs) from List.filter_cons_of_pos e,show((k,Z)::as).filter (λp=>gs.any (·==p.1))=(k,Z)::as.filter (λp=>gs.any (·==p.1)) from List.filter_cons_of_pos e]
   exact .cons h1 hT
  |false=>
   refine⟨_,hB.trans (List.sublist_append_right _ _),?_,hv'⟩
   have e':¬gs.any (·==k)=true:=by rw[e];exact BB
   rw[show(V.tup [.int k,z]::zs).filter (fsB gs)=zs.filter (fsB gs) from List.filter_cons_of_neg e',show((k,Z)::as).filter (λp=>gs.any (·==p.1))=as.filter (λp=>gs.any (·==p.1)) from List.filter_cons_of_neg e']
   exact hT
inductive StQ(σ1:Sto)(ag:Addr)(as:List (Int×V))(τ:Sto):Prop
 |mk {A:List Addr} {vs:List V}:At τ ag (.list vs)->(∀p∈σ1,p∈τ)->C7 τ A vs (as.map aV)->A.Nodup->(∀a∈A,a≠ag/\A4 σ1 a)->StQ σ1 ag as τ
theorem StQ.add{σ1 τ τ2 τ3:Sto}{ag:Addr}{as:List (Int×V)}{mk:Int}{t:V}{vs:List V}{A:List Addr}(h1:At τ ag (.list vs))(h2:∀p∈σ1,p∈τ)(h3:C7 τ A vs (as.map aV))(h4:A.Nodup)(h5:∀a∈A,a≠ag/\A4 σ1 a)(hf:A4 σ1 ag)
  {B:List Addr} {Z:V} (k1:∀p∈τ,p∈τ2) (k2:B.Nodup) (k3:∀a∈B,A4 τ a) (k4:Tr τ2 B Z t) (U:C5 τ2 τ3 ag (.list (vs++[.tup [.int mk,Z]]))):StQ σ1 ag (as++[(mk,t)]) τ3:=by
 have hBg:∀a∈B,a≠ag:=λa ha e=>by obtain⟨o,h⟩:=h1;exact k3 a ha _ h e.symm
 have hAB:∀a∈A,∀b∈B,a≠b:=λa ha b hb e=>by
  obtain⟨_,o,h⟩:=h3.at a ha
  exact k3 b hb _ h e
 have t1:C7 τ3 A vs (as.map aV):=h3.mono λa ha x hx=>U.at (by obtain⟨o,hx⟩:=hx;exact⟨o,k1 _ hx⟩) (h5 a ha).1
 have t2:Tr τ3 B Z t:=k4.mono λa ha x hx=>U.at hx (hBg a ha)
 refine .mk (A:=A++B) U.here (λp hp=>U.keep p (k1 p (h2 p hp)) (hf p hp)) ?_ (List.nodup_append.mpr ⟨h4,k2,hAB⟩) λa ha=> ?_
 ·rw[Am]
  exact C7.app (.one (.tup (.cons (A:=[]) (.int mk) (.one t2)))) t1
 ·rcases Ad.mp ha with h|h
  ·exact h5 a h
  ·exact⟨hBg a h,λp hp=>k3 a h p (h2 p hp)⟩
theorem Tr.t2{τ:Sto}{A:List Addr}{v X Y:V}(h0:Tr τ A v (.tup [X,Y])):∃x y B D,v= .tup [x,y]/\A=B++D/\Tr τ B x X/\Tr τ D y Y:=by
 obtain⟨_,e,ha⟩:=h0.inv
 obtain⟨x,_,B,_,e1,e2,h1,h2⟩:=ha.inv
 obtain⟨y,_,D,_,e3,e4,h3,h4⟩:=h2.inv
 obtain⟨e5,e6⟩:=h4.inv
 exact⟨x,y,B,D,by rw[e,e1,e3,e5],by rw[e2,e4,e6,Az],h1,h3⟩
theorem Tr.pickI{τ:Sto}{A:List Addr}{v:V}{rs ys:List V}(h0:Tr τ A v (.tup [.tup [.lst rs,.lst ys],.none])):∃a b us B0 B ws,v= .tup [.tup [.ref a,.ref b],.none]/\A=(B0++[a])++(B++[b])/\At τ a (.list ws)/\C7 τ B0 ws rs/\At τ b (.list us)/\C7 τ B us ys:=by
 obtain⟨x,y,B,D,e,e1,h1,h2⟩:=h0.t2
 obtain⟨e2,e3⟩:=h2.inv
 obtain⟨p,q,E,F,e4,e5,h3,h4⟩:=h1.t2
 obtain⟨a,ws,B0,e6,e7,ha,hw⟩:=h3.inv
 obtain⟨b,us,B1,e8,e9,hb,hu⟩:=h4.inv
 exact⟨a,b,us,B0,B1,ws,by rw[e,e2,e4,e6,e8],by rw[e1,e3,e5,e7,e9,Az],ha,hw,hb,hu⟩
theorem Tr.noneI{τ:Sto}{A:List Addr}{v Z:V}(h0:Tr τ A v (.tup [.none,Z])):∃X,v= .tup [.none,X]/\Tr τ A X Z:=by
 obtain⟨x,y,B,D,e,e1,h1,h2⟩:=h0.t2
 obtain⟨e2,e3⟩:=h1.inv
 exact⟨y,by rw[e,e2],by rw[e1,e3];exact h2⟩
theorem y4L(ps:LI):C7 σ [] (ps.map prV) (ps.map prV):=C7.flat λy hy=>by
 apply z0X hy;intro p _
 exact .tup (Tr.dat λy hy=>by simp at hy;rcases hy with rfl|rfl<;>simp)
theorem y4M(ss:List (G3×Int×Int)):C7 σ [] (ssV ss) (ssV ss):=C7.flat λy hy=>by
 apply z0X hy;intro p _
 exact z8m _
theorem Res.found{σ0 τ τ2:Sto}{ag:Addr}{as:List (Int×V)}{r:LI}{ys:List V}{a b na:Addr}{us ws vs:List V}{B0 B A:List Addr}{o:Obj}(hk:∀p∈σ0,p∈τ)(h1:At τ ag (.list vs))(h3:C7 τ A vs (as.map aV))(h4:A.Nodup)(h5:∀a∈A,a≠ag/\A4 σ0 a)(hf:A4 σ0 ag)
  (k1:∀p∈τ,p∈τ2) (k2:((B0++[a])++(B++[b])).Nodup) (k3:∀c∈(B0++[a])++(B++[b]),A4 τ c) (ha:At τ2 a (.list ws)) (hw:C7 τ2 B0 ws (r.map prV)) (hb:At τ2 b (.list us)) (hu:C7 τ2 B us ys) (hn:A4 τ2 na):
  Res σ0 (cV (.inl (r,.lst (as.map aV)::ys))) (.tup [.tup [.ref a,.ref na],.none]) ((na,o,.list ([.ref ag]++us))::τ2):=by
 have inA:∀c∈A,∃x,At τ c x:=λc hc=>by obtain⟨xs,h⟩:=h3.at c hc;exact⟨_,h⟩
 have in2:∀c x,At τ c x->At τ2 c x:=λc x ⟨o,h⟩=>⟨o,k1 _ h⟩
 have up:∀c x,At τ2 c x->At ((na,o,AO.list ([.ref ag]++us))::τ2) c x:=λc x h=>h.cons _
 have hB0:=λc hc=>k3 c (Ai _ (Ai _ hc))
 have hB:=λc hc=>k3 c (Aj _ (Ai _ hc))
 have hfa:=k3 a (Ai _ (Aj _ (.head _)))
 have n1:=List.nodup_append.mp k2
 have n2:=List.nodup_append.mp n1.2.1
 have neT:∀{c e:Addr} {x},At τ c x->A4 τ e->c≠e:=λh hf=>hf.ne h
 have neN:∀{c:Addr} {x},At τ2 c x->c≠na:=λh=>hn.ne h
 refine .mk ((B0++[a])++(((A++[ag])++B)++[na])) (λp hp=> .tail _ (k1 p (hk p hp))) ?_ ?_ ?_
 ·refine List.nodup_append.mpr ⟨n1.1,List.nodup_append.mpr ⟨List.nodup_append.mpr ⟨List.nodup_append.mpr ⟨h4,Au.mpr ⟨Av,Aw⟩,λc hc e he=>by rw[Af.mp he];exact(h5 c hc).1⟩,n2.1,λc hc e he=> ?_⟩,Au.mpr ⟨Av,Aw⟩,λc hc e he=> ?_⟩,λc hc e he=> ?_⟩
  ·rcases Ad.mp hc with h|h
   ·obtain⟨x,hx⟩:=inA c h;exact neT hx (hB e he)
   ·rw[Af.mp h];exact neT h1 (hB e he)
  ·rw[Af.mp he]
   rcases Ad.mp hc with h|h
   ·rcases Ad.mp h with h|h
    ·obtain⟨x,hx⟩:=inA c h;exact neN (in2 _ _ hx)
    ·rw[Af.mp h];exact neN (in2 _ _ h1)
   ·obtain⟨x,hx⟩:=hu.at c h;exact neN hx
  ·have hcf:A4 τ c:=k3 c (Ai _ hc)
   have hc2:∃x,At τ2 c x:=by
    rcases Ad.mp hc with h|h
    ·obtain⟨x,hx⟩:=hw.at c h;exact⟨_,hx⟩
    ·rw[Af.mp h];exact⟨_,ha⟩
   rcases Ad.mp he with h|h
   ·rcases Ad.mp h with h|h
    ·rcases Ad.mp h with h|h
     ·obtain⟨x,hx⟩:=inA e h;exact(neT hx hcf).symm
     ·rw[Af.mp h];exact(neT h1 hcf).symm
    ·exact n1.2.2 c hc e (Ai _ h)
   ·rw[Af.mp h]
    obtain⟨x,hx⟩:=hc2;exact neN hx
 ·intro c hc
  have f2:A4 τ c->A4 σ0 c:=λh p hp=>h p (hk p hp)
  rcases Ad.mp hc with h|h
  ·exact f2 (k3 c (Ai _ h))
  ·rcases Ad.mp h with h|h
   ·rcases Ad.mp h with h|h
    ·rcases Ad.mp h with h|h
     ·exact(h5 c h).2
     ·rw[Af.mp h];exact hf
    ·exact f2 (hB c h)
   ·rw[Af.mp h];exactλp hp=>hn p (k1 p (hk p hp))
 ·have hT:=Tr.tup (C7.cons (A:=(B0++[a])++(((A++[ag])++B)++[na])) (B:=[]) (.tup (.cons (.ref (up _ _ ha) (hw.mono λc _ x h=>up c x h)) (.one (.ref At.hd (.cons (.ref (up _ _ (in2 _ _ h1)) (h3.mono λc _ x h=>up c x (in2 c x h))) (hu.mono λc _ x h=>up c x h)))))) (.one .none))
  rw[Az] at hT;exact hT
theorem Res.reason{σ0 τ:Sto}{sa nb:Addr}{bs:List (Int×V)}{ss:List (G3×Int×Int)}{us:List V}{A B:List Addr}{o:Obj}(hk:∀p∈σ0,p∈τ)(hs:At τ sa (.list (ssV ss)))(hsf:A4 σ0 sa)(h4:A.Nodup)(h5:∀a∈A,a≠sa/\A4 σ0 a)(hB:B.Sublist A)(hT:C7 τ B us (bs.map aV))(hn:A4 τ nb):
  Res σ0 (cV (.inr (.tup [.str w,.lst (ssV ss),.lst (bs.map aV)]))) (.tup [.none,.tup [.str w,.ref sa,.ref nb]]) ((nb,o,.list us)::τ):=by
 have up:∀c x,At τ c x->At ((nb,o,AO.list us)::τ) c x:=λc x h=>h.cons _
 refine .mk ([sa]++(B++[nb])) (λp hp=> .tail _ (hk p hp)) ?_ ?_ ?_
 ·refine List.nodup_append.mpr ⟨Au.mpr ⟨Av,Aw⟩,List.nodup_append.mpr ⟨hB.nodup h4,Au.mpr ⟨Av,Aw⟩,λc hc e he=> ?_⟩,λc hc e he=> ?_⟩
  ·rw[Af.mp he];obtain⟨x,hx⟩:=hT.at c hc;exact hn.ne hx
  ·rw[Af.mp hc]
   rcases Ad.mp he with h|h
   ·exact(h5 e (hB.subset h)).1.symm
   ·rw[Af.mp h];exact hn.ne hs
 ·intro c hc
  rcases Ad.mp hc with h|h
  ·rw[Af.mp h];exact hsf
  ·rcases Ad.mp h with h|h
   ·exact(h5 c (hB.subset h)).2
   ·rw[Af.mp h];exactλp hp=>hn p (hk p hp)
 ·exact .tup (.cons (A:=[]) .none (.one (.tup (.cons (A:=[]) (.str w) (.cons (A:=[sa]) (.ref (A:=[]) (up _ _ hs) (y4M ss)) (.one (.ref At.hd (hT.mono λc _ x h=>up c x h))))))))
noncomputable def z6d(r1:Stmt)(r2:Expr)(r3:Expr)(r4:Expr):TC:=⟨[.cut [.L 2,.len,.P (.int 0),.K .Gt,.I [.L 0,.L 2,.call (.ref 187) 2,.A 3,.L 3,.P .none,.K .IsNot,.I [.P .none,.L 3,.tup 2,.ret] []] []],.L 2,.call (.type "dict") 1,.A 4,.X r1,.L 5,.len,.P (.int 0),.K .Eq,.I [.L 2,.call (.type "list") 1,.raw r2,.tup 2,.P .none,.tup 2,.ret] [],.L 5,.S 0,.A 6,.L 0,.L 1,.L 2,.L 6,.call (.ref 180) 4,.A 7,.L 0,.L 6,.raw r3,.call (.ref 175) 3,.A 8,.asgL 9,.L 0,.mI 272 "makes",.L 6,.H (.ref 255) 1,.forV 10 [.L 0,.L 1,.L 2,.L 6,.L 10,.L 7,.call (.ref 194) 6,.A 3,.L 3,.P .none,.K .Is,.I [.L 0,.L 1,.L 2,.L 6,.L 10,.tup 2,.lst 1,.B .Add,.call (.ref 199) 3,.asg2 11 3,.L 11,.P .none,.K .IsNot,.I [.L 11,.S 0,.L 9,.lst 1,.L 11,.S 1,.B .Add,.tup 2,.P .none,.tup 2,.ret] []] [],.L 9,.Y "list",.L 10,.L 3,.tup 2,.H (.bi "list.append") 1,.pop],.P .none,.L 6,.L 7,.raw r4,.tup 3,.tup 2,.ret],[.inl r1,.inr r2,.inr r3,.inr r4],[([2],none),([3,0,0],some [0,1]),([6],some [3]),([9],some [1,2])]⟩
theorem gt0(n:Nat):decide (((n+1:Nat):Int)>0)=true:=AE (by exact Int.ofNat_succ_pos n)
theorem y08{one:Int->SR}:∀{l:List Int} {as:List (Int×V)} {x:LI×List V},lpF one l as= .inl x->∃mk∈l,∃y bs,one mk= .inl y/\x=(y.1,.lst bs::y.2)
 |[],_,_,h=>nomatch h
 |mk::l,as,x,h=>by
  have h:(one mk).elim (λx=> .inl (x.1,.lst (as.map aV)::x.2)) (λZ=>lpF one l (as++[(mk,Z)]))= .inl x:=h
  cases e:one mk with
  |inl y=>rw[e] at h;cases h;exact⟨mk,.head _,y,_,e,rfl⟩
  |inr Z=>
   rw[e] at h
   obtain⟨m,hm,r⟩:=y08 (as:=as++[(mk,Z)]) h
   exact⟨m,.tail _ hm,r⟩
theorem y4f{f:LI->SR}{ss:List (G3×Int×Int)}{mk:Int}{y:LI×List V}(h:onF f ps w ss mk= .inl y):osF w mk ss=none/\f (ps++[(w,mk)])= .inl y:=by
 unfold onF at h
 cases e:osF w mk ss with
 |none=>rw[e] at h;exact⟨rfl,h⟩
 |some Z=>rw[e] at h;cases h
theorem sd_len:∀{n:Nat} {ps:LI} {x:LI×List V},sdF es wi n ps= .inl x->x.2.length<=n
 |0,_,_,h=>nomatch h
 |n+1,ps,x,h=>by
  unfold sdF at h
  cases e1:cl0 es ps with
  |some Z=>rw[e1] at h;cases h
  |none=>
   rw[e1] at h
   cases e2:(wtF es wi ps).head? with
   |none=>rw[e2] at h;cases h;exact Nat.zero_le _
   |some w=>
    rw[e2] at h
    cases e3:lpF (onF (sdF es wi n) ps w (ssF es wi ps w)) (z1M es w) [] with
    |inr as=>simp only[Option.elim] at h;rw[e3] at h;cases h
    |inl y=>
     simp only[Option.elim] at h
     rw[e3] at h;cases h
     obtain⟨mk,_,z,bs,h1,rfl⟩:=y08 e3
     exact Bh (sd_len (y4f h1).2)
def StI(a0 a1 a2 a4 a5 a6 a7 a8:V)(ag:Addr)(σ1:Sto)(one:Int->SR)(l:List Int)(j:Nat)(m₀:Loc)(τ₀:Sto):Prop:=∀P:Loc->Sto->Prop,(∀{as:List (Int×V)} {τ':Sto} {v3 v10 v11:Option V},as.length<=j->lpF one l []=lpF one (l.drop j) as->StQ σ1 ag as τ'->P [some a0,some a1,some a2,v3,some a4,some a5,some a6,some a7,some a8,some (.ref ag),v10,v11] τ')->P m₀ τ₀
theorem StI.mk{a0 a1 a2 a4 a5 a6 a7 a8:V}{ag:Addr}{σ1:Sto}{one:Int->SR}{l:List Int}{j:Nat}{as:List (Int×V)}{τ':Sto}{v3 v10 v11:Option V}(x0:as.length<=j)(x1:lpF one l []=lpF one (l.drop j) as)(x2:StQ σ1 ag as τ'):StI a0 a1 a2 a4 a5 a6 a7 a8 ag σ1 one l j [some a0,some a1,some a2,v3,some a4,some a5,some a6,some a7,some a8,some (.ref ag),v10,v11] τ':=λ_ k=>k x0 x1 x2
noncomputable abbrev vB:List Str:=["shop","wish","pairs","reason","picked","waiting","ware","sources","good","against","make","found"]
theorem z9P(H:G1 C)(g:Gd es wi)(n:Nat):∀{σ:Sto} {Q:VP} {ps:LI} {x:V} {Px:Sto->Prop},C1 σ i k kv es->A8 σ x (.list (wi.map z0f)) Px->G5 ps->PkIn es ps->13<=ps.length+n->n<=13->
  (∀v σ',Res σ (cV (sdF es wi n ps)) v σ'->Q v σ')->CW C (d+n+7) (.ref 199) [.ref i,x,.lst (ps.map prV)] σ Q:=by
 induction n with
 |zero=>
  intro σ Q ps x Px S hx pb pi hn hn13 q
  exact absurd (g.l12 ps pb.nd pi) (Nat.not_le_of_lt hn)
 |succ n ih=>
  intro σ Q ps x Px S hx pb pi hn hn13 q
  have h12:=g.l12 ps pb.nd pi
  have h8:=g.ok.len
  have hp12:(ps.map prV).length<=12:=by rw[Ab];exact h12
  refine z0M (G1.kin ‹_›) vB [("len",.bi "len"),("clash",.ref 187),("dict",.type "dict"),("agenda_of",.ref 149),("list",.type "list"),("sources_for",.ref 180),("left_by",.ref 175),("reversed",.type "reversed"),("outside",.ref 194),("settled",.ref 199)] (by kernel_rfl) (vs3 λ_ _ _=>by kernel_rfl) rfl (gA ‹_› [2,24,22,25,12,26,27,18,28,29]) ?_
  intro η hsc
  obtain⟨dx,hin⟩:=S.inst
  refine xG H (z6d _ _ _ _) ?_
  intro F m0
  refine z2n (α:=Option V) (λ_=>cl0 es ps=none) (λv=>[some (.ref i),some x,some (.lst (ps.map prV)),v,none,none,none,none,none,none,none,none]) σ (λK hK hR=> ?_) λv hcl=> ?_
  ·clear ih
   rcases List.eq_nil_or_concat ps with rfl|⟨ps0,⟨w,mk⟩,e⟩
   ·refine LK (z0B (n:=0) (.lst _) rfl (by decide) ?_)
    exact hK _ rfl
   ·rw[List.concat_eq_append] at e
    subst e
    have ecl:cl0 es (ps0++[(w,mk)])=clF es (ps0++[(w,mk)]) w mk:=by unfold cl0;rw[List.getLast?_concat];rfl
    obtain⟨ns,hm⟩:=pi (w,mk) (Aj _ (.head _))
    refine LK (z0B (n:=ps0.length+1) (.lst _) (by rw[Ab,Ag];rfl) (nD hp12 rfl) ?_)
    refine z2H (by exact gt0 _) ?_
    refine LK (fnc (y2Q H S pb hm (λt xs σ' e hr=> ?_) λe=> ?_))
    ·refine hR _ _ _ (λe=>nomatch e) (q _ _ ?_)
     obtain⟨A,a1,a2,a3,a4⟩:=hr
     rw[show sdF es wi (n+1) (ps0++[(w,mk)])= .inr t by show(cl0 es (ps0++[(w,mk)])).elim _ _=_;rw[ecl,e];rfl]
     exact .mk A a1 a2 a3 (.tup (.cons (A:=[]) .none (.one a4)))
    ·exact hK _ (ecl.trans e)
  obtain⟨N,hN,hB,hRw,hRl⟩:=y3Q g pb pi
  have hRz:((agF es wi ps).map V.str).length<=sizeLine:=z0E (Ac hRl hN) (by decide)
  have hpn:((pkV ps).map (·.1)).Nodup:=by rw[z14];exact pb.nd
  refine LK (z44 (.lst _) pb λpa0 opa hfp=> ?_)
  refine LK ?_
  show AS C η vB _ true _ (exec _ η) [some (.ref i),some x,some (.lst (ps.map prV)),v,some (.ref pa0),none,none,none,none,none,none,none] _ _
  refine z10 "ware" ["picked"] [] (z27 (by rw[hsc];kernel_rfl)) (by rw[hsc];kernel_rfl) C3 (.cons LkC.lk .nil) (z0W ?_)
  repeat' with_reducible first|refine z0G ?_|refine z0d ?_|refine z0c ?_|refine z0e ?_|refine z0o ?_|refine z2G (cA ‹_›) ?_|fail
  refine fnc (z6Q H (S.c1 _) (hx.mono λp h=> .tail _ h) g.ok At.hd pb pi hN hB ?_)
  refine⟨_,_,.lst _,hRz,λenv' he=>z1S (f:=id) (t:=wtT ps) (z0j he) trivial _ _ _ (λX hX K hK=> ?_) (λX hX _ K hK=> ?_) ?_⟩
  ·obtain⟨y,hy,rfl⟩:=Ah.mp hX
   clear ih q
   repeat' with_reducible first|refine z0d ?_|refine z0D ?_|fail
   refine z41 H.ns At.hd hpn ?_
   exact z0g hK
  ·with_reducible refine z0d ?_
   exact hK
  rw[Ay,List.map_id,wt_eq]
  with_reducible refine z2K ?_
  have hfl:(wtF es wi ps).length<=100:=Ac (Bc _ _) (Ac hRl hN)
  have hfm:=y1I (es:=es) (wi:=wi) pb
  have hsd:∀{X:SR},(wtF es wi ps).head?.elim (.inl (ps,[])) (λw=>(lpF (onF (sdF es wi n) ps w (ssF es wi ps w)) (z1M es w) []).elim .inl λas=> .inr (.tup [.str w,.lst (ssV (ssF es wi ps w)),.lst ((gdF w es (ssF es wi ps w) as).map aV)]))=X->sdF es wi (n+1) ps=X:=λe=>by
   show(cl0 es ps).elim _ _=_
   rw[hcl];exact e
  generalize wtF es wi ps=wt at hfl hfm hsd
  cases wt with
  |nil=>
   refine LK (z0B (n:=0) (.lst _) rfl (by decide) ?_)
   refine LK (z2z (.lst _) (nD hp12 rfl) (.inr λa oa hfa=> ?_))
   refine LK ?_
   show AT C η vB _ true _ (eval _ η) [some (.ref i),some x,some (.lst (ps.map prV)),v,some (.ref pa0),some (.lst []),none,none,none,none,none,none] _ _
   refine z1Z (z0e ⟨Nat.zero_le _,λb ob hfb=> ?_⟩)
   refine q _ _ ?_
   rw[hsd rfl]
   refine .mk [a,b] (λp h=> .tail _ (.tail _ (.tail _ h))) (Au.mpr ⟨λh=>hfb _ (.head _) (Af.mp h),Au.mpr ⟨Av,Aw⟩⟩) (Aa.mpr ⟨λp hp=>hfa p (.tail _ hp),Aa.mpr ⟨λp hp=>hfb p (.tail _ (.tail _ hp)),λ_ h=>nomatch h⟩⟩) ?_
   exact .tup (.cons (A:=[a,b]) (.tup (.cons (A:=[a]) (.ref (A:=[]) (At.hd.cons _) (y4L ps)) (.one (.ref (A:=[]) At.hd .nil)))) (.one .none))
  |cons w wt=>
  obtain⟨hwR,hfr⟩:=hfm w (.head _)
  have hwW:A7 w:=hRw w hwR
  have hdl:(V.str w::wt.map V.str).length<=sizeLine:=z0E (l:=w::wt) hfl (by decide)
  have hsd:∀{X:SR},(lpF (onF (sdF es wi n) ps w (ssF es wi ps w)) (z1M es w) []).elim .inl (λas=> .inr (.tup [.str w,.lst (ssV (ssF es wi ps w)),.lst ((gdF w es (ssF es wi ps w) as).map aV)]))=X->sdF es wi (n+1) ps=X:=λe=>hsd e
  have hss:=y4n (wi:=wi) (w:=w) pi g.nd
  have hsl:(ssF es wi ps w).length<=80:=by
   have h6:∀p∈ps,(z08 es p).length<=6:=λp hp=>by
    obtain⟨ns,hns⟩:=pi p hp
    rw[show z08 es p=ns from z3Q (g.nd p.1) hns];exact(S.eok p.1).2.2 _ hns
   have h1:=y0T (w:=w) (l:=ps) h6
   have h2:=z3V (w:=w) .wish wi wi.length
   unfold ssF;rw[Ag];exact nD (Bd (Ac h2 h8) (Ac h1 (Bj 6 h12))) rfl
  clear hfm hfl hcl hRz hB hRl hN hRw hwR
  refine LK (z0B (n:=(wt.map V.str).length+1) (.lst (V.str w::wt.map V.str)) rfl hdl ?_)
  refine LK (z42 (k:=0) (X:= .str w) (.lst (V.str w::wt.map V.str)) (by decide) (by decide) rfl ?_)
  refine LK (fnc (z5K H (S.c1 _) (hx.mono λp h=> .tail _ h) h8 pb pi λsa osa hfsa=> ?_))
  generalize ssF es wi ps w=ss at hsd hss hsl⊢
  refine LK ?_
  show AT C η vB _ true _ (eval _ η) [some (.ref i),some x,some (.lst (ps.map prV)),v,some (.ref pa0),some (.lst (V.str w::wt.map V.str)),some (.str w),some (.ref sa),none,none,none,none] _ _
  refine z0H "source" ["shop","wish","picked","ware"] [("stretch_of",.ref 170)] (by rw[hsc];kernel_rfl) (gA H [23]) (.cons LkC.lk (.cons LkC.lk (.cons LkC.lk (.cons LkC.lk .nil)))) (z0W ?_)
  with_reducible refine z0d ?_
  refine⟨_,_,.refL (.head _),z0E hsl (by decide),λenv' he=>z71 (α:=G3×Int×Int) (f:=λp=>srcV p.1) (g:=λp=>V.tup [.int p.2.1,.int p.2.2]) (z0j he) (.head _) _ _ _ (λp hp K hK=> ?_) ?_⟩
  ·clear ih q
   repeat' with_reducible first|refine z0G ?_|refine z0d ?_|refine z0c ?_|refine z0e ?_|refine z0o ?_|refine z2G (cA ‹_›) ?_|fail
   refine fnc (z32 H ((S.c1 _).c1 _) (hx.mono λp h=> .tail _ (.tail _ h)) h8 (At.hd.cons _) pb (hss p hp) ?_)
   exact hK
  rw[Ay,show ss.map (λp=>V.tup [.int p.2.1,.int p.2.2])=(ss.map (·.2)).map λp=> .tup [.int p.1,.int p.2] by rw[AJ];rfl]
  refine LK (fnc (z9M H ((S.c1 _).c1 _) hwW (by rw[Ab];exact nD hsl rfl) ?_))
  intro ag oag hfa
  have hml:=(S.eok w).2.1
  have hsz:=desM_len (es:=es) (w:=w)
  have hfs:A4 ((sa,osa,.list (ssV ss))::(pa0,opa,dS (pkV ps))::σ) ag:=hfa
  have hk0:∀p∈σ,p∈(sa,osa,AO.list (ssV ss))::(pa0,opa,dS (pkV ps))::σ:=λp h=> .tail _ (.tail _ h)
  have hfsa:A4 σ sa:=λp h=>hfsa p (.tail _ h)
  have hsm:(sa,osa,AO.list (ssV ss))∈(sa,osa,AO.list (ssV ss))::(pa0,opa,dS (pkV ps))::σ:= .head _
  refine LK (z0k (((hin.cons _).cons _).cons _) ?_)
  refine LK (fnc (z4W H (((S.c1 _).c1 _).c1 _) hwW (.inl ?_)))
  have h0:StQ ((sa,osa,.list (ssV ss))::(pa0,opa,dS (pkV ps))::σ) ag [] ((ag,oag,.list [])::(sa,osa,.list (ssV ss))::(pa0,opa,dS (pkV ps))::σ):= .mk (A:=[]) At.hd (λp h=> .tail _ h) .nil Aw λ_ h=>nomatch h
  generalize (sa,osa,AO.list (ssV ss))::(pa0,opa,dS (pkV ps))::σ=σ1 at hfs hk0 hsm h0
  refine LK (.mk _ _ (StI (.ref i) x (.lst (ps.map prV)) (.ref pa0) (.lst (V.str w::wt.map V.str)) (.str w) (.ref sa) (.lst ((lfF es w (ss.map (·.2))).map V.int)) ag σ1 (onF (sdF es wi n) ps w ss) (z1M es w)) (.lst _) (.mk (as:=[]) (AN _) rfl h0) (λj X hX m τ' hI QB hQB hQR=> ?_) λm τ' hI=> ?_)
  ·rw[<-List.map_reverse,Al] at hX
   obtain⟨mk,hmk,rfl⟩:=Bw.mp hX
   have hmk:(z1M es w)[j]? =some mk:=hmk
   have hj:j<(es w).length:=hsz▸(An.mp hmk).1
   obtain⟨ns,hm⟩:=z5e (Ak hmk)
   apply hI;intro as τ' v3 v10 v11 hasl hlp T
   refine T.casesOn @λA vs t1 t2 t3 t4 t5=> ?_
   rw[z8V hmk] at hlp
   have hal:vs.length<=sizeLine:=by rw[t3.len];exact z0E (n:=8) (Ac hasl (Ac (AZ hj) hml)) (by decide)
   have S':C1 τ' i k kv es:=S.frame λa _ x ⟨o,h⟩=>⟨o,t2 _ (hk0 _ h)⟩
   have pb':=G5.snoc g pb pi hfr hm
   refine LK (fnc (z9N H S' (hx.mono λp h=>t2 p (hk0 p h)) h8 pb (.refL (t2 _ hsm)) hss (λt xs τ2 eo hr=> ?_) λeo=> ?_))
   ·obtain⟨B,k1,k2,k3,k4⟩:=hr
    have k1a:At τ2 ag (.list vs):=by obtain⟨o,h⟩:=t1;exact⟨o,k1 _ h⟩
    refine LK ⟨tyL k1a,?_⟩
    refine LK (y0e k1a hal λτ3 U=> ?_)
    refine hQB _ _ trivial (.mk (as:=as++[(mk,t)]) (by rw[Ag];exact Bh hasl) (hlp.trans ?_) (StQ.add t1 t2 t3 t4 t5 hfs k1 k2 k3 k4 U))
    show(onF (sdF es wi n) ps w ss mk).elim _ _=_
    unfold onF;rw[eo];rfl
   ·have eon:onF (sdF es wi n) ps w ss mk=sdF es wi n (ps++[(w,mk)]):=by unfold onF;rw[eo];rfl
    refine LK (z1q (.lst _) (.lst _) (z0i (nD (Bh hp12) rfl)) (z2A ?_))
    rw[show ps.map prV++[V.tup [.str w,.int mk]]=(ps++[(w,mk)]).map prV by rw[Am];rfl]
    refine LK (fnc (ih S' (hx.mono λp h=>t2 p (hk0 p h)) pb' (pi.snoc hm) (by rw[Ag];show 13<=ps.length+1+n;rw[Nat.add_assoc,Nat.add_comm 1];exact hn) (Nat.le_of_succ_le hn13) λv τ2 hr=> ?_))
    obtain⟨B,k1,k2,k3,k4⟩:=hr
    cases es2:sdF es wi n (ps++[(w,mk)]) with
    |inl rr=>
     obtain⟨r,ys⟩:=rr
     rw[es2] at k4
     obtain⟨a,b,us,B0,B1,ws,rfl,rfl,ka,kw,kb,ku⟩:=Tr.pickI k4
     clear hQB ih
     have hul:us.length<=100:=by
      rw[ku.len];exact Ac (sd_len es2) (nD (Nat.le_of_succ_le hn13) rfl)
     refine LK (z8x (.lst _) (.refL kb.choose_spec) (z0i (nD (Be hul 1) rfl)) λna ona hfn=> ?_)
     refine hQR _ _ _ (q _ _ ?_)
     rw[hsd (X:= .inl (r,.lst (as.map aV)::ys)) (by rw[hlp];show((onF (sdF es wi n) ps w ss mk).elim _ _:(LI×List V) ⊕ List (Int×V)).elim _ _=_;rw[eon,es2];rfl)]
     exact Res.found (λp h=>t2 p (hk0 p h)) t1 t3 t4 (λc hc=>⟨(t5 c hc).1,λp hp=>(t5 c hc).2 p (hk0 p hp)⟩) (λp hp=>hfs p (hk0 p hp)) k1 k2 k3 ka kw kb ku hfn
    |inr Z=>
     rw[es2] at k4
     obtain⟨X,rfl,kT⟩:=Tr.noneI k4
     have k1a:At τ2 ag (.list vs):=by obtain⟨o,h⟩:=t1;exact⟨o,k1 _ h⟩
     refine LK ⟨tyL k1a,?_⟩
     refine LK (y0e k1a hal λτ3 U=> ?_)
     refine hQB _ _ trivial (.mk (as:=as++[(mk,Z)]) (by rw[Ag];exact Bh hasl) (hlp.trans ?_) (StQ.add t1 t2 t3 t4 t5 hfs k1 k2 k3 kT U))
     show(onF (sdF es wi n) ps w ss mk).elim _ _=_
     rw[eon,es2];rfl
  ·clear ih
   apply hI;intro as τ' v3 v10 v11 hasl hlp T
   have hle:((z2u ((es w).map (·.1))).map V.int).reverse.length=(z1M es w).length:=by unfold z1M;rw[List.length_reverse,Ab,List.length_reverse]
   rw[hle] at hasl hlp
   rw[List.drop_length] at hlp
   rw[hsz] at hasl
   refine T.casesOn @λA vs t1 t2 t3 t4 t5=> ?_
   obtain⟨B,hBs,hT,hv⟩:=C7.filt (gs:=lfF es w (ss.map (·.2))) t3
   have hvl:vs.length<=sizeLine:=by rw[t3.len];exact z0E (n:=8) (Ac hasl hml) (by decide)
   obtain⟨oa,hat⟩:=t1
   refine LK ?_
   show AT C η vB _ true _ (eval _ η) [some (.ref i),some x,some (.lst (ps.map prV)),v3,some (.ref pa0),some (.lst (V.str w::wt.map V.str)),some (.str w),some (.ref sa),some (.lst ((lfF es w (ss.map (·.2))).map V.int)),some (.ref ag),v10,v11] _ _
   refine y3t (z9r "pair" ["good"] [] (by rw[hsc];kernel_rfl) C3 (.cons LkC.lk .nil) (z0W ?_))
   with_reducible refine z0d ?_
   refine⟨_,_,.refL hat,hvl,λenv' he=>z1S (f:=id) (t:=fsB (lfF es w (ss.map (·.2)))) (z0j he) hat _ _ _ (λX hX K hK=> ?_) (λX hX _ K hK=> ?_) ?_⟩
   ·obtain⟨mk,Z,rfl⟩:=hv X hX
    clear q
    repeat' with_reducible first|refine z1f ?_|refine z0d ?_|refine z0n ?_|refine z0u ?_|refine z0D ?_|fail
    refine z3H ?_
    repeat' first|(with_reducible refine z0d ?_)|fail
    refine y3z (.lst _) ?_
    exact z0g hK
   ·with_reducible refine z0d ?_
    exact hK
   rw[Ay,List.map_id]
   intro nb onb hnd
   refine q _ _ ?_
   rw[hsd (X:= .inr (.tup [.str w,.lst (ssV ss),.lst ((gdF w es ss as).map aV)])) (by rw[hlp];rfl)]
   exact Res.reason (λp h=>t2 p (hk0 p h)) ⟨_,t2 _ hsm⟩ hfsa t4 (λc hc=>⟨λe=>(t5 c hc).2 _ hsm e.symm,λp hp=>(t5 c hc).2 p (hk0 p hp)⟩) hBs hT (z7g hnd)
noncomputable def t_settle:TC:=⟨[.L 1,.call (.ref 142) 1,.pop,.L 0,.L 1,.lst 0,.call (.ref 199) 3,.asg2 2 3,.L 2,.P .none,.K .Is,.I [.P (.str "none"),.L 3,.tup 2,.ret] [],.P (.str "pick"),.L 2,.S 0,.L 2,.S 1,.tup 3,.ret],[],[]⟩
noncomputable def stV:SR->V:=Sum.elim (λx=> .tup [.str "pick",.lst (x.1.map prV),.lst x.2]) λZ=> .tup [.str "none",Z]
noncomputable def stF(es:ES)(wi:List z0b):V:=stV (sdF es wi 13 [])
theorem G5.nil:G5 []:=⟨Aw,by decide,λ_ h=>nomatch h⟩
theorem y1G(H:G1 C)(g:Gd es wi)(S:C1 σ i k kv es){x:V}{Px:Sto->Prop}(hx:A8 σ x (.list (wi.map z0f)) Px)(q:∀v σ',Res σ (stF es wi) v σ'->Q v σ'):CW C (d+21) (.ref 206) [.ref i,x] σ Q:=by
 refine z0M (G1.kin ‹_›) ["shop","wish","found","reason"] [("need_wish",.ref 142),("settled",.ref 199)] (by kernel_rfl) (vs2 λ_ _=>by kernel_rfl) rfl (gA ‹_› [30,29]) ?_
 intro η hsc
 clear hsc
 refine xG H t_settle ?_
 intro F m0
 refine LK (fnc (z4G H hx g.ok ?_))
 refine LK (fnc (z9P (d:=d) H g 13 (ps:=[]) S hx G5.nil (λ_ h=>nomatch h) (by decide) (by decide) λv σ' hr=> ?_))
 obtain⟨A,k1,k2,k3,k4⟩:=hr
 unfold stF at q
 cases e:sdF es wi 13 [] with
 |inl rr=>
  obtain⟨r,ys⟩:=rr
  rw[e] at k4 q
  obtain⟨a,b,us,B0,B1,ws,rfl,rfl,ka,kw,kb,ku⟩:=Tr.pickI k4
  exact q _ _ (.mk _ k1 k2 k3 (.tup (.cons (A:=[]) (.str _) (.cons (.ref ka kw) (.one (.ref kb ku))))))
 |inr Z=>
  rw[e] at k4 q
  obtain⟨X,rfl,kT⟩:=Tr.noneI k4
  exact q _ _ (.mk A k1 k2 k3 (.tup (.cons (A:=[]) (.str _) (.one kT))))
theorem z9O(H:G1 C)(g:Gd es wi)(S:C1 σ i k kv es){x:V}{Px:Sto->Prop}(hx:A8 σ x (.list (wi.map z0f)) Px)(q:Q (stF es wi) σ):CW C (d+21) (.ref 206) [.ref i,x] σ Q:=y3v q (y1G H g S hx λ_ _ h=>h)
def NxI(w:Str)(a b:Addr)(ns:List z0b)(σ:Sto)(i:Nat)(m₀:Loc)(τ₀:Sto):Prop:=∀P:Loc->Sto->Prop,(∀{o:Obj} {x:Option V},(w::(ns.take i).map (·.1)).Nodup->P [some (.str w),some (.ref a),some (.ref b),x] ((b,o,dS (mtV w (ns.take i)))::σ))->P m₀ τ₀
theorem NxI.mk{w:Str}{a b:Addr}{ns:List z0b}{σ:Sto}{i:Nat}{o:Obj}{x:Option V}(x0:(w::(ns.take i).map (·.1)).Nodup):NxI w a b ns σ i [some (.str w),some (.ref a),some (.ref b),x] ((b,o,dS (mtV w (ns.take i)))::σ):=λ_ k=>k x0
section
variable {mk:Int}
noncomputable abbrev veM:List Value:=[.type "ValueError",.type "Exception",.type "BaseException",.type "object"]
theorem z9E(H:G1 C):PyProof.Rows.OwnCls "BadWish" 109 veM "ValueError.__new__" C.mg C.base:=H.own _ _ _ _ rfl (by kernel_rfl)
theorem z50(H:G1 C):PyProof.Rows.OwnCls "BadNeed" 61 veM "ValueError.__new__" C.mg C.base:=H.own _ _ _ _ rfl (by kernel_rfl)
theorem y2y(H:G1 C):PyProof.Rows.OwnCls "Twice" 73 veM "ValueError.__new__" C.mg C.base:=H.own _ _ _ _ rfl (by kernel_rfl)
theorem y1k(H:G1 C):PyProof.Rows.OwnCls "Full" 85 veM "ValueError.__new__" C.mg C.base:=H.own _ _ _ _ rfl (by kernel_rfl)
theorem y1l(H:G1 C):PyProof.Rows.OwnCls "NoMake" 97 veM "ValueError.__new__" C.mg C.base:=H.own _ _ _ _ rfl (by kernel_rfl)
theorem z2E{η:Env}{ν:List Str}{gl:LV}{m:Loc}{Q:FP}{x:Str}{np cpos pos tp:Pos}{t:Str}{k:Nat}{a:Addr}(O:PyProof.Rows.OwnCls x a veM "ValueError.__new__" C.mg C.base)[h:GInC gl x (.ref a)](q:EQ (.ref a) σ):
  SE C η ν gl d (execs [.Raise (some (.Call (.Name x np) [.Constant (.str t) k tp] [] cpos)) none pos] η) m σ Q EQ:=z0h (y0t O F.excBase_ValueError h.mem q)
theorem z8z{f:Value}{xs:List V}(h:CE C d f xs σ (λx σ'=>∃τ,τ.Sublist σ'/\Q x τ) λc σ'=>∃τ,τ.Sublist σ'/\EQ c τ):CE C d f xs σ Q EQ:=λA G D s vs l hA F R hv=>codeAny_mono (h A G D s vs l hA F R hv) λr s' q=>by
 cases r with
 |error e=>obtain⟨c,σ',⟨τ,hs,hq⟩,f⟩:=q;exact⟨c,τ,hq,f.drop hs⟩
 |ok fl=>
  cases fl<;>first|exact q.elim|skip
  obtain⟨x,D',σ',dx,hx,R',τ,hs,q⟩:=q
  exact⟨x,D',τ,dx,hx,R'.drop hs,q⟩
theorem z6R(H:G1 C){x:V}{wi:List z0b}{Px:Sto->Prop}(hx:A8 σ x (.list (wi.map z0f)) Px)(h9:8<wi.length)(hl:wi.length<=100)(e:EQ (.ref 109) σ):CE C (d+3) (.ref 142) [x] σ Q EQ:=by
 refine z40 (G1.kin ‹_›) ["wish"] [("isinstance",.bi "isinstance"),("list",.type "list"),("len",.bi "len"),("MOST_WISHES",.int 8),("all",.bi "all"),("BadWish",.ref 109)] (by kernel_rfl) (vs1 λ_=>by kernel_rfl) rfl (gA ‹_› [0,12,2,13,4,14]) ?_
 intro η hsc
 clear hsc
 refine z0h (z2l ?_)
 show AB C η ["wish"] _ true _ _ [some x] σ _
 repeat' with_reducible first|refine z0G ?_|refine z1V ?_|refine z3D ?_|refine z34 ?_|refine z0D ?_|refine z3s ?_|refine z0d ?_|refine z0c ?_|refine z0e ?_|refine z0o ?_|refine z2S ?_|fail
 refine z3O (k:= .lst) hx ?_
 refine z0g ⟨λhb=>ff hb,λ_=> ?_⟩
 repeat' with_reducible first|refine z0G ?_|refine z3D ?_|refine z0D ?_|refine z0d ?_|refine z0c ?_|refine z0e ?_|refine z0o ?_|refine z2S ?_|fail
 refine z0B (n:=wi.length) hx (Ab _) (z0E hl (by decide)) ?_
 with_reducible refine z0o ?_
 refine y3y (z0g ⟨λhb=>⟨λ_=>z2E (z9E H) e,λhb=>tf hb⟩,λhb=>absurd (AW hb) (λh=>h (by exact Int.lt_of_toNat_lt h9))⟩)
noncomputable def z1Q(r1:Stmt):TC:=⟨[.L 3,.call (.ref 130) 1,.V,.not,.M .Or [.L 3,.S 0,.L 2,.K .In,.M .Or [.P (.bool false)]],.I [.X r1] [],.P (.bool true),.L 2,.L 3,.S 0,.setI],[.inl r1],[([0,0,0],none)]⟩
def z5O(w:Str)(ns:List z0b):Prop:=6<ns.length∨¬(w::ns.map (·.1)).Nodup
theorem y1c{j:Nat}{n:z0b}(h:ns[j]? =some n):mtV w (ns.take j)++[(n.1,.bool true)]=mtV w (ns.take (j+1)):=by unfold mtV;rw[z1s h,Am];rfl
theorem z5I(H:G1 C){a:Addr}(hat:At σ a (.list (ns.map z0f)))(hno:∀n∈ns,A9 n)(hl:ns.length<=20)(hb:z5O w ns)(e:EQ (.ref 61) σ):CE C (d+3) (.ref 213) [.str w,.ref a] σ Q EQ:=by
 refine z8z ?_
 refine z40 (G1.kin ‹_›) vJ [("isinstance",.bi "isinstance"),("list",.type "list"),("len",.bi "len"),("MOST_NEEDS",.int 6),("BadNeed",.ref 61),("is_need",.ref 130)] (by kernel_rfl) (vs2 λ_ _=>by kernel_rfl) rfl (gA ‹_› [0,12,2,31,32,15]) ?_
 intro η hsc
 clear hsc
 obtain⟨oa,hm⟩:=hat
 show SE C η vJ _ _ _ [some (.str w),some (.ref a),none,none] σ _ _
 refine z0h (z2l ?_)
 show AB C η vJ _ true _ _ [some (.str w),some (.ref a),none,none] σ _
 repeat' with_reducible first|refine z0G ?_|refine z1V ?_|refine z3D ?_|refine z34 ?_|refine z0D ?_|refine z3s ?_|refine z0d ?_|refine z0c ?_|refine z0e ?_|refine z0o ?_|refine z2S ?_|fail
 refine z3O (k:= .lst) (.refL hm) ?_
 refine z0g ⟨λhb=>ff hb,λ_=> ?_⟩
 repeat' with_reducible first|refine z0G ?_|refine z3D ?_|refine z0D ?_|refine z0d ?_|refine z0c ?_|refine z0e ?_|refine z0o ?_|refine z2S ?_|fail
 refine z0B (n:=ns.length) (.refL hm) (Ab _) (z0E hl (by decide)) ?_
 with_reducible refine z0o ?_
 refine y3y (z0g ⟨λhb=>⟨λ_=>z2E (z50 H) ⟨σ,.refl _,e⟩,λhb=>tf hb⟩,λh6=>z4X ⟨λh=>ff h,λ_=>z1l ?_⟩⟩)
 have h6:¬6<ns.length:=λh=>AW h6 (by exact Int.lt_of_toNat_lt h)
 have hnd:¬(w::ns.map (·.1)).Nodup:=hb.resolve_left h6
 refine z0h (z1E (z1F (z6V (KK.str C.prog C.w) λb o hf=> ?_)))
 show AT C η vJ _ true _ _ [some (.str w),some (.ref a),none,none] _ _
 repeat' with_reducible first|refine z0d ?_|refine z6j ?_
 refine⟨w,rfl,rfl,λo'=> ?_⟩
 with_reducible refine z2K ?_
 refine z0h (z8L (NxI w a b ns σ) (z0W ?_))
 with_reducible refine z0d ?_
 refine⟨_,_,.refL (.tail _ hm),.mk (Au.mpr ⟨Av,Aw⟩),λj X hX m τ hI QB hQB hQR=> ?_,λm τ hI=> ?_⟩
 ·rw[Al] at hX
  apply z0Z hX;intro n hn
  apply hI;intro o x hnj
  have hj:=(An.mp hn).1
  have hkn:((mtV w (ns.take j)).map (·.1)).Nodup:=by rw[z3P];exact hnj
  have hno:=hno n (Ak hn)
  have hz:(mtV w (ns.take j)).length<=sizeLine:=z0i (by unfold mtV;rw[Aq,Ab,AR];exact nD (Bh (Ac (Nat.min_le_right _ _) hl)) rfl)
  with_reducible refine z0w PutC.put ?_
  by_cases hin:n.1∈w::(ns.take j).map (·.1)
  ·refine z0h (z2l ?_)
   show AB C η vJ _ true _ _ [some (.str w),some (.ref a),some (.ref b),some (z0f n)] _ _
   repeat' with_reducible first|refine z0G ?_|refine z1V ?_|refine z3D ?_|refine z34 ?_|refine z3s ?_|refine z0d ?_|refine z0c ?_|refine z0e ?_|refine z0o ?_|refine z2G (cA ‹_›) ?_|fail
   refine fnc (z3j H hno ?_)
   refine z0g ⟨λhb=>ff hb,λ_=> ?_⟩
   unfold z0f
   repeat' with_reducible first|refine z1f ?_|refine z3D ?_|refine z0D ?_|refine z0d ?_|refine z0n ?_|refine z0u ?_|refine z3H ?_|fail
   refine z38 H.ns At.hd hkn (z0g ⟨λhb=>⟨λ_=>z2E (z50 H) ⟨σ,As _ _,e⟩,λhb=>tf hb⟩,λhb=> ?_⟩)
   rw[<-z3P (w:=w)] at hin
   obtain⟨p,hp,ep⟩:=Ah.mp hin
   rw[show vAt (mtV w (ns.take j)) n.1=some p.2 from z0R hkn (by rw[<-ep];exact hp)] at hb
   exact tf hb
  ·refine z1E (xG H (z1Q _) ?_)
   intro F m0
   refine LK (fnc (z3j H hno ?_))
   refine LK (z38 H.ns At.hd hkn (z0g ?_))
   have hnew:n.1∉(mtV w (ns.take j)).map (·.1):=by rw[z3P];exact hin
   rw[z0U hnew]
   refine LK (z8M hkn hz λo'=> ?_)
   rw[z15 hnew,y1c hn]
   refine hQB _ _ (.tail _ hm) (.mk ?_)
   rw[z1s hn,Am]
   exact z0Y hnj hin
 ·apply hI;intro o x hnj
  rw[Ab,AU] at hnj
  exact absurd hnj hnd
theorem y4H{η:Env}{ν:List Str}{gl:LV}{m:Loc}{P:VP}{x:Str}{np p:Pos}{e:Expr}{rest:List Expr}{ad:Addr}[hx:GInC gl x (.ref ad)](hF:z1g C (.ref ad))(h:AL C η ν gl true d (spliced (backTo p (starEach (e::rest) η))) m σ λXs σ₂=>CE C d (.ref ad) Xs σ₂ P EQ)
  (he:autoParam (starEach (e::rest) η=(false,eval e η)::starEach rest η) auR) (hplain:autoParam ((backTo p (starEach rest η)).any (·.1)=false) auR):
  TE C η ν gl d (eval (.Call (.Name x np) (e::rest) [] p) η) m σ P EQ:=y1Y hx.mem hF (z05 h) he hplain
noncomputable def z2N(r1:Stmt)(r2:Stmt):TC:=⟨[.L 1,.call (.ref 116) 1,.V,.not,.I [.X r1] [],.L 2,.call (.ref 123) 1,.V,.not,.I [.X r2] []],[.inl r1,.inl r2],[([0,0,0],none),([1,0,0],none)]⟩
noncomputable def z2O(r1:Stmt)(r2:Stmt):TC:=⟨[.L 1,.call (.ref 116) 1,.V,.not,.I [.X r1] [],.L 2,.call (.ref 123) 1,.V,.not,.I [.X r2] [],.L 1,.L 3,.call (.ref 213) 2,.pop],[.inl r1,.inl r2],[([0,0,0],none),([1,0,0],none)]⟩
noncomputable def z2P(r1:Stmt)(r2:Stmt)(r3:Stmt):TC:=⟨[.L 1,.call (.ref 116) 1,.V,.not,.I [.X r1] [],.L 2,.call (.ref 123) 1,.V,.not,.I [.X r2] [],.L 1,.L 3,.call (.ref 213) 2,.pop,.L 0,.mI 272 "has",.L 1,.L 2,.H (.ref 234) 2,.V,.I [.X r3] []],[.inl r1,.inl r2,.inl r3],[([0,0,0],none),([1,0,0],none),([3,0,0],none)]⟩
noncomputable def z2Q(r1:Stmt)(r2:Stmt)(r3:Stmt)(r4:Stmt):TC:=⟨[.L 1,.call (.ref 116) 1,.V,.not,.I [.X r1] [],.L 2,.call (.ref 123) 1,.V,.not,.I [.X r2] [],.L 1,.L 3,.call (.ref 213) 2,.pop,.L 0,.mI 272 "has",.L 1,.L 2,.H (.ref 234) 2,.V,.I [.X r3] [],.cut [.L 1,.L 0,.att 272 "kept",.K .NotIn,.M .And [.L 0,.att 272 "kept",.len,.P (.int 12),.K .Eq,.M .And [.P (.bool true)]],.I [.X r4] []]],[.inl r1,.inl r2,.inl r3,.inl r4],[([0,0,0],none),([1,0,0],none),([3,0,0],none),([4,0,0],none)]⟩
inductive PutX(es:ES)(kv:LA)(w:Str)(mk:Int)(ns:List z0b):Addr->Prop
 |need:z5O w ns->PutX es kv w mk ns 61
 |twice:B4 w ns->mk∈(es w).map (·.1)->PutX es kv w mk ns 73
 |full:B4 w ns->mk∉(es w).map (·.1)->w∉kv.map (·.1)->kv.length=12->PutX es kv w mk ns 85
 |full8:B4 w ns->mk∉(es w).map (·.1)->(w∉kv.map (·.1)->kv.length≠12)->(es w).length=8->PutX es kv w mk ns 85
theorem z6S(H:G1 C){nl c:Addr}(S:C1 σ i k kv es)(hw:A7 w)(h1:1<=mk)(h2:mk<=999)(hnl:At σ nl (.list (ns.map z0f)))(hno:∀n∈ns,A9 n)(hl:ns.length<=20)(hx:PutX es kv w mk ns c)(e:EQ (.ref c) σ):CE C (d+4) (.ref 241) [.ref i,.str w,.int mk,.ref nl] σ Q EQ:=by
 refine z8z ?_
 have e:∃τ,τ.Sublist σ/\EQ (.ref c) τ:=⟨σ,.refl _,e⟩
 obtain⟨dx,hin⟩:=S.inst
 have hk:=S.kept
 have hkn:=S.kn
 have hen:=S.en w
 have hkz:(kvV kv).length<=sizeLine:=z0E S.kl (by decide)
 have hez:(esV (es w)).length<=sizeLine:=z0E (S.eok w).2.1 (by decide)
 refine z40 (G1.kin ‹_›) vG [("is_ware",.ref 116),("BadWare",.ref 37),("is_make",.ref 123),("BadMake",.ref 49),("need_needs",.ref 213),("Twice",.ref 73),("len",.bi "len"),("MOST_WARES",.int 12),("Full",.ref 85),("MOST_MAKES",.int 8),("list",.type "list")] (by kernel_rfl) (vs4 λ_ _ _ _=>by kernel_rfl) rfl (gA ‹_› [10,33,11,34,35,36,2,37,38,39,12]) ?_
 intro η hsc
 clear hsc
 show SE C η vG _ _ _ [some (.ref i),some (.str w),some (.int mk),some (.ref nl)] σ _ _
 cases hx with
 |need hb=>
  refine z0x 2 (xG H (z2N _ _) ?_)
  intro F m0
  refine LK (fnc (z1d H hw ?_))
  refine LK (fnc (z1c H h1 h2 ?_))
  show SE C η vG _ _ _ [some (.ref i),some (.str w),some (.int mk),some (.ref nl)] σ _ _
  refine z0h (z46 (y4H (cA H) ?_))
  repeat' with_reducible first|refine z0G ?_|refine z0d ?_|refine z0c ?_|refine z0e ?_|fail
  exact z5I H hnl hno hl hb e
 |twice hns hm=>
  obtain⟨p,hp,ep⟩:=Ah.mp hm
  have hv:vAt (esV (es w)) mk=some (.lst (p.2.map z0f)):=z0R hen (Ah.mpr ⟨p,hp,by rw[<-ep]⟩)
  refine z0x 3 (xG H (z2O _ _) ?_)
  intro F m0
  refine LK (fnc (z1d H hw ?_))
  refine LK (fnc (z1c H h1 h2 ?_))
  refine LK (fnc (z1U H hnl hns ?_))
  show SE C η vG _ _ _ [some (.ref i),some (.str w),some (.int mk),some (.ref nl)] σ _ _
  refine z0h (z2l ?_)
  refine z3s (z4Z (z3z H) ?_)
  with_reducible refine z0d ?_
  refine z0k hin ?_
  repeat' with_reducible first|refine z0G ?_|refine z0d ?_|refine z0c ?_|refine z0e ?_|fail
  refine fnc (z5v H S hw h1 h2 ?_)
  rw[hv]
  exact z0g ⟨λ_=>z2E (y2y H) e,λhb=>tf hb⟩
 |full hns hm hkw hk12=>
  have hv:vAt (esV (es w)) mk=none:=z0U (by rw[z0L];exact hm)
  refine z0x 4 (xG H (z2P _ _ _) ?_)
  intro F m0
  refine LK (fnc (z1d H hw ?_))
  refine LK (fnc (z1c H h1 h2 ?_))
  refine LK (fnc (z1U H hnl hns ?_))
  refine LK (z0k hin ?_)
  refine LK (fnc (z5v H S hw h1 h2 ?_))
  rw[hv]
  show SE C η vG _ _ _ [some (.ref i),some (.str w),some (.int mk),some (.ref nl)] σ _ _
  refine z0h (z2l ?_)
  repeat' with_reducible first|refine z1V ?_|refine z7Y ?_|refine z0D ?_|refine z0d ?_|fail
  refine z1B (z2d H) ?_
  with_reducible refine z0d ?_
  refine z0y hin ?_
  refine z41 H.ns hk hkn ?_
  rw[z0U (by rw[z0Q];exact hkw)]
  refine z0g ⟨λ_=> ?_,λhb=>tf hb⟩
  repeat' with_reducible first|refine z0G ?_|refine z7Y ?_|refine z0D ?_|refine z0d ?_|refine z0c ?_|refine z0o ?_|refine z2S ?_|fail
  refine z1B (z2d H) ?_
  with_reducible refine z0d ?_
  refine z0y hin ?_
  with_reducible refine z0e ?_
  refine z4L H.ns hk hkn hkz ?_
  with_reducible refine z0o ?_
  refine y3w (z0g ⟨λ_=>z5L ⟨λ_=>z2E (y1k H) e,λhb=>tf hb⟩,λhb=>absurd (AW hb) λh=>h (by rw[Ab,hk12];rfl)⟩)
 |full8 hns hm hkw h8=>
  have hv:vAt (esV (es w)) mk=none:=z0U (by rw[z0L];exact hm)
  refine z0x 5 (xG H (z2Q _ _ _ _) ?_)
  intro F m0
  refine LK (fnc (z1d H hw ?_))
  refine LK (fnc (z1c H h1 h2 ?_))
  refine LK (fnc (z1U H hnl hns ?_))
  refine LK (z0k hin ?_)
  refine LK (fnc (z5v H S hw h1 h2 ?_))
  rw[hv]
  refine z8T [some (.ref i),some (.str w),some (.int mk),some (.ref nl)] σ (λK hK _=> ?_) ?_
  ·refine LK (z0y hin ?_)
   refine LK (z41 H.ns hk hkn (z0g ?_))
   refine z0p (λhb=> ?_) λ_=>hK
   refine LK (z0y hin ?_)
   refine LK (z4L H.ns hk hkn hkz ?_)
   refine z1o (AX λe=>hkw (λhm=> ?_) (by rw[<-Ab];exact Br e)) hK
   obtain⟨p,hp,rfl⟩:=Ah.mp hm
   rw[z0R hkn (Ah.mpr ⟨p,hp,rfl⟩)] at hb
   cases hb
  show SE C η vG _ _ _ [some (.ref i),some (.str w),some (.int mk),some (.ref nl)] σ _ _
  refine z0h (z2l ?_)
  repeat' with_reducible first|refine z0D ?_|refine z0c ?_|refine z0o ?_|refine z2S ?_|fail
  refine z3c M_get (z1B (z2d H) ?_)
  with_reducible refine z0d ?_
  refine z0y hin ?_
  refine⟨tyD hk,?_⟩
  repeat' with_reducible first|refine z0G ?_|refine z0d ?_|refine z0c ?_|fail
  refine z3E λb ob hfb=> ?_
  with_reducible refine z0e ?_
  refine z4O H S λc hc=> ?_
  with_reducible refine z0e ?_
  refine z4K H.ns hc hen hez ?_
  with_reducible refine z0o ?_
  refine y3w (z0g ⟨λ_=>z2E (y1k H) (by obtain⟨τ,hs,e⟩:=e;exact⟨τ,hs.cons _,e⟩),λhb=>absurd (AW hb) λh=>h (by rw[Ab,h8];rfl)⟩)
theorem y2R(H:G1 C)(S:C1 σ i k kv es)(hw:A7 w)(h1:1<=mk)(h2:mk<=999)(hm:mk∉(es w).map (·.1))(e:EQ (.ref 97) σ):CE C (d+3) (.ref 248) [.ref i,.str w,.int mk] σ Q EQ:=by
 obtain⟨dx,hin⟩:=S.inst
 have hv:vAt (esV (es w)) mk=none:=z0U (by rw[z0L];exact hm)
 refine z40 (G1.kin ‹_›) vR [("NoMake",.ref 97)] (by kernel_rfl) (vs3 λ_ _ _=>by kernel_rfl) rfl (gA ‹_› [40]) ?_
 intro η hsc
 clear hsc
 show SE C η vR _ _ _ [some (.ref i),some (.str w),some (.int mk)] σ _ _
 refine z0h (z2l ?_)
 refine z34 (z3s (z4Z (z3z H) ?_))
 with_reducible refine z0d ?_
 refine z0k hin ?_
 repeat' with_reducible first|refine z0G ?_|refine z0d ?_|refine z0c ?_|refine z0e ?_|fail
 refine fnc (z5v H S hw h1 h2 ?_)
 rw[hv]
 exact z0g ⟨λ_=>z2E (y1l H) e,λhb=>tf hb⟩
end
noncomputable def z6b(r1:Expr):TC:=⟨[.P (.int 1),.L 0,.len,.tcm2 .LtE [.P (.int 999),.call (.type "str") 1,.len,.K .LtE],.not,.M .Or [.L 0,.S 0,.P (.str "0"),.K .Eq,.M .Or [.P (.bool false)]],.I [.P .none,.ret] [],.raw r1,.call (.bi "all") 1,.V,.not,.I [.P .none,.ret] [],.L 0,.call (.type "int") 1,.ret],[.inr r1],[([1],some [0,1])]⟩
noncomputable def z5E(c:Nat):Bool:=decide (48<=c)&&decide (c<=57)
theorem fig_small:∀c<128,(!(Builtin.Str.occurrences ("0123456789":Str) ⟨#[c]⟩ 0 (Str.length "0123456789") 1).isEmpty)=z5E c:=by decide+kernel
noncomputable def z5f(x:Str):Bool:=decide (1<=x.length)&&(decide (x.length<=3)&&(!((⟨#[x.cps.getD 0 0]⟩:Str)==("0":Str))&&x.cps.toList.all z5E))
noncomputable def maF(x:Str):Option Int:=if z5f x then some (PySem.NumText.digitsVal x.cps.toList:Int) else none
noncomputable def optI:Option Int->V
 |some n=> .int n
 |none=> .none
noncomputable def figV:V->V
 | .str x=> .bool (z5E (x.cps.getD 0 0))
 |v=>v
theorem z9J(x:Str):(z1a x).map figV=(x.cps.toList.map z5E).map V.bool:=by simp[z1a,figV]
theorem e999:(Str.ofString (toString (999:Int))).length=3:=by decide+kernel
theorem z1Y(H:G1 C){x:Str}(hx:Asc x)(q:Q (optI (maF x)) σ):CW C (d+1) (.ref 281) [.str x] σ Q:=by
 refine z0M (G1.kin ‹_›) ["word"] [("len",.bi "len"),("str",.type "str"),("MOST_MAKE",.int 999),("all",.bi "all"),("int",.type "int")] (by kernel_rfl) (vs1 λ_=>by kernel_rfl) rfl (gA ‹_› [2,1,8,4,6]) ?_
 intro η hsc
 have hxs:x.length<=sizeLine:=z0i (nD hx.1 rfl)
 have q0:z5f x=false->Q .none σ:=λh=>by unfold maF at q;rw[h] at q;exact q
 refine xG H (z6b _) ?_
 intro F m0
 refine LK (z6l hxs ?_)
 refine z0p (λh1=> ?_) λh1=> ?_
 rotate_left
 ·exact q0 (by unfold z5f;rw[AX (λh=>AW h1 (Bk.mpr h))];rfl)
 have h1:1<=x.length:=Bk.mp (AD h1)
 obtain⟨t9,et9,el9⟩:∃t:Str,Str.ofString (toString (999:Int))=t/\t.length=3:=⟨_,rfl,e999⟩
 refine LK (z1L (AG (Nat.log2_le_self _) (by decide)) ?_)
 rw[et9]
 refine LK (z6l (by rw[el9];decide) ?_)
 rw[el9]
 refine z0p (λh3=> ?_) λh3=> ?_
 ·exact q0 (by unfold z5f;rw[AX (λh=>AW ((Bool.not_eq_true' _).mp h3) (Bk.mpr h)),Bool.false_and,Bool.and_false])
 have h3:x.length<=3:=Bk.mp (AD ((Bool.not_eq_false' _).mp h3))
 have hc:x.cps[0]? =some (x.cps.getD 0 0):=by
  have:0<x.cps.size:=h1
  rw[Array.getD_eq_getD_getElem?,Array.getElem?_eq_getElem this];rfl
 refine LK (y0c (by decide) (by decide) hc ?_)
 refine z0p (λh0=> ?_) λh0=> ?_
 ·exact q0 (by unfold z5f;rw[h0,Bool.not_true,Bool.false_and,Bool.and_false,Bool.and_false])
 refine LK ?_
 show AT C η ["word"] _ true _ (eval _ η) [some (.str x)] _ _
 refine z0H "sign" [] [("FIGURES",.str "0123456789")] (by rw[hsc];kernel_rfl) (gA H [42]) .nil (z9S (z0d ⟨x,rfl,by rw[z55];exact hxs,λenv' he=>z0N (f:=figV) (z0j he) trivial _ _ _ (λX hX K hK=> ?_) ?_⟩))
 ·obtain⟨c,hc,rfl⟩:=z56 hX
  repeat' with_reducible first|refine z0d ?_|refine z0o ?_|refine z6i ?_|refine y2Y ?_
  rw[fig_small c (hx.2 c hc)];exact hK
 rw[Ay,z9J]
 refine LK (z8C (.lst _) ?_)
 rw[show(x.cps.toList.map z5E).all id=x.cps.toList.all z5E by rw[List.all_map];rfl]
 have hd:z5f x=x.cps.toList.all z5E:=by unfold z5f;rw[AE h1,AE h3,h0];rfl
 refine z0p (λhb=> ?_) λhb=> ?_
 ·exact q0 (hd.trans ((Bool.not_eq_true' _).mp hb))
 have hb:=(Bool.not_eq_false' _).mp hb
 have hme:maF x=some (PySem.NumText.digitsVal x.cps.toList:Int):=by unfold maF;rw[hd,hb,if_pos rfl]
 have q1:Q (.int (PySem.NumText.digitsVal x.cps.toList:Int)) σ:=by rw[hme] at q;exact q
 have ha:PySem.NumText.AllDigits x.cps.toList:=λc hc=>by
  have:=AK.mp hb c hc
  unfold z5E at this
  rw[AC] at this
  exact⟨AD this.1,AD this.2⟩
 have hne:x.cps.toList≠[]:=λe=>by
  have:x.cps.toList.length=x.length:=rfl
  rw[e] at this
  exact absurd h1 (by rw[<-this];decide)
 have hin:PySem.intText? x=some (PySem.NumText.digitsVal x.cps.toList:Int):=PySem.intText_digits ha hne (nD h3 rfl)
 have h640:x.length<=640:=nD h3 rfl
 clear q hme ha hne hb hd h3 h1 h0 hc q0
 generalize (PySem.NumText.digitsVal x.cps.toList:Int)=n at hin q1
 refine LK (y0h hin h640 ?_)
 exact q1
theorem y36{α:Type}{l:List α}(h:l.length=3):∃a b c,l=[a,b,c]:=by
 rcases l with _|⟨a,_|⟨b,_|⟨c,_|⟨d,r⟩⟩⟩⟩<;>first|exact⟨a,b,c,rfl⟩|exact absurd h (by simp)
noncomputable abbrev cl(x:Str):List Nat:=x.cps.toList
theorem z0v(x y:Str):cl (x++y)=cl x++cl y:=by show(x.cps++y.cps).toList=_;rw[Array.toList_append]
theorem y0H{x y:Str}(h:cl x=cl y):x=y:=by cases x;cases y;exact congrArg Str.mk (Array.toList_inj.mp h)
theorem z68(sep:Str):∀(ps:List Str) (acc:Array Nat),(ps.foldl (λacc p=>acc++sep.cps++p.cps) acc).toList=acc.toList++(ps.map λv=>cl sep++cl v).flatten
 |[],acc=>by simp
 |p::ps,acc=>by rw[List.foldl_cons,z68 sep ps,Array.toList_append,Array.toList_append,Ap,AM,Ao,Ao,Ao]
theorem z6u(sep p:Str)(ps:List Str):cl (Txt.join sep (p::ps))=cl p++(ps.map λv=>cl sep++cl v).flatten:=by
 unfold Txt.join Builtin.Str.glued
 exact z68 sep ps p.cps
theorem cl_join0:∀ps:List Str,cl (Txt.join "" ps)=(ps.map cl).flatten
 |[]=>by decide+kernel
 |p::ps=>by rw[z6u];rw[show cl ("":Str)=[] by decide+kernel,Ap,AM];rfl
theorem z33(w:List Nat):∀r:List (List Nat),wl (w::r)=w++(r.map λv=>32::v).flatten
 |[]=>(Az w).symm
 |v::r=>by
  show w++32::wl (v::r)=_
  rw[z33 v r,Ap,AM];rfl
structure Wd(x:Str):Prop where
 a:Asc x
 b:32∉cl x
noncomputable def wdB(x:Str):Bool:=decide (x.length<=100)&&(cl x).all λc=>decide (c<128)&& !(c==32)
theorem y3o{x:Str}(h:wdB x=true):Wd x:=by
 unfold wdB at h
 rw[AC] at h
 have h2:=AK.mp h.2
 refine⟨⟨AD h.1,λc hc=> ?_⟩,λhc=> ?_⟩
 ·have:=h2 c hc;rw[AC] at this;exact AD this.1
 ·have:=h2 32 hc;simp at this
theorem A7.wd{x:Str}(h:A7 x):Wd x:=⟨h.asc,λhc=>by have:=h.lt 32 hc;simp[z12] at this⟩
structure Ln(x:Str)(ws:List Str):Prop where
 sp:Txt.split x " "=ws
 wd:∀w∈ws,Wd w
 ne:ws≠[]
 len:x.length<=1000
 few:ws.length<=60
theorem bl32:(" ":Str)=⟨#[32]⟩:=by decide+kernel
theorem z5d(x:Str):(cl x).length=x.length:=by show x.cps.toList.length=x.cps.size;simp
theorem flat_len:∀r:List Str,(∀v∈r,v.length<=20)->((r.map λv=>32::cl v).flatten).length<=21*r.length
 |[],_=>AN _
 |v::r,h=>by
  have ih:=flat_len r λu hu=>h u (.tail _ hu)
  have:=h v (.head _)
  rw[Ap,AM,Ag,Aq,z5d,Aq];exact Ac (Bd (Bh this) ih) (Bp (by rw[Nat.mul_succ,Nat.add_comm]))
theorem Ln.of{x w:Str}{r:List Str}(h:cl x=cl w++(r.map λv=>32::cl v).flatten)(hw:∀v∈w::r,Wd v/\v.length<=20)(hr:r.length<=46):Ln x (w::r):=by
 refine⟨?_,λv hv=>(hw v hv).1,(λe=>nomatch e),?_,by rw[Aq];exact nD (Bh hr) rfl⟩
 ·rw[bl32]
  refine z7H (λe=>nomatch e) (λv hv=>(hw v hv).1.b) ?_
  rw[Ap,z33,AJ]
  exact h
 ·have h1:=congrArg List.length h
  rw[Ag,z5d,z5d] at h1
  have h2:=flat_len r λv hv=>(hw v (.tail _ hv)).2
  have h3:=(hw w (.head _)).2
  exact(by rw[h1];exact nD (Bd h3 (Ac h2 (Bj 21 hr))) rfl)
theorem ma_figs:∀n<1000,n=0∨(maF (y3U n)=some (n:Int)/\wdB (y3U n)=true/\(y3U n).length<=3):=by decide+kernel
noncomputable abbrev sI(i:Int):Str:=Str.ofString (toString i)
theorem z1t{i:Int}(h1:1<=i)(h2:i<=999):maF (sI i)=some i/\Wd (sI i)/\(sI i).length<=3:=by
 obtain⟨n,rfl⟩:=Int.eq_ofNat_of_zero_le (AQ (by decide) h1)
 rcases ma_figs n (by exact Nat.lt_succ_of_le (Bk.mp h2)) with e|⟨a,b,c⟩
 ·exact absurd (Bk.mp h1) (by rw[e];decide)
 ·exact⟨a,y3o b,c⟩
noncomputable abbrev z1i(x:Str):Bool:=wareV (.str x)
noncomputable def ndF:List Str->Option z0b
 |[a,b,c]=>if z1i a then(maF b).elim none λl=>(maF c).elim none λh=>if h<l then none else some (a,l,h) else none
 |_=>none
noncomputable def optN:Option z0b->V
 |some n=>z0f n
 |none=> .none
noncomputable def ch3:List Str->List (List Str)
 |a::b::c::t=>[a,b,c]::ch3 t
 |_=>[]
set_option genInjectivity false in
inductive D8
 |settle
 |forget
 |put (w:Str) (mk:Int) (ns:List z0b)
 |take (w:Str) (mk:Int)
 |wish (n:z0b)
 |why (w:Str)
noncomputable def prsP:List Str->Option D8
 |w::m::t=>if t.length%3=0 then if z1i w then(maF m).elim none λmk=>if((ch3 t).map ndF).any Option.isNone then none else some (.put w mk ((ch3 t).filterMap ndF)) else none else none
 |_=>none
noncomputable def prsT:List Str->Option D8
 |[w,m]=>if z1i w then(maF m).map (.take w) else none
 |_=>none
noncomputable def prsW:List Str->Option D8
 |[w]=>if z1i w then some (.why w) else none
 |_=>none
noncomputable def z3B(t:Str)(r:List Str):Option D8:=if t=="put" then prsP r else if t=="take" then prsT r else if t=="wish" then(ndF r).map .wish else if t=="why" then prsW r else none
noncomputable def B5:List Str->Option D8
 |[]=>none
 |t::r=>if t::r=[("settle":Str)] then some .settle else if t::r=[("forget":Str)] then some .forget else z3B t r
theorem z3R{t:Str}{r:List Str}(h1:t≠"settle")(h2:t≠"forget"):B5 (t::r)=z3B t r:=by
 show(if t::r=[("settle":Str)] then some D8.settle else if t::r=[("forget":Str)] then some .forget else z3B t r)=z3B t r
 rw[if_neg λe=>h1 (Bt e).1,if_neg λe=>h2 (Bt e).1]
theorem z51(r:List Str):B5 ("put"::r)=prsP r:=(z3R (by decide+kernel) (by decide+kernel)).trans (by unfold z3B;rw[if_pos (by decide+kernel)])
theorem z5k(r:List Str):B5 ("take"::r)=prsT r:=(z3R (by decide+kernel) (by decide+kernel)).trans (by unfold z3B;rw[if_neg (by decide+kernel),if_pos (by decide+kernel)])
theorem z5l(r:List Str):B5 ("wish"::r)=(ndF r).map .wish:=(z3R (by decide+kernel) (by decide+kernel)).trans (by unfold z3B;rw[if_neg (by decide+kernel),if_neg (by decide+kernel),if_pos (by decide+kernel)])
theorem z52(r:List Str):B5 ("why"::r)=prsW r:=(z3R (by decide+kernel) (by decide+kernel)).trans (by unfold z3B;rw[if_neg (by decide+kernel),if_neg (by decide+kernel),if_neg (by decide+kernel),if_pos (by decide+kernel)])
noncomputable def ndW(n:z0b):List Str:=[n.1,sI n.2.1,sI n.2.2]
theorem y1f{n:z0b}(h:A9 n):ndF (ndW n)=some n:=by
 have a:=(z1t h.lo (AQ h.le h.hi)).1
 have b:=(z1t (AQ h.lo h.le) h.hi).1
 show(if z1i n.1 then _ else _)=_
 rw[if_pos (z3a h.w),a]
 show(maF (sI n.2.2)).elim none _=_
 rw[b]
 show(if n.2.2<n.2.1 then none else some (n.1,n.2.1,n.2.2))=_
 rw[if_neg (Int.not_lt.mpr h.le)]
theorem ch_nd:∀ns:List z0b,ch3 (ns.map ndW).flatten=ns.map ndW
 |[]=>rfl
 |n::ns=>congrArg (ndW n::·) (ch_nd ns)
theorem ndW_len:∀ns:List z0b,((ns.map ndW).flatten).length=3*ns.length
 |[]=>rfl
 |n::ns=>by rw[Ap,AM,Ag,ndW_len ns,Aq];show 3+_=_;exact(by rw[Nat.mul_succ,Nat.add_comm])
theorem y1p{w:Str}{mk:Int}{ns:List z0b}(hw:A7 w)(h1:1<=mk)(h2:mk<=999)(hn:∀n∈ns,A9 n):B5 ("put"::w::sI mk::(ns.map ndW).flatten)=some (.put w mk ns):=by
 rw[z51]
 show(if _ then _ else _)=_
 rw[if_pos (by rw[ndW_len];exact Nat.mul_mod_right 3 ns.length),if_pos (z3a hw),(z1t h1 h2).1]
 show(if _ then none else some (D8.put w mk _))=_
 have e1:ns.map (λn=>ndF (ndW n))=ns.map some:=List.map_congr_left λn h=>y1f (hn n h)
 rw[ch_nd,AJ,show(ndF∘ndW)=λn=>ndF (ndW n) from rfl,e1,if_neg,List.filterMap_map,show(ndF∘ndW)=λn=>ndF (ndW n) from rfl]
 ·have:∀{l:List z0b},(∀n∈l,A9 n)->l.filterMap (λn=>ndF (ndW n))=l:=λ{l}=>by
   induction l with
   |nil=>intro _;rfl
   |cons n l ih=>intro h;rw[List.filterMap_cons,y1f (h n (.head _)),ih λm hm=>h m (.tail _ hm)]
  rw[this hn]
 ·simp
theorem y2M{w:Str}{mk:Int}(hw:A7 w)(h1:1<=mk)(h2:mk<=999):B5 ["take",w,sI mk]=some (.take w mk):=by
 rw[z5k]
 show(if _ then _ else _)=_
 rw[if_pos (z3a hw),(z1t h1 h2).1];rfl
theorem z6U{n:z0b}(h:A9 n):B5 ("wish"::ndW n)=some (.wish n):=by rw[z5l,y1f h];rfl
theorem y4u{w:Str}(hw:A7 w):B5 ["why",w]=some (.why w):=by
 rw[z52]
 show(if _ then _ else _)=_
 rw[if_pos (z3a hw)]
theorem z1O{x:Str}(h:(wdB x&&decide (x.length<=20))=true:=by decide+kernel):Wd x/\x.length<=20:=by
 rw[AC] at h
 exact⟨y3o h.1,AD h.2⟩
theorem z2F{w:Str}(h:A7 w):Wd w/\w.length<=20:=⟨h.wd,nD h.hi rfl⟩
theorem z7U{i:Int}(h1:1<=i)(h2:i<=999):Wd (sI i)/\(sI i).length<=20:=⟨(z1t h1 h2).2.1,Ac (z1t h1 h2).2.2 (by decide)⟩
theorem y3n{n:z0b}(h:A9 n):∀v∈ndW n,Wd v/\v.length<=20:=Aa.mpr ⟨z2F h.w,Aa.mpr ⟨z7U h.lo (AQ h.le h.hi),Aa.mpr ⟨z7U (AQ h.lo h.le) h.hi,λ_ h=>nomatch h⟩⟩⟩
section
abbrev Sy:=List (Option Nat)
variable {n:Str} {w:Sy}
def Odd(x:Str):Prop:=∃ws,Ln x ws/\B5 ws=none
noncomputable def ex(n:Str)(w:Sy):List Nat:=(w.map λo=>o.elim (cl n) λc=>[c]).flatten
noncomputable def wo(n:Str)(w:Sy):Str:=⟨⟨ex n w⟩⟩
noncomputable def cut:Sy->List Sy
 |[]=>[[]]
 |o::r=>if o=some 32 then[]::cut r else(o::(cut r).headD [])::(cut r).tail
theorem cut_ne:∀S:Sy,∃w r,cut S=w::r
 |[]=>⟨_,_,rfl⟩
 |o::r=>by unfold cut;split<;>exact⟨_,_,rfl⟩
theorem z2B(o:Option Nat)(r:Sy):ex n (o::r)=(o.elim (cl n) λc=>[c])++ex n r:=AM
theorem ex_cut:∀S:Sy,ex n S=wl ((cut S).map (ex n))
 |[]=>rfl
 |o::r=>by
  obtain⟨c,cs,e⟩:=cut_ne r
  have ih:=ex_cut r
  rw[e,Ap] at ih
  rw[z2B,ih]
  by_cases h:o=some 32
  ·rw[show cut (o::r)=[]::cut r from if_pos h,h,e];rfl
  ·rw[show cut (o::r)=(o::(cut r).headD [])::(cut r).tail from if_neg h,e,Ap,z33,z33]
   show _=ex n (o::c)++_
   rw[z2B,Ao];rfl
theorem y3S{c:Nat}(h:c∈ex n w):some c∈w∨c∈cl n:=by
 obtain⟨l,hl,hc⟩:=List.mem_flatten.mp h
 obtain⟨o,ho,rfl⟩:=Ah.mp hl
 cases o with
 |none=>exact .inr hc
 |some k=>exact .inl (by rw[Af.mp hc];exact ho)
noncomputable def szN:Sy->Nat
 |[]=>0
 |o::r=>(o.elim 8 λ_=>1)+szN r
theorem y0Q(hn:A7 n):∀w:Sy,(ex n w).length<=szN w
 |[]=>AN _
 |o::r=>by
  rw[z2B,Ag]
  refine Bd ?_ (y0Q hn r)
  cases o with
  |none=>show(cl n).length<=8;rw[z5d];exact hn.hi
  |some k=>exact AN _
noncomputable def y3V(w:Sy):Bool:=(w.all λo=>o.elim true λc=>decide (c<128)&& !(c==32))&&decide (szN w<=20)
theorem fit(hn:A7 n)(h:y3V w=true):Wd (wo n w)/\(wo n w).length<=20:=by
 unfold y3V at h
 rw[AC] at h
 have hl:(wo n w).length<=20:=by rw[<-z5d];exact Ac (y0Q hn w) (AD h.2)
 have hw:=hn.wd
 have key:∀c∈ex n w,c<128/\c≠32:=λc hc=>by
  rcases y3S hc with h1|h1
  ·have:=AK.mp h.1 _ h1
   have:(decide (c<128)&& !(c==32))=true:=this
   rw[AC] at this
   exact⟨AD this.1,λe=>by rw[e] at this;exact absurd this.2 (by decide)⟩
  ·exact⟨hw.a.2 c h1,λe=>hw.b (by rw[<-e];exact h1)⟩
 exact⟨⟨⟨nD hl rfl,λc hc=>(key c hc).1⟩,λhc=>(key 32 hc).2 rfl⟩,hl⟩
noncomputable def z6B(w:Sy):Str:=⟨⟨w.filterMap id⟩⟩
noncomputable def z6H(w:Sy):Bool:=w.all Option.isSome
theorem pur_ex:∀{w:Sy},z6H w=true->ex n w=w.filterMap id
 |[],_=>rfl
 |none::_,h=>nomatch h
 |some c::r,h=>by rw[z2B,pur_ex (w:=r) h];rfl
theorem pur(h:z6H w=true):wo n w=z6B w:=y0H (pur_ex h)
noncomputable def z5B(w:Sy):Bool:=w.any λo=>o.elim false λc=> !z12 c
theorem z8P(h:z5B w=true):∃c∈cl (wo n w),z12 c=false:=by
 obtain⟨o,ho,hc⟩:=List.any_eq_true.mp h
 cases o with
 |none=>cases hc
 |some c=>exact⟨c,List.mem_flatten.mpr ⟨[c],Ah.mpr ⟨_,ho,rfl⟩,.head _⟩,(Bool.not_eq_true' _).mp hc⟩
theorem z4c(h:z5B w=true){k:Str}(hk:(cl k).all z12=true):wo n w≠k:=λe=>by
 obtain⟨c,hc,hl⟩:=z8P (n:=n) h
 rw[e] at hc
 exact absurd ((AK.mp hk c hc).symm.trans hl) (by decide)
theorem z8b(h:z5B w=true):¬z1i (wo n w)=true:=λe=>by
 obtain⟨c,hc,hl⟩:=z8P (n:=n) h
 exact absurd (((z2a e).lt c hc).symm.trans hl) (by decide)
noncomputable def maN(w:Sy):Bool:=z6H w&&(maF (z6B w)).isNone
theorem y09(h:maN w=true):maF (wo n w)=none:=by
 unfold maN at h
 rw[AC] at h
 rw[pur h.1];exact Option.isNone_iff_eq_none.mp h.2
noncomputable def y12(b c:Str):Bool:=(maF b).elim true λl=>(maF c).elim true λh=>decide (h<l)
theorem y4b{a b c:Str}(h:y12 b c=true):ndF [a,b,c]=none:=by
 show(if z1i a then(maF b).elim none (λl=>(maF c).elim none λh=>if h<l then none else some (a,l,h)) else none)=none
 unfold y12 at h
 split
 ·cases e1:maF b with
  |none=>rfl
  |some l=>
   rw[e1] at h
   have h:(maF c).elim true (λh=>decide (h<l))=true:=h
   show(maF c).elim none _=none
   cases e2:maF c with
   |none=>rfl
   |some k=>
    rw[e2] at h
    exact if_pos (AD h)
 ·rfl
noncomputable def bdN:List Sy->Bool
 |[a,b,c]=>z5B a||(z6H b&&(z6H c&&y12 (z6B b) (z6B c)))
 |_=>true
theorem bdN_no:∀l:List Sy,bdN l=true->ndF (l.map (wo n))=none
 |[],_=>rfl
 |[_],_=>rfl
 |[_,_],_=>rfl
 |[a,b,c],h=>by
  have h:(z5B a||(z6H b&&(z6H c&&y12 (z6B b) (z6B c))))=true:=h
  rw[AV,AC,AC] at h
  rcases h with h|⟨h1,h2,h3⟩
  ·exact if_neg (z8b h)
  ·show ndF [wo n a,wo n b,wo n c]=none
   rw[pur h1,pur h2];exact y4b h3
 |_::_::_::_::_,_=>rfl
noncomputable def sP:List Sy->Bool
 |w::m::t=> !decide (t.length%3=0)||(z5B w||(maN m||(decide (t.length=3)&&bdN t)))
 |_=>true
theorem sP_no:∀l:List Sy,sP l=true->prsP (l.map (wo n))=none
 |[],_=>rfl
 |[_],_=>rfl
 |w::m::t,h=>by
  have h:(!decide (t.length%3=0)||(z5B w||(maN m||(decide (t.length=3)&&bdN t))))=true:=h
  rw[AV,AV,AV,AC] at h
  show(if(t.map (wo n)).length%3=0 then if z1i (wo n w) then(maF (wo n m)).elim none (λmk=>if((ch3 (t.map (wo n))).map ndF).any Option.isNone then none else some (D8.put (wo n w) mk ((ch3 (t.map (wo n))).filterMap ndF))) else none else none)=none
  rcases h with h|h|h|⟨h1,h2⟩
  ·rw[Ab];exact if_neg (AW ((Bool.not_eq_true' _).mp h))
  ·rw[if_neg (z8b h)];split<;>rfl
  ·rw[y09 h];split
   ·split<;>rfl
   ·rfl
  ·obtain⟨a,b,c,rfl⟩:=y36 (AD h1)
   have e:(([wo n a,wo n b,wo n c]:List Str)::[]).map ndF=[none]:=congrArg (λx=>[x]) (bdN_no [a,b,c] h2)
   show(if _ then if _ then(maF (wo n m)).elim none (λmk=>if((([wo n a,wo n b,wo n c]:List Str)::[]).map ndF).any Option.isNone then none else _) else none else none)=none
   rw[e];split
   ·split
    ·cases maF (wo n m)<;>rfl
    ·rfl
   ·rfl
noncomputable def sT:List Sy->Bool
 |[_,m]=>maN m
 |_=>true
theorem sT_no:∀l:List Sy,sT l=true->prsT (l.map (wo n))=none
 |[],_=>rfl
 |[_],_=>rfl
 |[w,m],h=>by
  show(if _ then(maF (wo n m)).map (D8.take (wo n w)) else none)=none
  rw[y09 h];split<;>rfl
 |_::_::_::_,_=>rfl
noncomputable def sW:List Sy->Bool
 |[w]=>z5B w
 |_=>true
theorem sW_no:∀l:List Sy,sW l=true->prsW (l.map (wo n))=none
 |[],_=>rfl
 |[_],h=>if_neg (z8b h)
 |_::_::_,_=>rfl
theorem z4i{t:Str}{r:List Str}(h1:t::r≠[("settle":Str)])(h2:t::r≠[("forget":Str)])(hp:t≠"put")(ht:t≠"take")(hw:t≠"wish")(hy:t≠"why"):B5 (t::r)=none:=by
 show(if t::r=[("settle":Str)] then some D8.settle else if t::r=[("forget":Str)] then some .forget else z3B t r)=none
 rw[if_neg h1,if_neg h2]
 unfold z3B
 rw[if_neg λe=>hp (BF e),if_neg λe=>ht (BF e),if_neg λe=>hw (BF e),if_neg λe=>hy (BF e)]
noncomputable def sR(k:Str)(r:List Sy):Bool:=if k="put" then sP r else if k="take" then sT r else if k="wish" then bdN r else if k="why" then sW r else !(r.isEmpty&&(decide (k="settle")||decide (k="forget")))
noncomputable def sB:List Sy->Bool
 |[]=>true
 |t::r=>z5B t||(z6H t&&sR (z6B t) r)
theorem s_none:∀l:List Sy,sB l=true->B5 (l.map (wo n))=none
 |[],_=>rfl
 |t::r,h=>by
  have h:(z5B t||(z6H t&&sR (z6B t) r))=true:=h
  rw[AV,AC] at h
  show B5 (wo n t::r.map (wo n))=none
  rcases h with h|⟨hp,h⟩
  ·exact z4i (λe=>z4c h (by decide+kernel) (Bt e).1) (λe=>z4c h (by decide+kernel) (Bt e).1) (z4c h (by decide+kernel)) (z4c h (by decide+kernel)) (z4c h (by decide+kernel)) (z4c h (by decide+kernel))
  ·rw[pur hp]
   generalize z6B t=k at h
   unfold sR at h
   by_cases h1:k="put"
   ·rw[if_pos h1] at h;rw[h1,z51];exact sP_no r h
   rw[if_neg h1] at h
   by_cases h2:k="take"
   ·rw[if_pos h2] at h;rw[h2,z5k];exact sT_no r h
   rw[if_neg h2] at h
   by_cases h3:k="wish"
   ·rw[if_pos h3] at h;rw[h3,z5l,bdN_no r h];rfl
   rw[if_neg h3] at h
   by_cases h4:k="why"
   ·rw[if_pos h4] at h;rw[h4,z52];exact sW_no r h
   rw[if_neg h4] at h
   cases r with
   |cons a r=>exact z4i (λe=>nomatch (Bt e).2) (λe=>nomatch (Bt e).2) h1 h2 h3 h4
   |nil=>
    have h:(!(decide (k="settle")||decide (k="forget")))=true:=h
    rw[Bool.not_eq_true',Bool.or_eq_false_iff] at h
    exact z4i (λe=>AW h.1 (Bt e).1) (λe=>AW h.2 (Bt e).1) h1 h2 h3 h4
abbrev Sp:=Str×Option (Option Str)
noncomputable def sy(i:Sp):Sy:=(cl i.1).map some++i.2.elim [] λo=>none::o.elim [] λr=>(cl r).map some
noncomputable def tx(n:Str)(i:Sp):Str:=i.2.elim i.1 λo=>o.elim (i.1++n) λr=>i.1++n++r
theorem ex_lit:∀l:List Nat,ex n (l.map some)=l
 |[]=>rfl
 |c::l=>by rw[Ap,z2B,ex_lit l];rfl
theorem y0P(a b:Sy):ex n (a++b)=ex n a++ex n b:=by unfold ex;rw[Am,List.flatten_append]
theorem tx_ex:∀i:Sp,cl (tx n i)=ex n (sy i)
 |(l,none)=>by show cl l=ex n (_++[]);rw[Az];exact(ex_lit _).symm
 |(l,some none)=>by show cl (l++n)=ex n (_++[none]);rw[y0P,ex_lit,z2B,z0v];exact congrArg (cl l++·) (Az _).symm
 |(l,some (some r))=>by show cl (l++n++r)=ex n (_++none::(cl r).map some);rw[y0P,ex_lit,z2B,ex_lit,z0v,z0v,Ao];rfl
noncomputable def z9a(S:List Sy):Bool:=S.all y3V&&(decide (S.length<=46)&&sB S)
theorem y4e(hn:A7 n)(i:Sp)(h:z9a (cut (sy i))=true):Odd (tx n i):=by
 unfold z9a at h
 rw[AC,AC] at h
 obtain⟨h1,h2,h3⟩:=h
 have e:=tx_ex (n:=n) i
 obtain⟨w,r,ew⟩:=cut_ne (sy i)
 rw[ex_cut,ew,Ap,z33,AJ] at e
 refine⟨wo n w::r.map (wo n),Ln.of (by rw[AJ];exact e) (λv hv=> ?_) ?_,?_⟩
 ·have hv:v∈(w::r).map (wo n):=hv
  rw[<-ew] at hv
  obtain⟨u,hu,rfl⟩:=Ah.mp hv
  exact fit hn (AK.mp h1 u hu)
 ·rw[ew,Aq] at h2
  rw[Ab];exact Nat.le_of_succ_le (AD h2)
 ·show B5 ((w::r).map (wo n))=none
  rw[<-ew];exact s_none _ h3
end
section
variable {mk:Int}
structure C0(ks:List Str)(es:ES)(wi:List z0b):Prop where
 nd:ks.Nodup
 l12:ks.length<=12
 wok:∀w∈ks,A7 w
 out:∀w,w∉ks->es w=[]
 eok:∀w,B6 w (es w)
 ne:∀w∈ks,es w≠[]
 wi:D4 wi
theorem C0.inK(S:C0 ks es wi){e:Int×List z0b}(h:e∈es w):w∈ks:=by
 by_cases hm:w∈ks
 ·exact hm
 ·rw[S.out w hm] at h;cases h
theorem C0.gd(S:C0 ks es wi):Gd es wi:=by
 have l6:∀w,∀p∈es w,p.2.length<=6:=λw p hp=>((S.eok w).nok p hp).len
 refine⟨S.wi,λw=>(S.eok w).nd,λpk pb pi=> ?_,λw p hp=>⟨S.wok w (S.inK hp),(S.eok w).mb p hp⟩,λpk hn pi=> ?_,λw=>(S.eok w).len,l6⟩
 ·obtain⟨N,R,hN,hB⟩:=y4V pb l6 S.wi.len
  refine⟨N,R,hN,hB,hB.all (P:=A7) (y2x λw p hp n hn=>((S.eok w).nok p hp).ok n hn) (λ_ h=>nomatch h) λx hx=> ?_,?_⟩
  ·apply z0X hx;intro n hn
   exact(S.wi.ok n hn).w
  ·have:=hB.rlen
   rw[List.length_nil,AP] at this
   exact this
 ·have:=z5Z (r:=ks) hn λw hw=>by
   apply z0X hw;intro p hp
   obtain⟨ns,hns⟩:=pi p hp
   exact S.inK hns
  rw[Ab] at this
  exact Ac this S.l12
theorem C0.nil:C0 [] (λ_=>[]) []:=⟨Aw,by decide,(λ_ h=>nomatch h),(λ_ _=>rfl),(λw=> .nil),(λ_ h=>nomatch h),⟨by decide,λ_ h=>nomatch h⟩⟩
inductive D5(ks:List Str)(es:ES)(w:Str)(mk:Int)(ns:List z0b):Str->List Str->(ES)->Prop
 |need:z5O w ns->D5 ks es w mk ns "bad need" ks es
 |twice:B4 w ns->mk∈(es w).map (·.1)->D5 ks es w mk ns "twice" ks es
 |full:B4 w ns->mk∉(es w).map (·.1)->w∉ks->ks.length=12->D5 ks es w mk ns "full" ks es
 |full8:B4 w ns->mk∉(es w).map (·.1)->(w∉ks->ks.length≠12)->(es w).length=8->D5 ks es w mk ns "full" ks es
 |old:B4 w ns->mk∉(es w).map (·.1)->w∈ks->(es w).length≠8->D5 ks es w mk ns "done" ks (z03 es w (es w++[(mk,ns)]))
 |new:B4 w ns->w∉ks->ks.length≠12->D5 ks es w mk ns "done" (ks++[w]) (z03 es w [(mk,ns)])
inductive G2(ks:List Str)(es:ES)(w:Str)(mk:Int):Str->List Str->(ES)->Prop
 |no:mk∉(es w).map (·.1)->G2 ks es w mk "no make" ks es
 |one {ns:List z0b}:(mk,ns)∈es w->(es w).filter (λp=>decide (p.1≠mk))≠[]->G2 ks es w mk "done" ks (z03 es w ((es w).filter λp=>decide (p.1≠mk)))
 |last {ns:List z0b}:(mk,ns)∈es w->(es w).filter (λp=>decide (p.1≠mk))=[]->G2 ks es w mk "done" (ks.filter λv=>decide (v≠w)) (z03 es w [])
theorem C0.set(S:C0 ks es wi){l:List (Int×List z0b)}(hk:w∈ks)(ok:B6 w l)(hl:l≠[]):C0 ks (z03 es w l) wi:=
 ⟨S.nd,S.l12,S.wok,λv hv=>by rw[z0t (λe:v=w=>hv (by rw[e];exact hk))];exact S.out v hv,z1J (P:=B6) S.eok ok,λv hv=>by
  by_cases e:v=w
  ·subst e;rw[z0m];exact hl
  ·rw[z0t e];exact S.ne v hv,S.wi⟩
theorem D5.ok(S:C0 ks es wi)(hw:A7 w)(h1:1<=mk)(h2:mk<=999)(R:D5 ks es w mk ns c ks' es'):C0 ks' es' wi:=by
 cases R with
 |need _=>exact S
 |twice _ _=>exact S
 |full _ _ _ _=>exact S
 |full8 _ _ _ _=>exact S
 |old h hm hk h8=>exact S.set hk ((S.eok w).add hm (by have:=(S.eok w).len;exact Bo this h8) h1 h2 h) (λe=>by have:=congrArg List.length e;rw[Ag] at this;cases this)
 |new h hk h12=>
  have hl:=S.l12
  refine⟨z0Y S.nd hk,by rw[Ag];show ks.length+1<=12;exact Bo hl h12,λv hv=> ?_,λv hv=> ?_,z1J (P:=B6) S.eok (B6.nil.add Av (by decide) h1 h2 h),λv hv=> ?_,S.wi⟩
  ·rcases Ad.mp hv with h|h
   ·exact S.wok v h
   ·rw[Af.mp h];exact hw
  ·rw[z0t (λe:v=w=>hv (Aj _ (by rw[e];exact .head _)))]
   exact S.out v λh=>hv (Ai _ h)
  ·by_cases e:v=w
   ·subst e;rw[z0m];exactλe=>nomatch e
   ·rw[z0t e]
    exact S.ne v ((Ad.mp hv).elim id λh=>absurd (Af.mp h) e)
theorem G2.ok(S:C0 ks es wi)(R:G2 ks es w mk c ks' es'):C0 ks' es' wi:=by
 cases R with
 |no _=>exact S
 |one hp hf=>exact S.set (S.inK hp) ((S.eok w).filter _) hf
 |last hp hf=>
  refine⟨(List.filter_sublist).nodup S.nd,Ac (Bc _ _) S.l12,λv hv=>S.wok v (Bu.mp hv).1,λv hv=> ?_,z1J (P:=B6) S.eok .nil,λv hv=> ?_,S.wi⟩
  ·by_cases e:v=w
   ·rw[e,z0m]
   ·rw[z0t e]
    exact S.out v λh=>hv (Bu.mpr ⟨h,AE e⟩)
  ·have h:=Bu.mp hv
   rw[z0t (AD h.2)]
   exact S.ne v h.1
theorem dv0{v a k:Nat}(ha:48<=a/\a<=57)(h1:1<=v)(h:v<=k):1<=v*10+(a-48)/\v*10+(a-48)<=k*10+9:=by exact⟨Ac h1 (Ac (Nat.le_mul_of_pos_right v (by decide)) (Bn _ _)),Bd (Nat.mul_le_mul_right 10 h) (Nat.sub_le_sub_right ha.2 48)⟩
theorem dv1{l:List Nat}(ha:∀c∈l,48<=c/\c<=57)(h1:1<=l.length)(h3:l.length<=3)(h0:l.getD 0 0≠48):1<=PySem.NumText.digitsVal l/\PySem.NumText.digitsVal l<=999:=by
 rcases l with _|⟨a,r⟩
 ·cases h1
 have k0:1<=0*10+(a-48)/\0*10+(a-48)<=9:=by
  have h0:a≠48:=h0
  have:=ha a (.head _)
  exact⟨by rw[Nat.zero_mul,AP];exact Nat.sub_pos_of_lt (Bo this.1 (Ne.symm h0)),by rw[Nat.zero_mul,AP];exact Nat.sub_le_sub_right this.2 48⟩
 rcases r with _|⟨b,r⟩
 ·exact⟨k0.1,nD k0.2 rfl⟩
 have k1:=dv0 (ha b (.tail _ (.head _))) k0.1 k0.2
 rcases r with _|⟨c,_|⟨x,r⟩⟩
 ·exact⟨k1.1,nD k1.2 rfl⟩
 ·exact dv0 (ha c (.tail _ (.tail _ (.head _)))) k1.1 k1.2
 ·exact absurd h3 (by simp)
theorem z6F{x:Str}{i:Int}(h:maF x=some i):1<=i/\i<=999:=by
 unfold maF at h
 by_cases hd:z5f x=true
 ·rw[if_pos hd] at h
  rw[<-Bs h]
  unfold z5f at hd
  rw[AC,AC,AC] at hd
  obtain⟨a,b,e,f⟩:=hd
  have hl:x.cps.toList.length=x.length:=rfl
  have:=dv1 (l:=x.cps.toList) (λc hc=>by
   have:=AK.mp f c hc
   unfold z5E at this
   rw[AC] at this
   exact⟨AD this.1,AD this.2⟩) (by rw[hl];exact AD a) (by rw[hl];exact AD b) (λe0=>by
   have e1:x.cps.getD 0 0=48:=by
    rw[Array.getD_eq_getD_getElem?,<-Array.getElem?_toList,<-List.getD_eq_getElem?_getD];exact e0
   rw[e1] at e
   exact absurd e (by decide+kernel))
  exact⟨Bk.mpr this.1,Bk.mpr this.2⟩
 ·rw[if_neg hd] at h;cases h
theorem z9c{l:List Str}(h:l.length≠3):ndF l=none:=by
 rcases l with _|⟨_,_|⟨_,_|⟨_,_|⟨_,_⟩⟩⟩⟩
 ·exact rfl
 ·exact rfl
 ·exact rfl
 ·exact absurd rfl h
 ·exact rfl
theorem y1e{l:List Str}{n:z0b}(h:ndF l=some n):A9 n:=by
 by_cases h3:l.length=3
 ·obtain⟨a,b,c,rfl⟩:=y36 h3
  have h:(if z1i a then(maF b).elim none (λl=>(maF c).elim none λh=>if h<l then none else some (a,l,h)) else none)=some n:=h
  by_cases hw:z1i a=true
  ·rw[if_pos hw] at h
   cases e1:maF b with
   |none=>rw[e1] at h;cases h
   |some lo=>
    rw[e1] at h
    have h:(maF c).elim none (λh=>if h<lo then none else some (a,lo,h))=some n:=h
    cases e2:maF c with
    |none=>rw[e2] at h;cases h
    |some hi=>
     rw[e2] at h
     have h:(if hi<lo then none else some (a,lo,hi))=some n:=h
     by_cases hl:hi<lo
     ·rw[if_pos hl] at h;cases h
     ·rw[if_neg hl] at h
      rw[<-Bs h]
      exact⟨z2a hw,(z6F e1).1,Int.not_lt.mp hl,(z6F e2).2⟩
  ·rw[if_neg hw] at h;cases h
 ·rw[z9c h3] at h;cases h
theorem ch3_range:∀t:List Str,t.length%3=0->ch3 t=(List.range (t.length/3)).map λj=>(t.drop (3*j)).take 3
 |[],_=>rfl
 |[_],h=>by cases h
 |[_,_],h=>by cases h
 |a::b::c::t,h=>by
  have e:(a::b::c::t).length=t.length+3:=rfl
  rw[e] at h⊢
  have ih:=ch3_range t (by exact(Nat.add_mod_right _ 3).symm.trans h)
  rw[show(t.length+3)/3=t.length/3+1 by exact Nat.add_div_right _ (by decide),List.range_succ_eq_map,Ap,AJ]
  show[a,b,c]::ch3 t=[a,b,c]::_
  rw[ih]
  refine congrArg _ (List.map_congr_left λj _=> ?_)
  show _=((a::b::c::t).drop (3*(j+1))).take 3
  rw[show 3*(j+1)=3*j+1+1+1 by exact Eq.symm (Nat.succ_add (3*j+1) 1)];rfl
end
section
variable {r:LI} {ys:List V}
theorem z8Z(k:Nat):∀(l:List Str) (n:Nat),(∀p∈l,p.length<=20)->l.foldl (λ(a:Nat) (p:Str)=>a+p.length+k) n<=n+l.length*(20+k)
 |[],n,_=>by simp
 |p::l,n,h=>by
  rw[List.foldl_cons,Aq,Nat.succ_mul,Nat.add_comm (l.length*_),<-Nat.add_assoc]
  exact Ac (z8Z k l (n+p.length+k) λq hq=>h q (.tail _ hq)) (Bg (by rw[<-Nat.add_assoc];exact Bg (Be (h p (.head _)) n) k) _)
theorem z2p{sep:Str}{l:List Str}(hs:sep.length<=1)(hp:∀p∈l,p.length<=20)(hl:l.length<=100):JoinOk sep l=true:=by
 unfold JoinOk
 have h2:l.foldl (λ(a:Nat) (p:Str)=>a+p.length+sep.length) 0<=2100:=by
  have:=z8Z sep.length l 0 hp
  have h3:l.length*(20+sep.length)<=100*21:=Nat.mul_le_mul hl (Be hs 20)
  exact Ac this (by rw[AP];exact h3)
 unfold Builtin.Str.tooLong
 simp
 show _<=16777216
 exact nD h2 rfl
def AgV(y:V):Prop:=∃as:List (Int×V),y= .lst (as.map aV)/\as.length<=8/\∀p∈as,1<=p.1/\p.1<=999
theorem z7l{one:Int->SR}:∀{l:List Int} {as:List (Int×V)},lpF one l as= .inl (r,ys)->∃(mk:Int) (as':List (Int×V)) (ys':List V),mk∈l/\one mk= .inl (r,ys')/\ys= .lst (as'.map aV)::ys'/\as'.length<=as.length+l.length/\∀p∈as',p∈as∨p.1∈l
 |[],as,h=>by cases h
 |mk::l,as,h=>by
  have h:((one mk).elim (λx=> .inl (x.1,.lst (as.map aV)::x.2)) λZ=>lpF one l (as++[(mk,Z)]):(LI×List V) ⊕ List (Int×V))= .inl (r,ys):=h
  cases e:one mk with
  |inl x=>
   rw[e] at h
   have h:=Prod.mk.inj (Sum.inl.inj h)
   exact⟨mk,as,x.2,.head _,by rw[e,<-h.1],h.2.symm,Bn _ _,λp hp=> .inl hp⟩
  |inr Z=>
   rw[e] at h
   obtain⟨mk',as',ys',h1,h2,h3,h4,h5⟩:=z7l (show lpF one l (as++[(mk,Z)])=_ from h)
   refine⟨mk',as',ys',.tail _ h1,h2,h3,by rw[Ag] at h4;rw[Aq];simp at h4;rw[Nat.add_comm l.length,<-Nat.add_assoc];exact h4,λp hp=> ?_⟩
   rcases h5 p hp with h|h
   ·rcases Ad.mp h with h|h
    ·exact .inl h
    ·rw[Af.mp h];exact .inr (.head _)
   ·exact .inr (.tail _ h)
theorem z7z(g:Gd es wi):∀{n:Nat} {ps r:LI} {ys:List V},G5 ps->PkIn es ps->sdF es wi n ps= .inl (r,ys)->G5 r/\(∀y∈ys,AgV y)/\ys.length<=n
 |0,ps,r,ys,_,_,h=>by cases h
 |n+1,ps,r,ys,pb,pi,h=>by
  have h:(cl0 es ps).elim ((wtF es wi ps).head?.elim (.inl (ps,[])) λw=>(lpF (onF (sdF es wi n) ps w (ssF es wi ps w)) (z1M es w) []).elim .inl λas=> .inr (.tup [.str w,.lst (ssV (ssF es wi ps w)),.lst ((gdF w es (ssF es wi ps w) as).map aV)])) .inr=(.inl (r,ys):SR):=h
  cases e:cl0 es ps with
  |some Z=>rw[e] at h;cases h
  |none=>
   rw[e] at h
   have h:(wtF es wi ps).head?.elim (.inl (ps,[])) (λw=>(lpF (onF (sdF es wi n) ps w (ssF es wi ps w)) (z1M es w) []).elim .inl λas=> .inr (.tup [.str w,.lst (ssV (ssF es wi ps w)),.lst ((gdF w es (ssF es wi ps w) as).map aV)]))=(.inl (r,ys):SR):=h
   cases e2:(wtF es wi ps).head? with
   |none=>
    rw[e2] at h
    have h:=Prod.mk.inj (Sum.inl.inj h)
    rw[<-h.1,<-h.2]
    exact⟨pb,(λ_ h=>nomatch h),Nat.zero_le _⟩
   |some w=>
    rw[e2] at h
    have h:(lpF (onF (sdF es wi n) ps w (ssF es wi ps w)) (z1M es w) []).elim .inl (λas=> .inr (.tup [.str w,.lst (ssV (ssF es wi ps w)),.lst ((gdF w es (ssF es wi ps w) as).map aV)]))=(.inl (r,ys):SR):=h
    cases e3:lpF (onF (sdF es wi n) ps w (ssF es wi ps w)) (z1M es w) [] with
    |inr as=>rw[e3] at h;cases h
    |inl x=>
     rw[e3] at h
     have h:x=(r,ys):=Sum.inl.inj h
     subst h
     obtain⟨mk,as,ys',h1,h2,h3,h4,h5⟩:=z7l e3
     obtain⟨ns,hm⟩:=z5e h1
     have hwt:=(y1I (es:=es) (wi:=wi) pb w (List.mem_of_mem_head? e2)).2
     have h2:((osF w mk (ssF es wi ps w)).elim (sdF es wi n (ps++[(w,mk)])) .inr:SR)= .inl (r,ys'):=h2
     cases e4:osF w mk (ssF es wi ps w) with
     |some Z=>rw[e4] at h2;cases h2
     |none=>
      rw[e4] at h2
      obtain⟨k1,k2,k3⟩:=z7z g (G5.snoc g pb pi hwt hm) (pi.snoc hm) h2
      subst h3
      refine⟨k1,Aa.mpr ⟨⟨as,rfl,?_,λp hp=> ?_⟩,k2⟩,Bh k3⟩
      ·have:=g.l8 w
       rw[desM_len] at h4
       exact Ac h4 (by rw[List.length_nil,AP];exact this)
      ·rcases h5 p hp with h|h
       ·cases h
       ·obtain⟨ns',hm'⟩:=z5e h
        exact(g.mb w _ hm').2
noncomputable def prT(p:Str×Int):List Str:=[p.1,sI p.2]
noncomputable def setS:SR->Str:=Sum.elim (λx=>Txt.join " " ("pick"::(x.1.map prT).flatten)) λ_=>"none"
noncomputable def z5m(es:ES)(wi:List z0b):Str:=setS (sdF es wi 13 [])
theorem y2I(ps:LI):Txt.join " " ("pick"::ps.map λp=>p.1++" "++sI p.2)=Txt.join " " ("pick"::(ps.map prT).flatten):=by
 refine y0H ?_
 rw[z6u,z6u]
 congr 1
 induction ps with
 |nil=>rfl
 |cons p ps ih=>
  rw[Ap,Ap,AM,ih,Ap,AM,Am,List.flatten_append,z0v,z0v]
  show _=(cl " "++cl p.1++(cl " "++cl (sI p.2)++[]))++_
  simp only[Ao,Az]
noncomputable def kT:V->Str
 | .tup (.int k::_)=>sI k
 |_=>""
noncomputable def agT:V->List Str
 | .lst l=>l.map kT
 |_=>[]
theorem y0C(as:List (Int×V)):agT (.lst (as.map aV))=as.map λp=>sI p.1:=by show(as.map aV).map kT=_;rw[AJ];rfl
noncomputable def whS(w:Str)(ps:LI)(ys:List V):Str:=((ps.zip ys).find? λp=>p.1.1==w).elim "no pick" λp=>Txt.join " " ("against"::agT p.2)
noncomputable def y5h(w:Str):SR->Str:=Sum.elim (λx=>whS w x.1 x.2) λ_=>"no pick"
noncomputable def z6T(es:ES)(wi:List z0b)(w:Str):Str:=y5h w (sdF es wi 13 [])
theorem y3q{j:Nat}(h:∀i<j,∀p,(ps.zip ys)[i]? =some p->(p.1.1==w)=false)(hj:(ps.zip ys).length<=j):whS w ps ys="no pick":=by
 unfold whS
 rw[List.find?_eq_none.mpr λp hp=>by
  obtain⟨i,hi⟩:=List.getElem?_of_mem hp
  rw[h i (AF (An.mp hi).1 hj) p hi];exact BB]
 rfl
theorem y3p{j:Nat}{p:(Str×Int)×V}(h:∀i<j,∀p,(ps.zip ys)[i]? =some p->(p.1.1==w)=false)(hj:(ps.zip ys)[j]? =some p)(hp:(p.1.1==w)=true):whS w ps ys=Txt.join " " ("against"::agT p.2):=by
 unfold whS
 rw[z6w hj hp λy hy=>by
  obtain⟨i,hi⟩:=List.getElem?_of_mem hy
  have hl:=(An.mp hi).1
  rw[AR] at hl
  have hij:=AF hl (Bi _ _)
  rw[List.getElem?_take_of_lt hij] at hi
  exact h i hij y hi]
 rfl
end
structure F8(σ:Sto)(dk i k:Addr)(kv:LA)(es:ES)(wi:List z0b):Prop where
 inst:∃dx,At σ dk (.inst 364 dx [("shop",.ref i),("wish",.lst (wi.map z0f))])
 sh:C1 σ i k kv es
 nm:dk∉i::k::kv.map (·.2)
inductive Dk(σ:Sto)(dk:Addr)(ks:List Str)(es:ES)(wi:List z0b):Prop
 |mk {i k:Addr} {kv:LA}:F8 σ dk i k kv es wi->kv.map (·.1)=ks->C0 ks es wi->Dk σ dk ks es wi
theorem y2p{X Y:V}:[(("shop":Str),X),(("wish":Str),Y)].lookup ("shop":Str)=some X:=by rw[List.lookup_cons,BD]
theorem y2q{X Y:V}:[(("shop":Str),X),(("wish":Str),Y)].lookup ("wish":Str)=some Y:=by rw[List.lookup_cons,show(("wish":Str)=="shop")=false by decide+kernel,List.lookup_cons,BD]
theorem z1w{a dx:Addr}{Y:V}{P:V->Prop}(h:At σ a (.inst 364 dx [("shop",.ref i),("wish",Y)]))(q:P (.ref i)):z5M 364 "shop" (.ref a) σ P:=y27 h y2p q
theorem z2m{a dx:Addr}{X:V}{l:List V}{P:V->Prop}(h:At σ a (.inst 364 dx [("shop",X),("wish",.lst l)]))(q:P (.lst l)):z5M 364 "wish" (.ref a) σ P:=⟨a,dx,_,_,rfl,h,y2q,(λn e=>nomatch e),q⟩
theorem z0F{a dx:Addr}{X Y:V}{nm:Str}{P:Addr->Prop}(h:At σ a (.inst 364 dx [("shop",X),("wish",Y)]))(q:P a)(hn:(!(nm==("shop":Str))&& !(nm==("wish":Str)))=true:=by decide+kernel):z4p 364 nm (.ref a) σ P:=by
 rw[AC,Bool.not_eq_true',Bool.not_eq_true'] at hn
 exact y3c h (by rw[List.lookup_cons,hn.1,List.lookup_cons,hn.2];rfl) q
theorem F8.frame{σ':Sto}(D:F8 σ dk i k kv es wi)(h:∀a x,At σ a x->At σ' a x):F8 σ' dk i k kv es wi:=⟨let⟨dx,e⟩:=D.inst;⟨dx,h _ _ e⟩,D.sh.frame λa _ x hx=>h a x hx,D.nm⟩
theorem F8.cons(D:F8 σ dk i k kv es wi)(p:Addr×Obj×AO):F8 (p::σ) dk i k kv es wi:=D.frame λa x h=>h.cons _
theorem y3H{a:Addr}{o:Obj}{x:V}{xs ys:List V}{P:Sto->Prop}(hx:A8 ((a,o,AO.list xs)::σ) x (.list ys) P)(hl:xs.length+ys.length<=1000)(q:∀o',Q .none ((a,o',.list (xs++ys))::σ)):KW C d (.bi "list.extend") [.ref a,x] ((a,o,.list xs)::σ) Q:=λA G D s v vs hA R hv hss=>by
 apply VR.biE hv
 obtain⟨σ',U,US⟩:∃σ':Obj->Sto,(∀o',F9 a o (.list xs) o' (.list (xs++ys)) ((a,o,.list xs)::σ) (σ' o'))/\∀o',σ' o'=(a,o',.list (xs++ys))::σ:=⟨λo'=>(a,o',.list (xs++ys))::σ,λo'=> .head,λo'=>rfl⟩
 apply A6.consE hss;intro _ _ h1 h2'
 apply A6.consE h2';intro _ _ h2 h3
 apply A6.nilE h3
 apply VR.refE h1
 obtain⟨ws,n,rfl,hr⟩:∃ws n,o=z0q ws n/\A6 C.w D ws.toList xs:=R.sto _ (.head _)
 have ho:s.heap.get? a=some (z0q ws n):=R.pl _ (.head _)
 have hz1:ws.size=xs.length:=by rw[<-Bz,hr.length]
 apply A8.isListE hx R h2;intro b zs n' ho' hr'
 have hz:zs.size=ys.length:=by rw[<-Bz,hr'.length]
 refine call_meets F.slot_list_extend ⟨_,ho,rfl⟩ F.entry_list_extend (F.args_list_extend_2 _ _) (AutoSeq1.list_extend_list_list_0 a ws n b zs n' (by rw[hz1,hz];unfold Builtin.List.listTooLong;rw[AX (BC.mpr (nD hl rfl)),Bool.and_false];decide) (by rw[hz1];exact Ac (Bn _ _) (nD hl rfl)) (by rw[hz1,hz];exact nD hl rfl)) ⟨ho,ho',?_⟩
 have h1:=PyProof.Rows.get?_update_seq (c:="list") ho (λx=>x++zs)
 have:=R.upd (U _) s.toks (z0C _ _) (Heap.SameBut.update ..) rfl h1 ⟨_,_,rfl,by rw[Array.toList_append];exact hr.append hr'⟩
 rw[US] at this
 exact⟨.none,D,_,DX.refl _ _,.none,this,q _⟩
noncomputable def H2:TC:=⟨[.L 0,.att 364 "wish",.call (.type "list") 1,.ret],[],[]⟩
theorem z5w(H:G1 C)(D:F8 σ dk i k kv es wi)(hl:wi.length<=8)(q:NLf Q (wi.map z0f) σ):CW C (d+1) (.ref 316) [.ref dk] σ Q:=by
 refine z0M (G1.kin ‹_›) ["self"] [("list",.type "list")] (by kernel_rfl) (vs1 λ_=>by kernel_rfl) rfl (gA ‹_› [12]) ?_
 intro η hsc
 clear hsc
 obtain⟨dx,hin⟩:=D.inst
 refine xG H H2 ?_
 intro F m0
 refine LK (z2m hin ?_)
 exact⟨z2z (.lst _) (z0E hl (by decide)) q⟩
noncomputable def H3:TC:=⟨[.L 0,.len,.P (.int 3),.K .NotEq,.M .Or [.L 0,.S 0,.call (.ref 116) 1,.V,.not,.M .Or [.P (.bool false)]],.I [.P .none,.ret] [],.L 0,.S 1,.call (.ref 281) 1,.A 1,.L 0,.S 2,.call (.ref 281) 1,.A 2,.L 1,.P .none,.K .Is,.M .Or [.L 2,.P .none,.K .Is,.M .Or [.L 1,.L 2,.K .Gt,.M .Or [.P (.bool false)]]],.I [.P .none,.ret] [],.L 0,.S 0,.L 1,.L 2,.tup 3,.ret],[],[]⟩
theorem z6g(H:G1 C){ws:List Str}(ha:∀w∈ws,Asc w)(hl:ws.length<=100)(q:Q (optN (ndF ws)) σ):CW C (d+2) (.ref 288) [.lst (ws.map V.str)] σ Q:=by
 refine z0M (G1.kin ‹_›) ["words","low","high"] [("len",.bi "len"),("is_ware",.ref 116),("make_of",.ref 281)] (by kernel_rfl) (vs1 λ_=>by kernel_rfl) rfl (gA ‹_› [2,10,43]) ?_
 intro η hsc
 clear hsc
 by_cases h3:ws.length=3
 ·obtain⟨a,b,c,rfl⟩:=y36 h3
  have ha1:=ha a (.head _)
  have ha2:=ha b (.tail _ (.head _))
  have ha3:=ha c (.tail _ (.tail _ (.head _)))
  obtain⟨ob,eb⟩:∃o,maF b=o:=⟨_,rfl⟩
  obtain⟨oc,ec⟩:∃o,maF c=o:=⟨_,rfl⟩
  have q:Q (optN (if z1i a then ob.elim none λl=>oc.elim none λh=>if h<l then none else some (a,l,h) else none)) σ:=by rw[<-eb,<-ec];exact q
  clear ha hl h3
  refine xG H H3 ?_
  intro F m0
  refine LK (z0B (n:=3) (.lst _) rfl (z0i (AH rfl)) ?_)
  refine LK (z0I (xs:=[V.str a,V.str b,V.str c]) (i:=0) (X:= .str a) (.lst _) (by decide) rfl ?_)
  refine LK (fnc (z19 H (n:=0) (.str a ha1) ?_))
  refine z0p (λhw=> ?_) λhw=> ?_
  ·have hw:¬z1i a=true:=by rw[show z1i a=false from(Bool.not_eq_true' _).mp hw];exact BB
   rw[if_neg hw] at q
   exact q
  have hw:z1i a=true:=(Bool.not_eq_false' _).mp hw
  have q:Q (optN (ob.elim none λl=>oc.elim none λh=>if h<l then none else some (a,l,h))) σ:=by rw[if_pos hw] at q;exact q
  clear hw
  refine LK (z0I (xs:=[V.str a,V.str b,V.str c]) (i:=1) (X:= .str b) (.lst _) (by decide) rfl ?_)
  refine LK (fnc (z1Y H ha2 ?_))
  rw[eb]
  refine LK (z0I (xs:=[V.str a,V.str b,V.str c]) (i:=2) (X:= .str c) (.lst _) (by decide) rfl ?_)
  refine LK (fnc (z1Y H ha3 ?_))
  rw[ec]
  clear eb ec ha1 ha2 ha3
  cases ob with
  |none=>exact q
  |some l=>
   cases oc with
   |none=>exact q
   |some h=>
    have q:Q (optN (if h<l then none else some (a,l,h))) σ:=q
    refine z0p (λhb=> ?_) λhb=> ?_
    ·rw[if_pos (AD hb)] at q;exact q
    ·rw[if_neg (AW hb)] at q
     clear hb
     refine LK (z0I (xs:=[V.str a,V.str b,V.str c]) (i:=0) (X:= .str a) (.lst _) (by decide) rfl ?_)
     exact q
 ·rw[z9c h3] at q
  refine xG H H3 ?_
  intro F m0
  refine LK (z0B (n:=ws.length) (.lst _) (Ab _) (z0E hl (by decide)) ?_)
  refine z2H (by rw[AX (λe:((ws.length:Nat):Int)=3=>h3 (by exact Br e))];rfl) ?_
  exact q
noncomputable def z2L(r1:Stmt)(r2:Stmt):TC:=⟨[.X r1,.X r2],[.inl r1,.inl r2],[([0],none),([1],none)]⟩
theorem z7L(H:G1 C){x dx:Addr}{o:Obj}(q:∀σ',Dk σ' x [] (λ_=>[]) []->Q .none σ'):CW C (d+3) (.ref 302) [.ref x] ((x,o,.inst 364 dx [])::σ) Q:=by
 refine z0M (G1.kin ‹_›) ["self"] [("Shop",.ref 272)] (by kernel_rfl) (vs1 λ_=>by kernel_rfl) rfl (gA ‹_› [44]) ?_
 intro η hsc
 clear hsc
 refine xG H (z2L _ _) ?_
 intro F m0
 refine LK ?_
 show AS C η ["self"] [("Shop",.ref 272)] true _ (exec _ η) [some (.ref x)] _ _
 refine z4b (z7x H) (z3b (z6G H) ?_)
 with_reducible refine z0o ?_
 refine⟨rfl,z8n H λi k dx2 σ1 f1 f2 f3 f4 f5 f6=> ?_⟩
 with_reducible refine z0d ?_
 refine⟨x,dx,[],rfl,⟨o,f6 _ (.head _)⟩,rfl,by decide,λσ2 U=> ?_⟩
 refine LK ?_
 show AS C η ["self"] [("Shop",.ref 272)] true _ (exec _ η) [some (.ref x)] _ _
 refine z4b (z26 H) (z1C (z0e ⟨Nat.zero_le _,?_⟩))
 with_reducible refine z0d ?_
 refine⟨x,dx,[("shop",.ref i)],rfl,U.here,by rw[List.lookup_cons,show(("wish":Str)=="shop")=false by decide+kernel];rfl,AH rfl,λσ3 U3=> ?_⟩
 have ni:i≠x:=(f1.ne At.hd).symm
 have nk:k≠x:=(f2.ne At.hd).symm
 refine q σ3 (.mk (i:=i) (k:=k) (kv:=[]) ⟨⟨dx,U3.here⟩,⟨⟨dx2,U3.at (U.at f4 ni) ni⟩,U3.at (U.at f5 nk) nk,Aw,by decide,(λ_ h=>nomatch h),(λ_ _=>rfl),(λ_=>(B6.nil (w:="")).e3),Au.mpr ⟨λh=>f3 (Af.mp h),Au.mpr ⟨Av,Aw⟩⟩⟩,λh=> ?_⟩ rfl .nil)
 rcases Ae.mp h with e|h
 ·exact ni e.symm
 ·exact nk (Af.mp h).symm
theorem y4s(H:G1 C)(q:∀x σ',Dk σ' x [] (λ_=>[]) []->Q (.ref x) σ'):CW C (d+4) (.ref 364) [] σ Q:=by
 refine z93 (y1d H) λx dx o hf=> ?_
 exact z7L H λσ' h=>⟨rfl,q x σ' h⟩
noncomputable def z7o(l:List (Int×List z0b))(m:Int):List z0b:=(l.find? λp=>decide (p.1=m)).elim [] (·.2)
noncomputable def seF(l:List (Int×List z0b)):List (Int×List z0b):=(z2u (l.map (·.1))).map λm=>(m,z7o l m)
theorem y4c{l:List (Int×List z0b)}(hn:(l.map (·.1)).Nodup){p:Int×List z0b}(h:p∈l):(p.1,z7o l p.1)=p:=by
 unfold z7o
 rw[z23 hn (show(p.1,p.2)∈l from h)];rfl
theorem z3U{l:List (Int×List z0b)}(hn:(l.map (·.1)).Nodup):(seF l).Perm l:=by
 have e:(l.map (·.1)).map (λm=>(m,z7o l m))=l:=by
  rw[AJ]
  exact(List.map_congr_left λp hp=>y4c hn hp).trans (List.map_id _)
 have:=(z1m (l.map (·.1))).map λm=>(m,z7o l m)
 rw[e] at this
 exact this
theorem z7A(l:List (Int×List z0b)):(seF l).map (·.1)=z2u (l.map (·.1)):=by unfold seF;rw[AJ];exact List.map_id _
theorem y4k{l:List (Int×List z0b)}(h:B6 w l):B6 w (seF l):=by
 have p:=z3U h.nd
 exact⟨by rw[z7A];exact(z1m _).nodup_iff.mpr h.nd,by rw[p.length_eq];exact h.len,λq hq=>h.mb q (p.mem_iff.mp hq),λq hq=>h.nok q (p.mem_iff.mp hq)⟩
def HeI(dk x k2:Addr)(W:List Str)(es:ES)(σ:Sto)(i:Nat)(m₀:Loc)(τ₀:Sto):Prop:=∀P:Loc->Sto->Prop,(∀{kv:LA} {es':ES} {u v:Option V} {τ:Sto},C1 τ x k2 kv es'->kv.map (·.1)=W.take i->(∀w∈W.take i,es' w=seF (es w))->(∀p∈kv,A4 σ p.2)->(∀p∈σ,p∈τ)->P [some (.ref dk),some (.ref x),u,v] τ)->P m₀ τ₀
theorem HeI.mk{dk x k2:Addr}{W:List Str}{es:ES}{σ:Sto}{i:Nat}{kv:LA}{es':ES}{u v:Option V}{τ:Sto}(x0:C1 τ x k2 kv es')(x1:kv.map (·.1)=W.take i)(x2:(∀w∈W.take i,es' w=seF (es w)))(x3:(∀p∈kv,A4 σ p.2))(x4:(∀p∈σ,p∈τ)):HeI dk x k2 W es σ i [some (.ref dk),some (.ref x),u,v] τ:=λ_ k=>k x0 x1 x2 x3 x4
def HjI(dk x k2:Addr)(kv:LA)(es':ES)(w:Str)(l:List (Int×List z0b))(σ:Sto)(j:Nat)(m₀:Loc)(τ₀:Sto):Prop:=∀P:Loc->Sto->Prop,(∀{kv':LA} {v:Option V} {τ:Sto},C1 τ x k2 kv' (z03 es' w (l.take j))->(j=0/\kv'=kv∨0<j/\kv'.map (·.1)=kv.map (·.1)++[w])->(∀p∈kv',A4 σ p.2)->(∀p∈σ,p∈τ)->P [some (.ref dk),some (.ref x),some (.str w),v] τ)->P m₀ τ₀
theorem HjI.mk{dk x k2:Addr}{kv:LA}{es':ES}{w:Str}{l:List (Int×List z0b)}{σ:Sto}{j:Nat}{kv':LA}{v:Option V}{τ:Sto}(x0:C1 τ x k2 kv' (z03 es' w (l.take j)))(x1:(j=0/\kv'=kv∨0<j/\kv'.map (·.1)=kv.map (·.1)++[w]))(x2:(∀p∈kv',A4 σ p.2))(x3:(∀p∈σ,p∈τ)):HjI dk x k2 kv es' w l σ j [some (.ref dk),some (.ref x),some (.str w),v] τ:=λ_ k=>k x0 x1 x2 x3
noncomputable def z4w(r1:Stmt):TC:=⟨[.X r1,.L 0,.att 364 "shop",.mI 272 "wares",.H (.ref 269) 0,.forL 2 [.L 0,.att 364 "shop",.mI 272 "makes",.L 2,.H (.ref 255) 1,.forL 3 [.L 1,.mI 272 "put",.L 2,.L 3,.L 0,.att 364 "shop",.mI 272 "needs",.L 2,.L 3,.H (.ref 262) 2,.H (.ref 241) 3,.pop]],.L 1,.ret],[.inl r1],[([0],none)]⟩
structure Hld(σ:Sto)(ks:List Str)(es:ES)(x k:Addr)(kv:LA)(es':ES)(σ':Sto):Prop where
 sh:C1 σ' x k kv es'
 kp:(kv.map (·.1)).Perm ks
 ep:∀w,(es' w).Perm (es w)
 fx:A4 σ x
 fk:A4 σ k
 fv:∀p∈kv,A4 σ p.2
 sub:∀p∈σ,p∈σ'
theorem y1E(H:G1 C)(D:F8 σ dk i k kv es wi)(S:C0 (kv.map (·.1)) es wi)(q:∀x k2 kv2 es2 σ',Hld σ (kv.map (·.1)) es x k2 kv2 es2 σ'->Q (.ref x) σ'):CW C (d+5) (.ref 309) [.ref dk] σ Q:=by
 refine z0M (G1.kin ‹_›) ["self","found","ware","make"] [("Shop",.ref 272)] (by kernel_rfl) (vs1 λ_=>by kernel_rfl) rfl (gA ‹_› [44]) ?_
 intro η hsc
 clear hsc
 obtain⟨dx0,hin0⟩:=D.inst
 obtain⟨dxs,hins⟩:=D.sh.inst
 have hW:∀v∈z2e (kv.map (·.1)),v∈kv.map (·.1):=λv hv=>(z1n _).mem_iff.mp hv
 have hWn:(z2e (kv.map (·.1))).Nodup:=(z1n _).nodup_iff.mpr S.nd
 have hWl:(z2e (kv.map (·.1))).length<=12:=by rw[(z1n _).length_eq];exact S.l12
 have hWp:=z1n (kv.map (·.1))
 refine xG H (z4w _) ?_
 intro F m0
 refine LK ?_
 show AS C η ["self","found","ware","make"] [("Shop",.ref 272)] true _ (exec _ η) [some (.ref dk),none,none,none] _ _
 refine z1F (z3b (z6G H) ?_)
 with_reducible refine z0o ?_
 refine⟨rfl,z8n H λx k2 dx σ1 f1 f2 f3 f4 f5 f6=> ?_⟩
 with_reducible refine z2K ?_
 have at1:∀{τ:Sto},(∀p∈σ,p∈τ)->∀{a:Addr} {y:AO},At σ a y->At τ a y:=λ{τ} h {a y} hx=>by obtain⟨o,ho⟩:=hx;exact⟨o,h _ ho⟩
 refine LK (z1w (at1 f6 hin0) ?_)
 refine LK (z0k (at1 f6 hins) ?_)
 refine LK (fnc (z9l H (D.sh.frame λa _ y hy=>at1 f6 hy) (.inl ?_)))
 generalize z2e (kv.map (·.1))=W at hW hWn hWl hWp
 refine LK (.mk _ _ (HeI dk x k2 W es σ) (.lst _) (.mk (kv:=[]) (es':=λ_=>[]) ⟨⟨dx,f4⟩,f5,Aw,by decide,(λ_ h=>by cases h),(λ_ _=>rfl),(λ_=>(B6.nil (w:="")).e3),Au.mpr ⟨λh=>f3 (Af.mp h),Au.mpr ⟨Av,Aw⟩⟩⟩ rfl (λ_ h=>by cases h) (λ_ h=>by cases h) f6) (λii X hX m τ hI QB hQB _=> ?_) λm τ hI=> ?_)
 ·clear q
  apply hI;intro kv1 es' u v τ T hkeys hes hfp hkp
  rw[Al] at hX
  apply z0Z hX;intro w hwe
  have hwm:=Ak hwe
  have htk:=z1s hwe
  have hnew:w∉kv1.map (·.1):=by rw[hkeys];exact z4V hWn hwe
  have hil:=(An.mp hwe).1
  have hkl:kv1.length<12:=by
   have:=congrArg List.length hkeys
   rw[Ab,AR] at this
   rw[this];exact AG (Bi _ _) (AF hil hWl)
  have hok:=S.eok w
  have hok2:=y4k hok
  have hw:=S.wok _ (hW w hwm)
  have hne1:=S.ne _ (hW w hwm)
  have hsl:(seF (es w)).length=(es w).length:=(z3U hok.nd).length_eq
  clear hX hwe hil
  refine LK (z1w (at1 hkp hin0) ?_)
  refine LK (z0k (at1 hkp hins) ?_)
  refine LK (fnc (z4W H (D.sh.frame λa _ y hy=>at1 hkp hy) hw (.inl ?_)))
  rw[<-z7A]
  refine LK (.mk _ _ (HjI dk x k2 kv1 es' w (seF (es w)) σ) (.lst _) (.mk (kv':=kv1) (by rw[List.take_zero,z9j (T.out w hnew)];exact T) (.inl ⟨rfl,rfl⟩) hfp hkp) (λj X hX m τ2 hI QB hQB' _=> ?_) λm τ2 hI=> ?_)
  ·clear hQB hes hkeys hne1 T hfp hkp htk
   apply hI;intro kv' v' τ2 T2 hk2 hfp2 hkp2
   rw[Al,Al] at hX
   cases hme:(seF (es w))[j]? with
   |none=>rw[hme] at hX;cases hX
   |some e=>
   obtain⟨mk,ns⟩:=e
   rw[hme] at hX
   have hX:some (V.int mk)=some X:=hX
   cases hX
   have hmem:=Ak hme
   have hmem1:(mk,ns)∈es w:=(z3U hok.nd).mem_iff.mp hmem
   have hjl:=(An.mp hme).1
   have hns:=hok2.nok _ hmem
   have hmb:=hok2.mb _ hmem
   have hjt:=z1s hme
   have hjnew:mk∉(z03 es' w ((seF (es w)).take j) w).map (·.1):=by rw[z0m,List.map_take];exact z4V hok2.nd (z2h hme)
   have hj8:(z03 es' w ((seF (es w)).take j) w).length≠8:=by rw[z0m,AR];exact Bq (AG (Bi _ _) (AF hjl hok2.len))
   have hokj:=hok2.tk (j+1)
   obtain⟨dx',hin⟩:=T2.inst
   have hkl2:w∉kv'.map (·.1)->j=0/\kv'=kv1:=λhno=>by
    rcases hk2 with h|⟨_,e⟩
    ·exact h
    ·rw[e] at hno;exact absurd (Aj _ (.head _)) hno
   clear hme hjl hmem
   refine LK (z0k hin ?_)
   refine LK (z1w (at1 hkp2 hin0) ?_)
   refine LK (z0k (at1 hkp2 hins) ?_)
   refine LK (fnc (z3k H (D.sh.frame λa _ y hy=>at1 hkp2 hy) hw hmb.1 hmb.2 hmem1 (.inr λnl onl hfn=> ?_)))
   have T3:C1 ((nl,onl,.list (ns.map z0f))::τ2) x k2 kv' (z03 es' w ((seF (es w)).take j)):=T2.frame λa _ y hy=>hy.cons _
   clear T2 hin
   refine LK (fnc (z9k H T3 hw hmb.1 hmb.2 At.hd hns hjnew hj8 (λhno e=>Bq hkl (by rw[<-(hkl2 hno).2];exact e)) (λa ha σ2 U=> ?_) λhno b2 σ2 hf h1 h2 h3=> ?_))
   ·rw[z0m,<-hjt] at U
    have T4:=T3.set ha hokj U
    rw[z3i] at T4
    refine hQB' _ _ trivial (.mk T4 (.inr ⟨Nat.succ_pos _,?_⟩) hfp2 λp hp=>U.keep p (.tail _ (hkp2 p hp)) λe=>hfp2 _ ha p hp e)
    rcases hk2 with⟨_,rfl⟩|⟨_,e⟩
    ·exact absurd (Ah.mpr ⟨_,ha,rfl⟩) hnew
    ·exact e
   ·obtain⟨rfl,rfl⟩:=hkl2 hno
    have T4:=T3.add hno hkl hokj hf (by rw[hjt];exact h1) h2 h3
    rw[z3i] at T4
    have kp:∀p∈σ,p∈σ2:=λp hp=>h3 p (.tail _ (hkp2 p hp)) (f2 p hp)
    refine hQB' _ _ trivial (.mk T4 (.inr ⟨Nat.succ_pos _,Am⟩) (λp hp=>(Ad.mp hp).elim (hfp2 p) λh=>Af.mp h▸λp' hp'=>hf p' (.tail _ (hkp2 p' hp'))) kp)
  ·apply hI;intro kv' v' τ2 T2 hk2 hfp2 hkp2
   have hz:((((seF (es w)).map (·.1)).map V.int)).length=(seF (es w)).length:=by rw[Ab,Ab]
   rw[hz,AU] at T2
   have hk3:kv'.map (·.1)=kv1.map (·.1)++[w]:=by
    rcases hk2 with⟨e,_⟩|⟨_,e⟩
    ·exact absurd (List.eq_nil_of_length_eq_zero (hsl▸hz▸e)) hne1
    ·exact e
   refine hQB _ _ trivial (.mk T2 (by rw[hk3,htk,hkeys]) (λv hv=> ?_) hfp2 hkp2)
   rw[htk] at hv
   by_cases e:v=w
   ·rw[e,z0m]
   ·rw[z0t e]
    exact(Ad.mp hv).elim (hes v) λh=>absurd (Af.mp h) e
 ·apply hI;intro kv1 es' u v τ T hkeys hes hfp hkp
  rw[Ab,AU] at hkeys hes
  refine q x k2 kv1 es' τ ⟨T,by rw[hkeys];exact hWp,λw=> ?_,f1,f2,hfp,hkp⟩
  by_cases h:w∈W
  ·rw[hes w h];exact z3U (S.eok w).nd
  ·rw[T.out w (by rw[hkeys];exact h),S.out w λhm=>h (hWp.mem_iff.mpr hm)]
def SlI(dk:V)(fd:V)(a:Addr)(ps:LI)(σ:Sto)(j:Nat)(m₀:Loc)(τ₀:Sto):Prop:=∀P:Loc->Sto->Prop,(∀{o:Obj} {u v:Option V},P [some dk,some fd,some (.ref a),u,v] ((a,o,.list ((("pick":Str)::((ps.take j).map prT).flatten).map V.str))::σ))->P m₀ τ₀
theorem SlI.mk{dk:V}{fd:V}{a:Addr}{ps:LI}{σ:Sto}{j:Nat}{o:Obj}{u v:Option V}:SlI dk fd a ps σ j [some dk,some fd,some (.ref a),u,v] ((a,o,.list ((("pick":Str)::((ps.take j).map prT).flatten).map V.str))::σ):=λ_ k=>k
section
variable {mk:Int} {a:V}
inductive C4(ks:List Str)(es:ES)(wi:List z0b):Option D8->V->List Str->(ES)->List z0b->Prop
 |no:C4 ks es wi none .none ks es wi
 |settle:C4 ks es wi (some .settle) (.str (z5m es wi)) ks es wi
 |forget:C4 ks es wi (some .forget) (.str "done") ks es []
 |put {w:Str} {mk:Int} {ns:List z0b} {c:Str} {ks':List Str} {es':ES}:D5 ks es w mk ns c ks' es'->C4 ks es wi (some (.put w mk ns)) (.str c) ks' es' wi
 |take {w:Str} {mk:Int} {c:Str} {ks':List Str} {es':ES}:G2 ks es w mk c ks' es'->C4 ks es wi (some (.take w mk)) (.str c) ks' es' wi
 |wish {n:z0b}:wi.length<8->C4 ks es wi (some (.wish n)) (.str "done") ks es (wi++[n])
 |wish8 {n:z0b}:wi.length=8->C4 ks es wi (some (.wish n)) (.str "bad wish") ks es wi
 |why {w:Str}:C4 ks es wi (some (.why w)) (.str (z6T es wi w)) ks es wi
end
theorem nS{α:Type}{x:α}{P:Prop}(h:none=some x):P:=nomatch h
section
variable {a v:V} {o:Option D8} {mi:Int} {n:z0b} {G:Prop}
noncomputable def an0(es:ES)(wi:List z0b):Option D8->Option V
 |none=>some .none
 |some .settle=>some (.str (z5m es wi))
 |some (.why w)=>some (.str (z6T es wi w))
 |_=>none
abbrev Qd(dk:Addr)(Q:VP)(a:V)(ks:List Str)(es:ES)(wi:List z0b):Prop:=∀σ',Dk σ' dk ks es wi->Q a σ'
theorem C4.q0(R:C4 ks es wi o a ks' es' wi')(e:an0 es wi o=some v)(q:Qd dk Q a ks' es' wi'):Qd dk Q v ks es wi:=
 R.casesOn (motive:=λo a ks' es' wi' _=>an0 es wi o=some v->Qd dk Q a ks' es' wi'->Qd dk Q v ks es wi) (λe q=>Bs e▸q) (λe q=>Bs e▸q) (λe=>nS e) (λ_ e=>nS e) (λ_ e=>nS e) (λ_ e=>nS e) (λ_ e=>nS e) (λe q=>Bs e▸q) e q
theorem C4.qf(R:C4 ks es wi o a ks' es' wi')(e:o=some .forget)(q:Qd dk Q a ks' es' wi'):Qd dk Q (.str "done") ks es []:=
 R.casesOn (motive:=λo a ks' es' wi' _=>o=some .forget->Qd dk Q a ks' es' wi'->Qd dk Q (.str "done") ks es []) (λe=>nS e) (λe=>D8.noConfusion (Bs e)) (λ_ q=>q) (λ_ e=>D8.noConfusion (Bs e)) (λ_ e=>D8.noConfusion (Bs e)) (λ_ e=>D8.noConfusion (Bs e)) (λ_ e=>D8.noConfusion (Bs e)) (λe=>D8.noConfusion (Bs e)) e q
theorem C4.qp(R:C4 ks es wi o a ks' es' wi')(e:o=some (.put w mi ns))(q:Qd dk Q a ks' es' wi')(k:∀c ks₂ es₂,D5 ks es w mi ns c ks₂ es₂->Qd dk Q (.str c) ks₂ es₂ wi->G):G:=
 R.casesOn (motive:=λo a ks' es' wi' _=>o=some (.put w mi ns)->Qd dk Q a ks' es' wi'->G) (λe=>nS e) (λe=>D8.noConfusion (Bs e)) (λe=>D8.noConfusion (Bs e)) (λP e q=>by cases e;exact k _ _ _ P q) (λ_ e=>D8.noConfusion (Bs e)) (λ_ e=>D8.noConfusion (Bs e)) (λ_ e=>D8.noConfusion (Bs e)) (λe=>D8.noConfusion (Bs e)) e q
theorem C4.qt(R:C4 ks es wi o a ks' es' wi')(e:o=some (.take w mi))(q:Qd dk Q a ks' es' wi')(k:∀c ks₂ es₂,G2 ks es w mi c ks₂ es₂->Qd dk Q (.str c) ks₂ es₂ wi->G):G:=
 R.casesOn (motive:=λo a ks' es' wi' _=>o=some (.take w mi)->Qd dk Q a ks' es' wi'->G) (λe=>nS e) (λe=>D8.noConfusion (Bs e)) (λe=>D8.noConfusion (Bs e)) (λ_ e=>D8.noConfusion (Bs e)) (λP e q=>by cases e;exact k _ _ _ P q) (λ_ e=>D8.noConfusion (Bs e)) (λ_ e=>D8.noConfusion (Bs e)) (λe=>D8.noConfusion (Bs e)) e q
theorem C4.qw(R:C4 ks es wi o a ks' es' wi')(e:o=some (.wish n))(q:Qd dk Q a ks' es' wi')(k:wi.length<8->Qd dk Q (.str "done") ks es (wi++[n])->G)(k8:wi.length=8->Qd dk Q (.str "bad wish") ks es wi->G):G:=
 R.casesOn (motive:=λo a ks' es' wi' _=>o=some (.wish n)->Qd dk Q a ks' es' wi'->G) (λe=>nS e) (λe=>D8.noConfusion (Bs e)) (λe=>D8.noConfusion (Bs e)) (λ_ e=>D8.noConfusion (Bs e)) (λ_ e=>D8.noConfusion (Bs e)) (λh e q=>by cases e;exact k h q) (λh e q=>by cases e;exact k8 h q) (λe=>D8.noConfusion (Bs e)) e q
end
section
variable {mk:Int} {a:V}
theorem z4o(H:G1 C)(g:Gd es wi)(S:C1 σ i k kv es){x:V}{Px:Sto->Prop}(hx:A8 σ x (.list (wi.map z0f)) Px)
  (q1:∀(t:Str) r ys,(t==("none":Str))=false->(t==("pick":Str))=true->G5 r->(∀y∈ys,AgV y)->ys.length<=13->sdF es wi 13 []= .inl (r,ys)->Q (.tup [.str t,.lst (r.map prV),.lst ys]) σ)
  (q2:∀(t:Str) Z,(t==("none":Str))=true->(t==("pick":Str))=false->sdF es wi 13 []= .inr Z->Q (.tup [.str t,Z]) σ):CW C (d+21) (.ref 206) [.ref i,x] σ Q:=by
 refine z9O H g S hx ?_
 unfold stF
 cases e:sdF es wi 13 [] with
 |inl x=>
  obtain⟨h1,h2,h3⟩:=z7z g G5.nil (λ_ h=>nomatch h) (show sdF es wi 13 []= .inl (x.1,x.2) from e)
  exact q1 "pick" x.1 x.2 (by decide+kernel) (by decide+kernel) h1 h2 h3 e
 |inr Z=>exact q2 "none" Z (by decide+kernel) (by decide+kernel) e
noncomputable def z16(r1:Expr)(r2:Expr):TC:=⟨[.L 0,.att 364 "shop",.L 0,.att 364 "wish",.call (.ref 206) 2,.A 1,.L 1,.S 0,.P (.str "none"),.K .Eq,.I [.P (.str "none"),.ret] [],.raw r1,.A 2,.L 1,.S 1,.forL2 3 4 [.raw r2,.pop],.P (.str " "),.Y "str",.L 2,.H (.bi "str.join") 1,.ret],[.inr r1,.inr r2],[([2],some []),([3,0,0],some [])]⟩
theorem prT_len:∀ps:LI,((ps.map prT).flatten).length=2*ps.length
 |[]=>rfl
 |p::ps=>by rw[Ap,AM,Ag,prT_len ps,Aq];show 2+_=_;exact(by rw[Nat.mul_succ,Nat.add_comm])
theorem y4i{ps:LI}(pb:G5 ps):∀v∈("pick":Str)::(ps.map prT).flatten,v.length<=20:=Aa.mpr ⟨by decide+kernel,λv hv=>by
 obtain⟨l,hl,hv⟩:=List.mem_flatten.mp hv
 obtain⟨p,hp,rfl⟩:=Ah.mp hl
 have:=pb.ok p hp
 rcases Ae.mp hv with rfl|hv
 ·exact nD this.1.hi rfl
 ·rw[Af.mp hv];exact Ac (z1t this.2.1 this.2.2).2.2 (by decide)⟩
theorem z0S{i:Int}(h1:1<=i)(h2:i<=999):i.natAbs.log2<1920:=AG (Nat.log2_le_self _) (by obtain⟨k,rfl⟩:=Int.eq_ofNat_of_zero_le (AQ (by decide) h1);exact AG (Bk.mp h2) (by decide))
noncomputable abbrev vQ:List Str:=["self","found","words","ware","make"]
theorem z5J(H:G1 C)(D:F8 σ dk i k kv es wi)(S:C0 (kv.map (·.1)) es wi)(q:Q (.str (z5m es wi)) σ):CW C (d+22) (.ref 342) [.ref dk] σ Q:=by
 refine z1R ?_
 refine z0M (G1.kin ‹_›) vQ [("settle",.ref 206),("str",.type "str")] (by kernel_rfl) (vs1 λ_=>by kernel_rfl) rfl (gA ‹_› [46,1]) ?_
 intro η hsc
 clear hsc
 obtain⟨dx,hin⟩:=D.inst
 have g:=S.gd
 refine xG H (z16 _ _) ?_
 intro F m0
 refine LK (z1w hin ?_)
 refine LK (z2m hin ?_)
 refine LK (fnc (z4o H g D.sh (.lst _) (λt r ys e1 e2 pb hag hyl ee=> ?_) λt Z e1 e2 ee=> ?_))
 ·have q:Q (.str (Txt.join " " ("pick"::(r.map prT).flatten))) σ:=by unfold z5m at q;rw[ee] at q;exact q
  have hrl:=pb.len
  refine z1o e1 ?_
  refine LK ?_
  show AT C η vQ _ true _ (eval _ η) [some (.ref dk),some (.tup [.str t,.lst (r.map prV),.lst ys]),none,none,none] _ _
  refine z1Z (z0c (z0r (z0e ⟨by decide,λa o hf=> ?_⟩)))
  refine LK (.mk _ _ (SlI (.ref dk) (.tup [.str t,.lst (r.map prV),.lst ys]) a r σ) (.lst _) (.mk) (λj X hX m τ hI QB hQB _=> ?_) λm τ hI=> ?_)
  ·clear q
   rw[Al] at hX
   apply z0Z hX;intro p hp
   have hpo:=pb.ok p (Ak hp)
   apply hI;intro o u v
   refine LK ?_
   show AT C η vQ _ true _ (eval _ η) [some (.ref dk),some (.tup [.str t,.lst (r.map prV),.lst ys]),some (.ref a),some (.str p.1),some (.int p.2)] _ _
   refine z3c M_extend ?_
   with_reducible refine z0d ?_
   refine⟨tyL At.hd,?_⟩
   refine z0c (z1C ?_)
   repeat' with_reducible first|refine z0G ?_|refine z0d ?_|refine z0c ?_|refine z0e ?_|refine z0o ?_|refine z1P ?_|fail
   refine z1L (z0S hpo.2.1 hpo.2.2) ?_
   with_reducible refine z0e ?_
   refine⟨by with_unfolding_all exact AH rfl,?_⟩
   with_reducible refine z0e ?_
   have hj:=(An.mp hp).1
   refine y3H (.lst _) (by rw[Ab,Aq,prT_len,AR];show _+2<=_;exact nD (Bg (Bj 2 (Ac (Nat.min_le_right _ _) hrl)) 3) rfl) λo'=> ?_
   refine hQB _ _ trivial ?_
   have hm:SlI (.ref dk) (.tup [.str t,.lst (r.map prV),.lst ys]) a r σ (j+1) _ ((a,o',.list ((("pick":Str)::((r.take (j+1)).map prT).flatten).map V.str))::σ):= .mk (u:=some (.str p.1)) (v:=some (.int p.2))
   rw[z1s hp,Am,List.flatten_append,<-List.cons_append,Am] at hm
   exact hm
  ·apply hI;intro o u v
   rw[Ab,AU]
   refine LK ⟨z2c,?_⟩
   refine LK (z4a (.refL (.head _)) (z2p (by decide+kernel) (y4i pb) (by rw[Aq,prT_len];exact nD (Bg (Bj 2 hrl) 1) rfl)) ?_)
   exact⟨σ,As _ _,q⟩
 ·have q:Q (.str "none") σ:=by unfold z5m at q;rw[ee] at q;exact q
  refine z2H e1 ?_
  exact⟨σ,.refl _,q⟩
end
theorem y1J{r:LI}{ys:List V}{j:Nat}{X:V}(h:(z7W (r.map prV) ys)[j]? =some X):∃p y,(r.zip ys)[j]? =some (p,y)/\y∈ys/\X= .tup [prV p,y]:=by
 obtain⟨Y,Z,h1,h2,rfl⟩:=z9n h
 rw[Al] at h1
 obtain⟨p,hp,rfl⟩:=Bw.mp h1
 exact⟨p,Z,List.getElem?_zip_eq_some.mpr ⟨hp,h2⟩,Ak h2,rfl⟩
theorem z7X(r:LI)(ys:List V):(z7W (r.map prV) ys).length=(r.zip ys).length:=by
 unfold z7W;rw[Ab,List.length_zip,List.length_zip,Ab]
noncomputable def kV:V->V:=λX=> .str (kT X)
theorem y3f(as:List (Int×V)):(as.map aV).map kV=(as.map λp=>sI p.1).map V.str:=by rw[AJ,AJ];rfl
theorem y26{as:List (Int×V)}(h:∀p∈as,1<=p.1/\p.1<=999):∀v∈("against":Str)::as.map λp=>sI p.1,v.length<=20:=Aa.mpr ⟨by decide+kernel,λv hv=>by
 obtain⟨p,hp,rfl⟩:=Ah.mp hv
 exact Ac (z1t (h p hp).1 (h p hp).2).2.2 (by decide)⟩
def WyI(w:Str)(r:LI)(ys:List V)(a0 a1 a2:V)(σ:Sto)(j:Nat)(m₀:Loc)(τ₀:Sto):Prop:=∀P:Loc->Sto->Prop,(∀{u v:Option V},(∀i<j,∀p,(r.zip ys)[i]? =some p->(p.1.1==w)=false)->P [some a0,some a1,some a2,u,v] σ)->P m₀ τ₀
theorem WyI.mk{w:Str}{r:LI}{ys:List V}{a0 a1 a2:V}{σ:Sto}{j:Nat}{u v:Option V}(x0:(∀i<j,∀p,(r.zip ys)[i]? =some p->(p.1.1==w)=false)):WyI w r ys a0 a1 a2 σ j [some a0,some a1,some a2,u,v] σ:=λ_ k=>k x0
theorem z9m{r:LI}{ys:List V}{j:Nat}{p:Str×Int}{y:V}(h:∀i<j,∀p,(r.zip ys)[i]? =some p->(p.1.1==w)=false)(hp:(r.zip ys)[j]? =some (p,y))(hn:(p.1==w)=false):∀i<j+1,∀p,(r.zip ys)[i]? =some p->(p.1.1==w)=false:=λi hi p' hp'=>by
 rcases Nat.lt_succ_iff_lt_or_eq.mp hi with hi|rfl
 ·exact h i hi p' hp'
 ·rw[hp] at hp';cases hp';exact hn
noncomputable def z2f(r1:Expr):TC:=⟨[.L 3,.S 0,.L 1,.S 0,.K .Eq,.I [.P (.str " "),.Y "str",.P (.str "against"),.lst 1,.raw r1,.B .Add,.H (.bi "str.join") 1,.ret] []],[.inr r1],[([0,0,0],some [1,1])]⟩
noncomputable def z1N(r1:Stmt):TC:=⟨[.L 1,.len,.P (.int 1),.K .NotEq,.M .Or [.L 1,.S 0,.call (.ref 116) 1,.V,.not,.M .Or [.P (.bool false)]],.I [.P .none,.ret] [],.L 0,.att 364 "shop",.L 0,.att 364 "wish",.call (.ref 206) 2,.A 2,.L 2,.S 0,.P (.str "pick"),.K .Eq,.I [.X r1] [],.P (.str "no pick"),.ret],[.inl r1],[([2,0,0],none)]⟩
noncomputable abbrev vP:List Str:=["self","words","found","pair","against"]
theorem z8r(H:G1 C)(D:F8 σ dk i k kv es wi)(S:C0 (kv.map (·.1)) es wi){r:List Str}(hr:∀w∈r,Asc w)(hl:r.length<=100)(q1:prsW r=none->Q .none σ)(q2:∀w,prsW r=some (.why w)->Q (.str (z6T es wi w)) σ):CW C (d+22) (.ref 347) [.ref dk,.lst (r.map V.str)] σ Q:=by
 refine z0M (G1.kin ‹_›) vP [("len",.bi "len"),("is_ware",.ref 116),("settle",.ref 206),("zip",.type "zip")] (by kernel_rfl) (vs2 λ_ _=>by kernel_rfl) rfl (gA ‹_› [2,10,46,47]) ?_
 intro η hsc
 obtain⟨dx,hin⟩:=D.inst
 have g:=S.gd
 by_cases h1:r.length=1
 ·obtain⟨w,rfl⟩:=List.length_eq_one_iff.mp h1
  have hw:=hr w (.head _)
  clear hr hl h1
  refine xG H (z1N _) ?_
  intro F m0
  refine LK (z0B (n:=1) (.lst _) rfl (z0i (AH rfl)) ?_)
  refine LK (z0I (xs:=[V.str w]) (i:=0) (X:= .str w) (.lst _) (by decide) rfl ?_)
  refine LK (fnc (z19 H (n:=0) (.str w hw) ?_))
  refine z0p (λhb=> ?_) λhb=> ?_
  ·exact q1 (if_neg (by rw[show z1i w=false from(Bool.not_eq_true' _).mp hb];exact BB))
  have hb:z1i w=true:=(Bool.not_eq_false' _).mp hb
  have q2:=q2 w (if_pos hb)
  clear q1 hb
  unfold z6T at q2
  refine LK (z1w hin ?_)
  refine LK (z2m hin ?_)
  refine LK (fnc (z4o H g D.sh (.lst _) (λt r ys e1 e2 pb hag hyl ee=> ?_) λt Z e1 e2 ee=> ?_))
  ·rw[ee] at q2
   have q2:Q (.str (whS w r ys)) σ:=q2
   refine z2H e2 ?_
   refine LK ?_
   show AS C η vP _ true _ (exec _ η) [some (.ref dk),some (.lst [.str w]),some (.tup [.str t,.lst (r.map prV),.lst ys]),none,none] _ _
   refine y0u (WyI w r ys (.ref dk) (.lst [.str w]) (.tup [.str t,.lst (r.map prV),.lst ys]) σ) (z9T ?_)
   with_reducible refine z0o ?_
   refine⟨rfl,?_⟩
   repeat' with_reducible first|refine z1f ?_|refine z0G ?_|refine z0d ?_|refine z0n ?_|refine z0u ?_|refine z0c ?_|refine z0e ?_|refine z3H ?_|fail
   refine⟨_,_,_,_,_,_,rfl,.lst _,.lst _,.mk λi h=>absurd h (Nat.not_lt_zero i),λj X hX m τ hI QB hQB hQR=> ?_,λm τ hI=> ?_⟩
   ·apply hI;intro u v hno
    obtain⟨p,y,hp,hy,rfl⟩:=y1J hX
    obtain⟨as,rfl,h8,hb⟩:=hag y hy
    refine z9R ?_
    with_reducible refine z0w PutC.put ?_
    with_reducible refine z0w PutC.put ?_
    refine xG H (z2f _) ?_
    intro F m0
    refine LK (z0I (xs:=[V.str w]) (i:=0) (X:= .str w) (.lst _) (by decide) rfl ?_)
    refine z0p (λhb=> ?_) λhb=> ?_
    ·refine LK ⟨z2c,?_⟩
     refine LK ?_
     show AT C η vP _ true _ (eval _ η) [some (.ref dk),some (.lst [.str w]),some (.tup [.str t,.lst (r.map prV),.lst ys]),some (prV p),some (.lst (as.map aV))] _ _
     refine z0H "one" [] [("str",.type "str")] (by rw[hsc];kernel_rfl) (gA H [1]) .nil (z0W ?_)
     with_reducible refine z0d ?_
     refine⟨_,_,.lst _,z0E h8 (by decide),λenv' he=>z0N (f:=kV) (z0j he) trivial _ _ _ (λX hX K hK=> ?_) ?_⟩
     ·obtain⟨z,hz,rfl⟩:=Ah.mp hX
      repeat' with_reducible first|refine z1f ?_|refine z0G ?_|refine z0d ?_|refine z0n ?_|refine z0u ?_|refine z0c ?_|refine z0e ?_|refine z3H ?_|refine z0o ?_|refine z1P ?_|fail
      refine z1L (z0S (‹∀p∈as,1<=p.1/\p.1<=999› z hz).1 (‹∀p∈as,1<=p.1/\p.1<=999› z hz).2) ?_
      exact hK
     rw[Ay,y3f]
     refine LK (z1q (.lst _) (.lst _) (z0i (by rw[Ab,Ab];show 1+_<=_;exact nD (Be h8 1) rfl)) (z2A ?_))
     refine LK (z4a (xs:=("against":Str)::as.map λp=>sI p.1) (.lst _) (z2p (by decide+kernel) (y26 ‹∀p∈as,1<=p.1/\p.1<=999›) (by rw[Aq,Ab];exact nD (Bh h8) rfl)) ?_)
     refine hQR _ _ _ ?_
     rw[y3p hno hp hb,y0C] at q2
     exact q2
    ·exact hQB _ _ ⟨trivial,trivial⟩ (.mk (z9m hno hp hb))
   ·apply hI;intro u v hno
    rw[z7X] at hno
    rw[y3q hno (AN _)] at q2
    exact q2
  ·rw[ee] at q2
   refine z1o e2 ?_
   exact q2
 ·have e:prsW r=none:=by
   rcases r with _|⟨_,_|⟨_,_⟩⟩
   ·exact rfl
   ·exact absurd rfl h1
   ·exact rfl
  refine xG H (z1N _) ?_
  intro F m0
  refine LK (z0B (n:=r.length) (.lst _) (Ab _) (z0E hl (by decide)) ?_)
  refine z2H (by rw[AX (λe:((r.length:Nat):Int)=1=>h1 (by exact Br e))];rfl) ?_
  exact q1 e
section
variable {mk:Int} {a:V}
theorem F8.putA(D:F8 σ dk i k kv es wi){σ':Sto}{a:Addr}{l:List (Int×List z0b)}(ha:(w,a)∈kv)(ok:B6 w l)(U:C5 σ σ' a (dI (esV l))):F8 σ' dk i k kv (z03 es w l) wi:=by
 obtain⟨dx,hin⟩:=D.inst
 exact⟨⟨dx,U.at hin λe=>D.nm (e▸ .tail _ (.tail _ (Ah.mpr ⟨_,ha,rfl⟩)))⟩,D.sh.set ha ok U,D.nm⟩
theorem F8.add(D:F8 σ dk i k kv es wi){σ':Sto}{b:Addr}{l:List (Int×List z0b)}(hno:w∉kv.map (·.1))(hl:kv.length<12)(ok:B6 w l)(hf:A4 σ b)(h1:At σ' b (dI (esV l)))(h2:At σ' k (dS (kvV (kv++[(w,b)]))))(h3:∀p∈σ,p.1≠k->p∈σ'):F8 σ' dk i k (kv++[(w,b)]) (z03 es w l) wi:=by
 obtain⟨dx,o,hin⟩:=D.inst
 refine⟨⟨dx,o,h3 _ hin λe=>D.nm (by rw[show dk=k from e];exact .tail _ (.head _))⟩,D.sh.add hno hl ok hf h1 h2 h3,λh=> ?_⟩
 have:dk∈(i::k::kv.map (·.2))++[b]:=by simpa using h
 rcases Ad.mp this with h|h
 ·exact D.nm h
 ·exact hf.ne ⟨o,hin⟩ (Af.mp h)
theorem F8.del(D:F8 σ dk i k kv es wi){σ₁ σ':Sto}{a:Addr}(ha:(w,a)∈kv)(U:C5 σ σ₁ a (dI []))(U2:C5 σ₁ σ' k (dS (kvV (kv.filter λp=>decide (p.1≠w))))):F8 σ' dk i k (kv.filter λp=>decide (p.1≠w)) (z03 es w []) wi:=by
 obtain⟨dx,hin⟩:=D.inst
 refine⟨⟨dx,U2.at (U.at hin λe=>D.nm (e▸ .tail _ (.tail _ (Ah.mpr ⟨_,ha,rfl⟩)))) λe=>D.nm (e▸ .tail _ (.head _))⟩,D.sh.del ha U U2,λh=>D.nm ?_⟩
 exact((((List.filter_sublist (l:=kv)).map (·.2)).cons_cons k).cons_cons i).subset h
inductive Hd:Value->Str->Prop
 |need:Hd (.ref 61) "bad need"
 |twice:Hd (.ref 73) "twice"
 |full:Hd (.ref 85) "full"
theorem y2D(H:G1 C)(D:F8 σ dk i k kv es wi)(S:C0 (kv.map (·.1)) es wi){nl:Addr}(hw:A7 w)(h1:1<=mk)(h2:mk<=999)(hnl:At σ nl (.list (ns.map z0f)))(hno:∀n∈ns,A9 n)(hl:ns.length<=20)(R:D5 (kv.map (·.1)) es w mk ns c ks' es')
  (q:c="done"->∀σ',Dk σ' dk ks' es' wi->Q .none σ') (e:∀cl,Hd cl c->Dk σ dk ks' es' wi->EQ cl σ):CE C (d+4) (.ref 241) [.ref i,.str w,.int mk,.ref nl] σ Q EQ:=by
 have hkl:(kv.map (·.1)).length=kv.length:=Ab _
 have Sr:=R.ok S hw h1 h2
 cases R with
 |need hb=>exact z6S H D.sh hw h1 h2 hnl hno hl (.need hb) (e _ .need (.mk D rfl S))
 |twice hn hm=>exact z6S H D.sh hw h1 h2 hnl hno hl (.twice hn hm) (e _ .twice (.mk D rfl S))
 |full hn hm hk h12=>exact z6S H D.sh hw h1 h2 hnl hno hl (.full hn hm hk (hkl▸h12)) (e _ .full (.mk D rfl S))
 |full8 hn hm hk h8=>exact z6S H D.sh hw h1 h2 hnl hno hl (.full8 hn hm (λh=>hkl▸hk h) h8) (e _ .full (.mk D rfl S))
 |old hn hm hk h8=>
  have ok2:=(S.eok w).add hm (by have:=(S.eok w).len;exact Bo this ‹_›) h1 h2 hn
  exact z2k (z9k H D.sh hw h1 h2 hnl hn hm h8 (λh=>absurd hk h) (λa ha σ' U=>q rfl σ' (.mk (D.putA ha ok2 U) rfl Sr)) λhno=>absurd hk hno)
 |new hn hk h12=>
  have e0:es w=[]:=S.out w hk
  have ok2:B6 w [(mk,ns)]:=B6.nil.add Av (by decide) h1 h2 hn
  have hlt:kv.length<12:=by have:=S.l12;rw[hkl] at this h12;exact Bo this h12
  exact z2k (z9k H D.sh hw h1 h2 hnl hn (by rw[e0];exact Av) (by rw[e0];decide) (λ_=>hkl▸h12) (λa ha=>absurd (Ah.mpr ⟨_,ha,rfl⟩) hk) λ_ b σ' hf b1 b2 b3=>q rfl σ' (.mk (D.add hk hlt ok2 hf b1 b2 b3) (by rw[Am];rfl) Sr))
theorem y1y(H:G1 C)(D:F8 σ dk i k kv es wi)(S:C0 (kv.map (·.1)) es wi)(hw:A7 w)(h1:1<=mk)(h2:mk<=999)(R:G2 (kv.map (·.1)) es w mk c ks' es')
  (q:c="done"->∀σ',Dk σ' dk ks' es' wi->Q .none σ') (e:c="no make"->Dk σ dk ks' es' wi->EQ (.ref 97) σ):CE C (d+3) (.ref 248) [.ref i,.str w,.int mk] σ Q EQ:=by
 have Sr:=R.ok S
 have fk:∀{e0:Int×List z0b},e0∈es w->∃a,(w,a)∈kv:=λh=>by
  obtain⟨⟨v,a⟩,h2,h3⟩:=Ah.mp (S.inK h)
  exact⟨a,h3▸h2⟩
 cases R with
 |no hm=>exact y2R H D.sh hw h1 h2 hm (e rfl (.mk D rfl S))
 |one hp hf=>
  obtain⟨a,ha⟩:=fk hp
  exact z2k (z8q H D.sh hw h1 h2 hp ha (λ_ σ' U=>q rfl σ' (.mk (D.putA ha ((S.eok w).filter _) U) rfl Sr)) λh=>absurd h hf)
 |last hp hf=>
  obtain⟨a,ha⟩:=fk hp
  exact z2k (z8q H D.sh hw h1 h2 hp ha (λh=>absurd hf h) λ_ σ₁ σ' U U2=>q rfl σ' (.mk (D.del ha U U2) (by rw[List.filter_map];rfl) Sr))
end
theorem pa1(j:Nat):(2:Int)+(j:Int)*3=((2+3*j:Nat):Int):=by rw[Int.mul_comm];rfl
theorem pa2{j n:Nat}(h:j<n):2+3*j+3<=3*n+1+1:=by
 have:=Bj 3 h
 rw[Nat.mul_succ] at this
 rw[Nat.add_assoc,Nat.add_comm 2];exact Bh (Bh this)
theorem pa3(n:Nat):((2+3*n:Nat):Int)-2=((3*n:Nat):Int):=by rw[Int.natCast_add,Int.add_comm];exact Int.add_sub_cancel _ 2
theorem pf3(n:Nat):((n:Nat):Int).fmod 3=((n%3:Nat):Int):=by rw[Int.fmod_eq_emod_of_nonneg _ (by decide)];rfl
theorem pm3{t:Nat}(h:(t+2)%3=2):t%3=0:=by
 have hl:=Nat.mod_lt t (show 0<3 by decide)
 rw[Nat.add_mod] at h
 generalize t%3=k at h hl
 rcases k with _|_|_|k
 ·rfl
 ·exact absurd h (by decide)
 ·exact absurd h (by decide)
 ·exact absurd hl (BC.mpr (Nat.le_add_left 3 k))
section
variable {mk:Int} {a:V}
theorem y2J{xs:List V}{a b:Nat}(h:a<=b)(hb:b<=xs.length):slL xs (some (a:Int)) (some (b:Int)) none=(xs.drop a).take (b-a):=by
 have e:slL xs (some (a:Int)) (some (b:Int)) none=(sliceRange (a:Int) (b:Int) 1).filterMap (xs[·]?):=by
  show(sliceRange (max 0 (min (if(a:Int)<0 then(a:Int)+xs.length else a) (xs.length:Int))) (max 0 (min (if(b:Int)<0 then(b:Int)+xs.length else b) (xs.length:Int))) 1).filterMap _=_
  rw[z5R (Ac h hb),z5R hb]
 rw[e,sr1 h,List.filterMap_map]
 apply List.ext_getElem?
 intro j
 have key:∀n,a+n<=xs.length->(List.range n).filterMap ((xs[·]?)∘λk=>a+k)=(xs.drop a).take n:=λn=>by
  induction n with
  |zero=>intro _;simp
  |succ n ih=>
   intro hn
   rw[List.range_succ,List.filterMap_append,ih (by exact Nat.le_of_succ_le hn),List.take_add_one]
   congr 1
   have hx:xs[a+n]? =some (xs[a+n]'(by exact Nat.lt_of_succ_le hn)):=Ar (by exact Nat.lt_of_succ_le hn)
   rw[List.getElem?_drop,List.filterMap_cons,show((λx=>xs[x]?)∘λk=>a+k) n=some (xs[a+n]'(by exact PyProof.Rows.place_lt hx)) from hx,hx];rfl
 rw[key (b-a) (by rw[Nat.add_sub_cancel' h];exact hb)]
theorem y2K{xs:List V}{x:V}:slL (x::xs) (some 1) none none=xs:=by
 have e:slL (x::xs) (some 1) none none=(sliceRange ((1:Nat):Int) ((x::xs).length:Int) 1).filterMap ((x::xs)[·]?):=by
  show(sliceRange (max 0 (min (if((1:Nat):Int)<0 then((1:Nat):Int)+(x::xs).length else((1:Nat):Int)) ((x::xs).length:Int))) ((x::xs).length:Int) 1).filterMap _=_
  rw[z5R (by rw[Aq];exact Nat.le_add_left 1 xs.length)]
 rw[e,sr1 (by rw[Aq];exact Nat.le_add_left 1 xs.length),List.filterMap_map]
 have key:∀n,n<=xs.length->(List.range n).filterMap (((x::xs)[·]?)∘λk=>1+k)=xs.take n:=λn=>by
  induction n with
  |zero=>intro _;simp
  |succ n ih=>
   intro hn
   rw[List.range_succ,List.filterMap_append,ih (by exact Nat.le_of_succ_le hn),List.take_add_one]
   congr 1
   have hx:xs[n]? =some (xs[n]'(by exact Nat.lt_of_succ_le hn)):=Ar (by exact Nat.lt_of_succ_le hn)
   have hx1:(x::xs)[1+n]? =some (xs[n]'(by exact PyProof.Rows.place_lt hx)):=by rw[Nat.add_comm 1 n,List.getElem?_cons_succ];exact hx
   rw[List.filterMap_cons,show((λz=>(x::xs)[z]?)∘λk=>1+k) n=some (xs[n]'(by exact PyProof.Rows.place_lt hx)) from hx1,hx];rfl
 rw[key _ (by rw[Aq];exact AN (xs.length+1-1)),List.take_of_length_le (by rw[Aq];exact AN xs.length)]
set_option tactic.hygienic true in
theorem z7u(n:Nat):Builtin.Range.rangeSize 2 ((2+3*n:Nat):Int) 3=(n:Int):=by
 unfold Builtin.Range.rangeSize
 rw[if_pos (by decide)]
 split
 ·rename_i h
  cases n with
  |zero=>exact absurd h (by decide)
  |succ m=>rw[pa3,show((3*(m+1):Nat):Int)-1=((3*m+2:Nat):Int) from Int.add_sub_cancel ((3*m+2:Nat):Int) 1];exact congrArg (λk:Nat=>(k:Int)+1) (Nat.mul_add_div (by decide) m 2)
 ·rename_i h
  rw[(Nat.mul_eq_zero.mp (Nat.le_zero.mp (Nat.le_of_add_le_add_left (show 2+3*n<=2+0 from Bk.mp (Int.not_lt.mp h))))).resolve_left (by decide)];rfl
theorem z9I{n:Nat}(h:n<=100):Builtin.Range.small 2 ((2+3*n:Nat):Int) 3=true:=by
 unfold Builtin.Range.small
 rw[z7u,if_pos (by decide),z7d (by decide) (by decide),z7d (Bl (2+3*n)) (Bk.mpr (nD (Be (Bj 3 h) 2) rfl)),z7d (by decide) (by decide),z7d (Bl n) (Bk.mpr (nD h rfl)),z7d (by exact Int.zero_le_ofNat (2+3*n+(3-Nat.succ 0))) (by exact Bk.mpr (nD (Bg (Be (Bj 3 h) 2) 2) rfl)),Bool.or_true]
 rfl
noncomputable def thF(r:List Str):V->V
 | .int z=>optN (ndF ((r.drop z.toNat).take 3))
 |v=>v
theorem y40{w m:Str}{t:List Str}{n:Nat}(hn:t.length=3*n):(z07 2 3 n).map (thF (w::m::t))=((ch3 t).map ndF).map optN:=by
 rw[ch3_range t (by rw[hn];exact Nat.mul_mod_right 3 n),show t.length/3=n by rw[hn];exact Nat.mul_div_cancel_left n (by decide)]
 unfold z07
 rw[AJ,AJ,AJ]
 refine List.map_congr_left λj _=> ?_
 show optN (ndF (((w::m::t).drop ((2:Int)+(j:Int)*3).toNat).take 3))=_
 rw[show((2:Int)+(j:Int)*3).toNat=3*j+1+1 by rw[pa1,Nat.add_comm];rfl];rfl
theorem y2A(l:List (Option z0b)):(l.map optN).any V.isNone=l.any Option.isNone:=by
 rw[List.any_map]
 congr 1
 funext o
 cases o<;>rfl
theorem y2z{l:List (Option z0b)}(h:l.any Option.isNone=false):l.map optN=(l.filterMap id).map z0f:=by
 induction l with
 |nil=>rfl
 |cons o l ih=>
  rw[List.any_cons,Bool.or_eq_false_iff] at h
  cases o with
  |none=>cases h.1
  |some n=>rw[Ap,ih h.2];rfl
noncomputable def z1I(r1:Stmt):TC:=⟨[.L 1,.len,.P (.int 2),.K .Lt,.M .Or [.L 1,.len,.P (.int 3),.B .Mod,.P (.int 2),.K .NotEq,.M .Or [.L 1,.S 0,.call (.ref 116) 1,.V,.not,.M .Or [.L 1,.S 1,.call (.ref 281) 1,.P .none,.K .Is,.M .Or [.P (.bool false)]]]],.I [.P .none,.ret] [],.X r1,.P .none,.L 2,.K .In,.I [.P .none,.ret] []],[.inl r1],[([1],none)]⟩
noncomputable def E9:TC:=⟨[.P (.str "done"),.ret],[],[]⟩
theorem z8p(H:G1 C)(D:F8 σ dk i k kv es wi)(S:C0 (kv.map (·.1)) es wi){r:List Str}(hr:∀w∈r,Asc w)(hl:r.length<=62)(R:C4 (kv.map (·.1)) es wi (prsP r) a ks' es' wi')(q:∀σ',Dk σ' dk ks' es' wi'->Q a σ'):CE C (d+6) (.ref 321) [.ref dk,.lst (r.map V.str)] σ Q EQ:=by
 have q0:prsP r=none->Q .none σ:=λe=>R.q0 (by rw[e];rfl) q σ (.mk D rfl S)
 obtain⟨dx,hin⟩:=D.inst
 have hrz:(r.map V.str).length<=sizeLine:=z0E hl (by decide)
 refine z40 (G1.kin ‹_›) ["self","words","needs"] [("len",.bi "len"),("is_ware",.ref 116),("make_of",.ref 281),("range",.type "range"),("BadNeed",.ref 61),("Twice",.ref 73),("Full",.ref 85)] (by kernel_rfl) (vs2 λ_ _=>by kernel_rfl) rfl (gA ‹_› [2,10,43,20,32,36,38]) ?_
 intro η hsc
 show SE C η ["self","words","needs"] _ _ _ [some (.ref dk),some (.lst (r.map V.str)),none] σ _ _
 refine z0x 3 (xG H (z1I _) ?_)
 intro F m0
 refine LK (z0B (n:=r.length) (.lst _) (Ab _) hrz ?_)
 refine z0p (λh2=> ?_) λh2=> ?_
 ·have h2:r.length<2:=Int.ofNat_lt.mp (AD h2)
  refine q0 ?_
  rcases r with _|⟨_,_|⟨_,t⟩⟩
  ·exact rfl
  ·exact rfl
  ·exact absurd h2 (BC.mpr (Nat.le_add_left 2 t.length))
 have h2:¬r.length<2:=λh=>AW h2 (Int.ofNat_lt.mpr h)
 obtain⟨w,m,t,rfl⟩:∃w m t,r=w::m::t:=by
  rcases r with _|⟨w,_|⟨m,t⟩⟩
  ·exact absurd (by decide) h2
  ·exact absurd (by show 1<2;decide) h2
  ·exact⟨w,m,t,rfl⟩
 refine LK (z0B (n:=t.length+2) (.lst _) (Ab _) hrz ?_)
 refine z0p (λh3=> ?_) λh3=> ?_
 ·refine q0 (if_neg λe=> ?_)
  have h3:=AW ((Bool.not_eq_true' _).mp h3)
  have e3:((t.length+2:Nat):Int).fmod 3=2:=by rw[pf3,Nat.add_mod,e];rfl
  exact h3 e3
 have h3:t.length%3=0:=by
  have h3:=AD ((Bool.not_eq_false' _).mp h3)
  have h3:((t.length+2:Nat):Int).fmod 3=2:=h3
  rw[pf3] at h3
  exact pm3 (Br h3)
 obtain⟨n,hn⟩:∃n,t.length=3*n:=⟨t.length/3,(Nat.mul_div_cancel' (Nat.dvd_of_mod_eq_zero h3)).symm⟩
 have ep:prsP (w::m::t)=if z1i w then(maF m).elim none λmk=>if((ch3 t).map ndF).any Option.isNone then none else some (.put w mk ((ch3 t).filterMap ndF)) else none:=if_pos h3
 refine LK (z0I (xs:=V.str w::V.str m::t.map V.str) (i:=0) (X:= .str w) (.lst _) (by decide) rfl ?_)
 refine LK (fnc (z19 H (n:=0) (.str w (hr w (.head _))) ?_))
 refine z0p (λhw=> ?_) λhw=> ?_
 ·exact q0 (by rw[ep,if_neg (by rw[show z1i w=false from(Bool.not_eq_true' _).mp hw];exact BB)])
 have hw:z1i w=true:=(Bool.not_eq_false' _).mp hw
 rw[if_pos hw] at ep
 have hW:=z2a hw
 clear hw
 refine LK (z0I (xs:=V.str w::V.str m::t.map V.str) (i:=1) (X:= .str m) (.lst _) (by decide) rfl ?_)
 refine LK (fnc (z1Y H (hr m (.tail _ (.head _))) ?_))
 cases em:maF m with
 |none=>exact q0 (by rw[ep,em];rfl)
 |some mk=>
 rw[em] at ep
 have hmb:=z6F em
 refine LK ?_
 show AS C η ["self","words","needs"] _ true _ (exec _ η) [some (.ref dk),some (.lst ((w::m::t).map V.str)),none] _ _
 refine z2V "at" ["words"] [("need_of",.ref 288)] (z27 (by rw[hsc];kernel_rfl)) (by rw[hsc];kernel_rfl) (gA H [45]) (.cons LkC.lk .nil) (z1p ?_)
 repeat' with_reducible first|refine z0G ?_|refine z0d ?_|refine z0n ?_|refine z0c ?_|refine z0o ?_|refine z1P ?_|refine z2S ?_|fail
 with_reducible refine z0e ?_
 refine z0B (n:=2+3*n) (.lst _) (by rw[Ab,Aq,Aq,hn];exact Eq.symm (Nat.add_comm 2 (3*n))) hrz ?_
 repeat' with_reducible first|refine z0n ?_|refine z0c ?_|refine z0e ?_|fail
 have hn20:n<=20:=by rw[Aq,Aq,hn] at hl;exact Nat.le_of_mul_le_mul_left (Nat.le_of_succ_le_succ (Nat.le_of_succ_le_succ hl):3*n<=3*20) (by decide)
 refine y0m (by rw[pa3];exact Bl _) (by rw[pa3];exact Bk.mpr (nD (Bj 3 hn20) rfl)) (by decide) (by decide) ?_
 refine⟨_,_,_,n,rfl,z9I (nD hn20 rfl),z7u n,z0i (by unfold z07;rw[Ab,BA];exact nD hn20 rfl),λenv' he=>z0N (f:=thF (w::m::t)) (z0j he) trivial _ _ _ (λX hX K hK=> ?_) ?_⟩
 ·obtain⟨j,hj,rfl⟩:=Ah.mp hX
  have hj:=Bv.mp hj
  repeat' with_reducible first|refine z1f ?_|refine z0G ?_|refine z0d ?_|refine z0n ?_|refine z0u ?_|refine z0O ?_|refine z2i ?_|refine z1u ?_|refine z1v ?_|refine z0c ?_|refine z6X ?_|refine z0o ?_|refine z2G (cA ‹_›) ?_|fail
  rw[pa1,show(((2+3*j:Nat):Int)+3)=((2+3*j+3:Nat):Int) from rfl]
  refine z3F (.lst _) (.int _) (.int _) .none nofun hrz (z2A ?_)
  rw[y2J (by exact Bn (2+3*j) 3) (by rw[Ab,Aq,Aq,hn];exact pa2 hj),show 2+3*j+3-(2+3*j)=3 by exact Nat.add_sub_self_left (2+3*j) 3,<-List.map_drop,<-List.map_take]
  with_reducible refine z0e ?_
  refine fnc (z6g H (λv hv=>hr v (List.mem_of_mem_drop (List.mem_of_mem_take hv))) (by rw[AR];exact nD (Bi _ _) rfl) ?_)
  have e:((2:Int)+(j:Int)*3).toNat=2+3*j:=by rw[pa1];rfl
  have hK:K (optN (ndF (((w::m::t).drop ((2:Int)+(j:Int)*3).toNat).take 3))) σ:=hK
  rw[e] at hK
  exact hK
 rw[Ay,y40 hn]
 intro nl onl
 with_reducible refine z2K ?_
 refine LK (z96 (.refL (.head _)) (λX hX=> ?_) (z0g ?_))
 ·obtain⟨o,_,rfl⟩:=Ah.mp hX
  cases o with
  |none=>exact .inl rfl
  |some n=>exact .inr ⟨_,rfl⟩
 rw[y2A]
 refine z0p (λhb=> ?_) λhb=> ?_
 ·exact R.q0 (by rw[ep.trans (if_pos hb)];rfl) q _ (.mk (D.cons _) rfl S)
 have ep:prsP (w::m::t)=some (.put w mk ((ch3 t).filterMap ndF)):=by rw[ep];exact if_neg (by rw[hb];exact BB)
 rw[y2z hb,List.filterMap_map]
 have hok:∀n∈(ch3 t).filterMap (id∘ndF),A9 n:=λn hn=>by
  obtain⟨l,_,h⟩:=List.mem_filterMap.mp hn
  exact y1e h
 have hnl:((ch3 t).filterMap (id∘ndF)).length<=20:=Ac (List.length_filterMap_le _ _) (by rw[ch3_range t h3,Ab,BA,hn,Nat.mul_div_cancel_left _ (by decide)];exact hn20)
 refine R.qp ep q λc ks' es' R q=> ?_
 have R:D5 (kv.map (·.1)) es w mk ((ch3 t).filterMap (id∘ndF)) c ks' es':=R
 clear q0 ep hb h2 h3 hn
 generalize (ch3 t).filterMap (id∘ndF)=ns at R hok hnl
 show SE C η ["self","words","needs"] _ _ _ [some (.ref dk),some (.lst ((w::m::t).map V.str)),some (.ref nl)] _ _ _
 refine z0h (z4N H.kin (EB:=λcc τ=>∃ct,Hd cc ct/\ct=c/\Dk τ dk ks' es' wi) ?_ λcc τ hh=> ?_)
 ·refine z0h (z46 (z1h (z5i H) (z1B (z2Y H) ?_)))
  with_reducible refine z0d ?_
  refine z1w (hin.cons _) ?_
  obtain⟨dxs,hins⟩:=D.sh.inst
  refine z0k (hins.cons _) ?_
  refine z05 ?_
  repeat' with_reducible first|refine z1f ?_|refine z0G ?_|refine z0d ?_|refine z0n ?_|refine z0u ?_|refine z0c ?_|fail
  refine z0I (i:=0) (X:= .str w) (.lst _) (by decide) rfl ?_
  repeat' with_reducible first|refine z1f ?_|refine z0G ?_|refine z0d ?_|refine z0n ?_|refine z0u ?_|refine z0c ?_|refine z0o ?_|refine z2G (cA ‹_›) ?_|fail
  refine z0I (i:=1) (X:= .str m) (.lst _) (by decide) rfl ?_
  with_reducible refine z0e ?_
  refine fnc (z1Y H (hr m (.tail _ (.head _))) ?_)
  rw[em]
  repeat' with_reducible first|refine z0G ?_|refine z0d ?_|refine z0c ?_|refine z0e ?_|fail
  refine y2D H (D.cons _) S hW hmb.1 hmb.2 At.hd hok hnl R (λhc σ' hD=>z1l ?_) λcc hd hD=>⟨c,hd,rfl,hD⟩
  refine z0x 1 (xG H E9 ?_)
  intro F m0
  subst hc
  exact q σ' hD
 ·obtain⟨ct,hd,rfl,hD⟩:=hh
  cases hd with
  |need=>exact .here (GInC.mem (self:=inferInstance)) (by kernel_rfl) λh a k=>z2W (z1r (z0r (q τ hD)))
  |twice=>exact .next (GInC.mem (self:=inferInstance)) (by kernel_rfl) (.here (GInC.mem (self:=inferInstance)) (by kernel_rfl) λh a k=>z2W (z1r (z0r (q τ hD))))
  |full=>exact .next (GInC.mem (self:=inferInstance)) (by kernel_rfl) (.next (GInC.mem (self:=inferInstance)) (by kernel_rfl) (.here (GInC.mem (self:=inferInstance)) (by kernel_rfl) λh a k=>z2W (z1r (z0r (q τ hD)))))
noncomputable def C6:TC:=⟨[.L 1,.len,.P (.int 2),.K .NotEq,.M .Or [.L 1,.S 0,.call (.ref 116) 1,.V,.not,.M .Or [.L 1,.S 1,.call (.ref 281) 1,.P .none,.K .Is,.M .Or [.P (.bool false)]]],.I [.P .none,.ret] []],[],[]⟩
noncomputable def E8:TC:=⟨[.P (.str "done"),.ret],[],[]⟩
noncomputable def E7:TC:=⟨[.L 1,.call (.ref 288) 1,.A 2,.L 2,.P .none,.K .Is,.I [.P .none,.ret] []],[],[]⟩
noncomputable def E6:TC:=⟨[.P (.str "done"),.ret],[],[]⟩
noncomputable abbrev vN:List Str:=["self","words"]
theorem z7S(H:G1 C)(D:F8 σ dk i k kv es wi)(S:C0 (kv.map (·.1)) es wi){r:List Str}(hr:∀w∈r,Asc w)(hl:r.length<=100)(R:C4 (kv.map (·.1)) es wi (prsT r) a ks' es' wi')(q:∀σ',Dk σ' dk ks' es' wi'->Q a σ'):CE C (d+5) (.ref 328) [.ref dk,.lst (r.map V.str)] σ Q EQ:=by
 have q0:prsT r=none->Q .none σ:=λe=>R.q0 (by rw[e];rfl) q σ (.mk D rfl S)
 obtain⟨dx,hin⟩:=D.inst
 have hrz:(r.map V.str).length<=sizeLine:=z0E hl (by decide)
 by_cases h2:r.length=2
 ·obtain⟨w,m,rfl⟩:∃w m,r=[w,m]:=by
   rcases r with _|⟨w,_|⟨m,_|⟨x,r⟩⟩⟩<;>first|exact⟨w,m,rfl⟩|exact absurd h2 (by simp)
  refine z40 (G1.kin ‹_›) vN [("len",.bi "len"),("is_ware",.ref 116),("make_of",.ref 281),("NoMake",.ref 97)] (by kernel_rfl) (vs2 λ_ _=>by kernel_rfl) rfl (gA ‹_› [2,10,43,40]) ?_
  intro η hsc
  clear hsc
  show SE C η vN _ _ _ [some (.ref dk),some (.lst [.str w,.str m])] σ _ _
  refine z0x 1 (xG H C6 ?_)
  intro F m0
  refine LK (z0B (n:=2) (.lst _) rfl (z0i (AH rfl)) ?_)
  refine LK (z0I (xs:=[V.str w,V.str m]) (i:=0) (X:= .str w) (.lst _) (by decide) rfl ?_)
  refine LK (fnc (z19 H (n:=0) (.str w (hr w (.head _))) ?_))
  refine z0p (λhw=> ?_) λhw=> ?_
  ·exact q0 (if_neg (by rw[show z1i w=false from(Bool.not_eq_true' _).mp hw];exact BB))
  have hw:z1i w=true:=(Bool.not_eq_false' _).mp hw
  have ep:prsT [w,m]=(maF m).map (D8.take w):=if_pos hw
  have hW:=z2a hw
  clear hw
  refine LK (z0I (xs:=[V.str w,V.str m]) (i:=1) (X:= .str m) (.lst _) (by decide) rfl ?_)
  refine LK (fnc (z1Y H (hr m (.tail _ (.head _))) ?_))
  cases em:maF m with
  |none=>exact q0 (by rw[ep,em];rfl)
  |some mk=>
  rw[em] at ep
  have hmb:=z6F em
  refine R.qt ep q λc ks' es' R q=> ?_
  clear q0 ep
  show SE C η vN _ _ _ [some (.ref dk),some (.lst [.str w,.str m])] _ _ _
  refine z0h (z4N H.kin (EB:=λcc τ=>cc= .ref 97/\c="no make"/\Dk τ dk ks' es' wi) ?_ λcc τ hh=> ?_)
  ·refine z0h (z46 (z1h (z4v H) (z1B (z2Y H) ?_)))
   with_reducible refine z0d ?_
   refine z1w hin ?_
   obtain⟨dxs,hins⟩:=D.sh.inst
   refine z0k hins ?_
   refine z05 ?_
   repeat' with_reducible first|refine z1f ?_|refine z0G ?_|refine z0d ?_|refine z0n ?_|refine z0u ?_|refine z0c ?_|fail
   refine z0I (i:=0) (X:= .str w) (.lst _) (by decide) rfl ?_
   repeat' with_reducible first|refine z1f ?_|refine z0G ?_|refine z0d ?_|refine z0n ?_|refine z0u ?_|refine z0c ?_|refine z0o ?_|refine z2G (cA ‹_›) ?_|fail
   refine z0I (i:=1) (X:= .str m) (.lst _) (by decide) rfl ?_
   with_reducible refine z0e ?_
   refine fnc (z1Y H (hr m (.tail _ (.head _))) ?_)
   rw[em]
   with_reducible refine z0e ?_
   refine y1y H D S hW hmb.1 hmb.2 R (λhc σ' hD=>z1l ?_) λhc hD=>⟨rfl,hc,hD⟩
   refine z0x 1 (xG H E8 ?_)
   intro F m0
   subst hc
   exact q σ' hD
  ·obtain⟨rfl,rfl,hD⟩:=hh
   exact .here (GInC.mem (self:=inferInstance)) (by kernel_rfl) λh a k=>z2W (z1r (z0r (q τ hD)))
 ·have e:prsT r=none:=by
   rcases r with _|⟨_,_|⟨_,_|⟨_,_⟩⟩⟩
   ·exact rfl
   ·exact rfl
   ·exact absurd rfl h2
   ·exact rfl
  refine z40 (G1.kin ‹_›) vN [("len",.bi "len"),("is_ware",.ref 116),("make_of",.ref 281),("NoMake",.ref 97)] (by kernel_rfl) (vs2 λ_ _=>by kernel_rfl) rfl (gA ‹_› [2,10,43,40]) ?_
  intro η hsc
  clear hsc
  show SE C η vN _ _ _ [some (.ref dk),some (.lst (r.map V.str))] σ _ _
  refine z0x 1 (xG H C6 ?_)
  intro F m0
  refine LK (z0B (n:=r.length) (.lst _) (Ab _) hrz ?_)
  refine z2H (by rw[AX (λe:((r.length:Nat):Int)=2=>h2 (Br e))];rfl) ?_
  exact q0 e
theorem z54{X Y Z:V}:z4I "wish" Z [(("shop":Str),X),(("wish":Str),Y)]=[(("shop":Str),X),(("wish":Str),Z)]:=by
 unfold z4I
 rw[if_neg (show¬(("shop":Str)=="wish")=true by decide+kernel)]
 unfold z4I
 rw[if_pos (show(("wish":Str)=="wish")=true by decide+kernel)]
theorem F8.setw(D:F8 σ dk i k kv es wi){σ':Sto}{dx:Addr}(U:C5 σ σ' dk (.inst 364 dx [("shop",.ref i),("wish",.lst (wi'.map z0f))])):F8 σ' dk i k kv es wi':=
 ⟨⟨dx,U.here⟩,D.sh.frame λa ha x hx=>U.at hx λe=>D.nm (e▸ha),D.nm⟩
theorem z8s{n:z0b}(h:D4 wi)(h8:wi.length<8)(hn:A9 n):D4 (wi++[n]):=⟨by rw[Ag];exact h8,λm hm=>by
 rcases Ad.mp hm with h'|h'
 ·exact h.ok m h'
 ·rw[Af.mp h'];exact hn⟩
theorem C0.wis(S:C0 ks es wi)(h:D4 wi'):C0 ks es wi':=⟨S.nd,S.l12,S.wok,S.out,S.eok,S.ne,h⟩
theorem z7T(H:G1 C)(D:F8 σ dk i k kv es wi)(S:C0 (kv.map (·.1)) es wi){r:List Str}(hr:∀w∈r,Asc w)(hl:r.length<=100)(R:C4 (kv.map (·.1)) es wi ((ndF r).map .wish) a ks' es' wi')(q:∀σ',Dk σ' dk ks' es' wi'->Q a σ'):CE C (d+5) (.ref 335) [.ref dk,.lst (r.map V.str)] σ Q EQ:=by
 obtain⟨dx,hin⟩:=D.inst
 refine z40 (G1.kin ‹_›) ["self","words","need"] [("need_of",.ref 288),("need_wish",.ref 142),("BadWish",.ref 109)] (by kernel_rfl) (vs2 λ_ _=>by kernel_rfl) rfl (gA ‹_› [45,30,14]) ?_
 intro η hsc
 clear hsc
 show SE C η ["self","words","need"] _ _ _ [some (.ref dk),some (.lst (r.map V.str)),none] σ _ _
 refine z0x 2 (xG H E7 ?_)
 intro F m0
 refine LK (fnc (z6g H hr hl ?_))
 cases en:ndF r with
 |none=>exact R.q0 (by rw[en];rfl) q σ (.mk D rfl S)
 |some n=>
 have eo:(ndF r).map D8.wish=some (.wish n):=by rw[en];rfl
 have hno:=y1e en
 have h8:=S.wi.len
 have hal:(wi.map z0f).length+([z0f n]:List V).length<=sizeLine:=z0i (by rw[Ab];exact nD (Bg h8 1) rfl)
 have eL:wi.map z0f++[z0f n]=(wi++[n]).map z0f:=by rw[Am];rfl
 clear en hr hl
 show SE C η ["self","words","need"] _ _ _ [some (.ref dk),some (.lst (r.map V.str)),some (z0f n)] _ _ _
 have key:∀{P:Sto->Prop} {EB:Value->Sto->Prop} {p1 p2 p3 p4 p5 p6 p7:Pos},CE C (d+4) (.ref 142) [.lst ((wi++[n]).map z0f)] σ (λ_ σ'=>P σ') EB->TE C η ["self","words","need"] [("need_of",.ref 288),("need_wish",.ref 142),("BadWish",.ref 109)] (d+4) (eval (.Call (.Name "need_wish" p1) [.BinOp (.Attribute (.Name "self" p2) "wish" p3) .Add (.List [.Name "need" p4] p5) p6] [] p7) η) [some (.ref dk),some (.lst (r.map V.str)),some (z0f n)] σ (λ_ σ'=>P σ') EB:=λ{P EB p1 p2 p3 p4 p5 p6 p7} h=>by
  refine y4H (cA H) ?_
  refine z0c (z0O (z1B (z2Z H) ?_))
  with_reducible refine z0d ?_
  refine z2m hin ?_
  refine z1C ?_
  repeat' with_reducible first|refine z0G ?_|refine z0d ?_|refine z0c ?_|refine z0e ?_|fail
  refine⟨by with_unfolding_all exact AH rfl,?_⟩
  refine z1q (.lst _) (.lst _) hal (z2A ?_)
  with_reducible refine z0e ?_
  rw[eL]
  exact h
 refine R.qw eo q (λhlt q=> ?_) λh8e q=> ?_
 ·have ok:=z8s S.wi hlt hno
  refine z0h (z4N H.kin (EB:=λ_ _=>False) (z0h (z46 (key (z2k (z4G H (.lst _) ok (z1l ?_)))))) λ_ _ h=>h.elim)
  refine z0h (z1E (z47 (z26 H) (z0O (z1B (z2Z H) ?_))))
  with_reducible refine z0d ?_
  refine z2m hin ?_
  refine z1C ?_
  repeat' with_reducible first|refine z0G ?_|refine z0d ?_|refine z0c ?_|refine z0e ?_|fail
  refine⟨by with_unfolding_all exact AH rfl,?_⟩
  refine z1q (.lst _) (.lst _) hal (z2A ?_)
  with_reducible refine z0d ?_
  refine⟨dk,dx,_,rfl,hin,AH rfl,λσ' U=> ?_⟩
  rw[z54,eL] at U
  refine z0x 1 (xG H E6 ?_)
  intro F m0
  exact q σ' (.mk (D.setw U) rfl (S.wis ok))
 ·refine z0h (z4N H.kin (EB:=λcc τ=>cc= .ref 109/\τ=σ) (z0h (z46 (key (z6R H (.lst _) (by rw[Ag,h8e];exact Nat.lt_succ_self 8) (by rw[Ag,h8e];exact AH rfl) ⟨rfl,rfl⟩)))) λcc τ hh=> ?_)
  obtain⟨rfl,rfl⟩:=hh
  exact .here (GInC.mem (self:=inferInstance)) (by kernel_rfl) λh a k=>z2W (z1r (z0r (q _ (.mk D rfl S))))
theorem Asc.ok{x:Str}(h:Asc x):PyData.strOk x=true:=by
 unfold PyData.strOk
 rw[<-Array.all_toList,AK]
 intro c hc
 exact AE (show c<0x110000 from AY (h.2 c hc) (by decide))
theorem y2a{l:List Str}(h:∀w∈l,Asc w):Dat (l.map V.str) (l.map PyData.str):=
 z69 V.str PyData.str l (λ_ a=> .str a) (λa=>by simp[PyData.depth]) λa ha=>by simp only[PyData.canLay0];exact(h a ha).ok
theorem z94{a b:List Str}(ha:∀w∈a,Asc w)(hb:∀w∈b,Asc w)(q:Q (.bool (decide (a=b))) σ):AC2 C d (compareOp .Eq) (.lst (a.map V.str)) (.lst (b.map V.str)) σ Q:=by
 refine y2V ((A8.lst _).dp ((y2a ha).dp σ)) ((A8.lst _).dp ((y2a hb).dp σ)) (y2a ha).sh (y2a hb).sh ?_
 rw[show PyData.eqv (.list (a.map PyData.str)) (.list (b.map PyData.str))=_ from eqvS a b];exact q
theorem y1D(H:G1 C)(D:F8 σ dk i k kv es wi)(S:C0 (kv.map (·.1)) es wi){t:Str}{r:List Str}(hr:∀w∈t::r,Asc w)(hl:(t::r).length<=60)(R:C4 (kv.map (·.1)) es wi (B5 (t::r)) a ks' es' wi')(q:∀σ',Dk σ' dk ks' es' wi'->Q a σ'):CE C (d+24) (.ref 354) [.ref dk,.lst ((t::r).map V.str)] σ Q EQ:=by
 obtain⟨dx,hin⟩:=D.inst
 have hrr:∀w∈r,Asc w:=λw h=>hr w (.tail _ h)
 have hrl:r.length<=60:=Ac (Nat.le_succ _) hl
 have hrz:((t::r).map V.str).length<=sizeLine:=z0E hl (by decide)
 refine z40 (G1.kin ‹_›) vN [] (by kernel_rfl) (vs2 λ_ _=>by kernel_rfl) rfl C3 ?_
 intro η hsc
 clear hsc
 show SE C η vN _ _ _ [some (.ref dk),some (.lst ((t::r).map V.str))] σ _ _
 refine z0h (z2l ?_)
 repeat' with_reducible first|refine z0D ?_|refine z0d ?_|fail
 refine z1C (z0c (z0r (z0e ⟨by with_unfolding_all exact AH rfl,?_⟩)))
 refine z94 (b:=["settle"]) hr (Aa.mpr ⟨z8O (by decide+kernel),λ_ h=>nomatch h⟩) (z0g ⟨λhb=> ?_,λhb=>z1l ?_⟩)
 ·have e:B5 (t::r)=some .settle:=if_pos (AD hb)
  have q:=R.q0 (by rw[e];rfl) q
  refine z0h (z1E (z1r (z35 (z13 H) ?_)))
  with_reducible refine z0d ?_
  refine z0F hin ?_
  exact fnc (z5J H D S (q σ (.mk D rfl S)))
 have e1:B5 (t::r)=if t::r=[("forget":Str)] then some .forget else z3B t r:=if_neg (AW hb)
 refine z0h (z2l ?_)
 repeat' with_reducible first|refine z0D ?_|refine z0d ?_|fail
 refine z1C (z0c (z0r (z0e ⟨by with_unfolding_all exact AH rfl,?_⟩)))
 refine z94 (b:=["forget"]) hr (Aa.mpr ⟨z8O (by decide+kernel),λ_ h=>nomatch h⟩) (z0g ⟨λhb=> ?_,λhb=>z1l ?_⟩)
 ·have q:=R.qf (by rw[e1,if_pos (AD hb)]) q
  refine z0h (z1E (z47 (z26 H) (z1C (z0e ⟨Nat.zero_le _,?_⟩))))
  with_reducible refine z0d ?_
  refine⟨dk,dx,_,rfl,hin,AH rfl,λσ' U=> ?_⟩
  rw[z54] at U
  refine z0h (z1E (z1r (z0r ?_)))
  exact q σ' (.mk (D.setw (wi':=[]) U) rfl (S.wis ⟨by decide,λ_ h=>nomatch h⟩))
 rw[e1,if_neg (AW hb)] at R
 clear e1 hb
 have nx:∀{K:VP} {p1 p2 p3:Pos},K (.str t) σ->AT C η vN [] true (d+23) (eval (.Subscript (.Name "words" p1) (.Constant (.int 0) 0 p2) p3) η) [some (.ref dk),some (.lst ((t::r).map V.str))] σ K:=λ{K p1 p2 p3} h=>by
  refine z0u ?_
  repeat' with_reducible first|refine z0d ?_|refine z0n ?_|fail
  exact z0I (i:=0) (X:= .str t) (.lst _) (by decide) rfl h
 have sl:∀{K:List V->Sto->Prop} {p1 p2 p3 p4 p5:Pos},K [.lst (r.map V.str)] σ->AL C η vN [] true (d+23) (spliced (backTo p1 (starEach [.Subscript (.Name "words" p2) (.Slice (some (.Constant (.int 1) 0 p3)) none none p4) p5] η))) [some (.ref dk),some (.lst ((t::r).map V.str))] σ K:=λ{K p1 p2 p3 p4 p5} h=>by
  refine z0c (z0u ?_)
  repeat' with_reducible first|refine z0d ?_|refine z0n ?_|refine z2i ?_|refine z1u ?_|refine z1v ?_|fail
  refine z3F (.lst _) (.int _) .none .none nofun hrz (z2A ?_)
  rw[show slL ((t::r).map V.str) (some 1) none none=r.map V.str from y2K]
  with_reducible refine z0e ?_
  exact h
 refine z0h (z2l (z0D (nx (z0r (z3l (z0g ⟨λhb=> ?_,λhb=>z1l ?_⟩))))))
 ·rw[show z3B t r=prsP r from if_pos hb] at R
  refine z0h (z6q (z1h (z2I H) ?_))
  with_reducible refine z0d ?_
  refine z0F hin ?_
  exact z05 (sl (z8p H D S hrr (nD hrl rfl) R q))
 rw[show z3B t r=if t=="take" then prsT r else if t=="wish" then(ndF r).map .wish else if t=="why" then prsW r else none from if_neg (by rw[hb];exact BB)] at R
 refine z0h (z2l (z0D (nx (z0r (z3l (z0g ⟨λhb=> ?_,λhb=>z1l ?_⟩))))))
 ·rw[if_pos hb] at R
  refine z0h (z6q (z1h (z2q H) ?_))
  with_reducible refine z0d ?_
  refine z0F hin ?_
  exact z05 (sl (z7S H D S hrr (nD hrl rfl) R q))
 rw[if_neg (by rw[hb];exact BB)] at R
 refine z0h (z2l (z0D (nx (z0r (z3l (z0g ⟨λhb=> ?_,λhb=>z1l ?_⟩))))))
 ·rw[if_pos hb] at R
  refine z0h (z6q (z1h (z2r H) ?_))
  with_reducible refine z0d ?_
  refine z0F hin ?_
  exact z05 (sl (z7T H D S hrr (nD hrl rfl) R q))
 rw[if_neg (by rw[hb];exact BB)] at R
 refine z0h (z2l (z0D (nx (z0r (z3l (z0g ⟨λhb=> ?_,λhb=>z1l ?_⟩))))))
 ·rw[if_pos hb] at R
  refine z0h (z6q (z1h (z2J H) ?_))
  with_reducible refine z0d ?_
  refine z0F hin ?_
  refine z05 (sl (z2k (z8r H D S hrr (nD hrl rfl) (λe=> ?_) λw e=> ?_)))
  ·exact R.q0 (by rw[e];rfl) q σ (.mk D rfl S)
  ·exact R.q0 (by rw[e];rfl) q σ (.mk D rfl S)
 rw[if_neg (by rw[hb];exact BB)] at R
 exact z0h (z1E (z1r (z8v (R.q0 rfl q σ (.mk D rfl S)))))
noncomputable def anT:V->Str
 | .str c=>c
 |_=>"no line"
theorem C4.sh{o:Option D8}(R:C4 ks es wi o a ks' es' wi'):a= .none∨∃c,a= .str c:=
 R.casesOn (motive:=λ_ a _ _ _ _=>a= .none∨∃c,a= .str c) (.inl rfl) (.inr ⟨_,rfl⟩) (.inr ⟨_,rfl⟩) (λ_=> .inr ⟨_,rfl⟩) (λ_=> .inr ⟨_,rfl⟩) (λ_=> .inr ⟨_,rfl⟩) (λ_=> .inr ⟨_,rfl⟩) (.inr ⟨_,rfl⟩)
noncomputable def E5:TC:=⟨[.L 2,.P .none,.K .Is,.I [.P (.str "no line"),.ret] [],.L 2,.ret],[],[]⟩
theorem y1F(H:G1 C)(D:Dk σ dk ks es wi){x:Str}{ws:List Str}(L:Ln x ws)(hl:ws.length<=60)(R:C4 ks es wi (B5 ws) a ks' es' wi')(q:∀σ',Dk σ' dk ks' es' wi'->Q (.str (anT a)) σ'):CE C (d+25) (.ref 361) [.ref dk,.str x] σ Q EQ:=by
 obtain⟨DI,rfl,S⟩:=D
 obtain⟨dx,hin⟩:=DI.inst
 obtain⟨t,r,rfl⟩:=List.exists_cons_of_ne_nil L.ne
 have hsp:=L.sp
 have hlen:=L.len
 have hasc:∀w∈t::r,Asc w:=λw h=>(L.wd w h).a
 clear L
 refine z40 (G1.kin ‹_›) ["self","line","found"] [] (by kernel_rfl) (vs2 λ_ _=>by kernel_rfl) rfl C3 ?_
 intro η hsc
 clear hsc
 show SE C η ["self","line","found"] _ _ _ [some (.ref dk),some (.str x),none] σ _ _
 refine z0h (y0q (z1h (z3n H) ?_))
 with_reducible refine z0d ?_
 refine z0F hin ?_
 refine z05 (z0c (z3c M_split ?_))
 with_reducible refine z0d ?_
 refine⟨z2c,z0c (z0r (z0e (z8I (by decide+kernel) (show _<=16777216 from nD (Bg hlen 2) rfl) (.inl ?_))))⟩
 rw[hsp]
 with_reducible refine z0e ?_
 refine y1D H DI S hasc hl R λσ' hD=> ?_
 with_reducible refine z2K ?_
 have q:=q σ' hD
 rcases R.sh with rfl|⟨c,rfl⟩
 ·refine z0x 2 (xG H E5 ?_)
  intro F m0
  exact q
 ·refine z0x 2 (xG H E5 ?_)
  intro F m0
  exact q
end
theorem z0A{C:Cx}{d:Nat}{σ:Sto}{Q:VP}{x y:Str}{a b:Nat}(hx:x.length<=a)(hy:y.length<=b)(h:Nat.ble (a+b) 100000=true)(q:(x++y).length<=a+b->Q (.str (x++y)) σ):AC2 C d (binaryOp .Add) (.str x) (.str y) σ Q:=z3t (q (by rw[z0l];exact Bd hx hy)) (z0i (Ac (Bd hx hy) (AH h)))
theorem z89{α:Type}{f:α->V}{P:α->Prop}:∀{ys:List V},(∀y∈ys,∃n,y=f n/\P n)->∃ns:List α,ys=ns.map f/\∀n∈ns,P n
 |[],_=>⟨[],rfl,λ_ h=>nomatch h⟩
 |y::ys,h=>by
  obtain⟨n,rfl,hn⟩:=h y (.head _)
  obtain⟨ns,rfl,hs⟩:=z89 λz hz=>h z (.tail _ hz)
  exact⟨n::ns,rfl,Aa.mpr ⟨hn,hs⟩⟩
theorem y2n(x:Int):0<=(x.fmod 4).fdiv 3/\(x.fmod 4).fdiv 3<2:=by
 have h0:=Ba x (show(0:Int)<4 by decide)
 have h1:=Bb x (show(0:Int)<4 by decide)
 rw[Int.fdiv_eq_ediv_of_nonneg _ (by decide)]
 exact⟨Int.ediv_nonneg h0 (by decide),Int.ediv_lt_of_lt_mul (by decide) (Int.lt_trans h1 (by decide))⟩
theorem y4P(x:Int):0<=(x.fmod 6).fdiv 5/\(x.fmod 6).fdiv 5<2:=by
 have h0:=Ba x (show(0:Int)<6 by decide)
 have h1:=Bb x (show(0:Int)<6 by decide)
 rw[Int.fdiv_eq_ediv_of_nonneg _ (by decide)]
 exact⟨Int.ediv_nonneg h0 (by decide),Int.ediv_lt_of_lt_mul (by decide) (Int.lt_trans h1 (by decide))⟩
theorem z6x(x:Int){n:Nat}(h:0<n):∃c:Nat,x.fmod (n:Int)=(c:Int)/\c<n:=by
 have hp:(0:Int)<(n:Int):=Int.ofNat_lt.mpr h
 obtain⟨c,e⟩:=Int.eq_ofNat_of_zero_le (Ba x hp)
 exact⟨c,e,Int.ofNat_lt.mp (e▸Bb x hp)⟩
theorem y4D{x y:Int}(q:∀c:Nat,c<=7->Q (.int (c:Int)) σ):C2 C d (.lst [.int (x.fmod 3),.int (x.fmod 8)]) (.int ((y.fmod 6).fdiv 5)) σ Q:=by
 obtain⟨c,e,h⟩:=z6x x (show 0<3 by decide)
 obtain⟨c',e',h'⟩:=z6x x (show 0<8 by decide)
 refine z8B (y4P y).1 (y4P y).2 ?_ ?_
 ·rw[show x.fmod 3=(c:Int) from e];exact q c (by exact AZ (AY h (by decide)))
 ·rw[show x.fmod 8=(c':Int) from e'];exact q c' (by exact Bm h')
theorem z4u(x:Int){n:Nat}(h:0<n)(h9:n<=996):1<=1+x.fmod (n:Int)/\1+x.fmod (n:Int)<=996:=by
 obtain⟨c,e,h⟩:=z6x x h
 rw[e];exact⟨Bk.mpr (Bn 1 c),Bk.mpr (show 1+c<=996 from by rw[Nat.add_comm];exact Ac h h9)⟩
theorem y4E{x y:Int}(q:∀l:Int,1<=l->l<=996->Q (.int l) σ):C2 C d (.lst [.int (1+x.fmod 5),.int (1+x.fmod 996)]) (.int ((y.fmod 4).fdiv 3)) σ Q:=
 z8B (y2n y).1 (y2n y).2 (q _ (z4u x (show 0<5 by decide) (by decide)).1 (z4u x (show 0<5 by decide) (by decide)).2) (q _ (z4u x (show 0<996 by decide) (by decide)).1 (z4u x (show 0<996 by decide) (by decide)).2)
def NeI(a0 a1 W:V)(a:Addr)(σ:Sto)(i:Nat)(m₀:Loc)(τ₀:Sto):Prop:=∀P:Loc->Sto->Prop,(∀{o:Obj} {ns:List z0b} {u v:Option V},(∀n∈ns,A9 n)->ns.length=i->P [some a0,some a1,some (.ref a),some W,u,v] ((a,o,.list (ns.map z0f))::σ))->P m₀ τ₀
theorem NeI.mk{a0 a1 W:V}{a:Addr}{σ:Sto}{i:Nat}{o:Obj}{ns:List z0b}{u v:Option V}(x0:(∀n∈ns,A9 n))(x1:ns.length=i):NeI a0 a1 W a σ i [some a0,some a1,some (.ref a),some W,u,v] ((a,o,.list (ns.map z0f))::σ):=λ_ k=>k x0 x1
noncomputable def H8:TC:=⟨[.asgL 2,.L 0,.P (.str "zz"),.P (.str "zy"),.P (.str "zx"),.lst 3,.B .Add,.A 3,.L 1,.P (.int 3),.B .Mod,.L 1,.P (.int 8),.B .Mod,.lst 2,.L 1,.P (.int 8),.B .FloorDiv,.P (.int 6),.B .Mod,.P (.int 5),.B .FloorDiv,.sub,.forR 4 [.P (.int 1),.L 1,.P (.int 15),.B .FloorDiv,.P (.int 5),.B .Mod,.B .Add,.P (.int 1),.L 1,.P (.int 15),.B .FloorDiv,.P (.int 996),.B .Mod,.B .Add,.lst 2,.L 1,.P (.int 48),.B .FloorDiv,.P (.int 4),.B .Mod,.P (.int 3),.B .FloorDiv,.sub,.A 5,.L 2,.Y "list",.L 3,.L 1,.P (.int 3),.B .FloorDiv,.L 4,.B .Add,.L 3,.len,.B .Mod,.sub,.L 5,.L 5,.L 1,.P (.int 75),.B .FloorDiv,.P (.int 4),.B .Mod,.B .Add,.tup 3,.H (.bi "list.append") 1,.pop],.L 1,.P (.int 192),.B .FloorDiv,.P (.int 8),.B .Mod,.P (.int 1),.K .Eq,.I [.L 2,.L 2,.P .none,.P (.int 1),.P .none,.slc,.sub,.B .Add,.A 2] [],.L 2,.ret],[],[]⟩
theorem z6P(H:G1 C){nm:List Str}(h5:nm.length=5)(hw:∀w∈nm,A7 w){N:Int}(q:∀ns:List z0b,(∀n∈ns,A9 n)->ns.length<=14->Q (.lst (ns.map z0f)) σ):CW C (d+1) (.ref 394) [.lst (nm.map V.str),.int N] σ Q:=by
 refine z1R (z37 ?_)
 refine z0M (G1.kin ‹_›) ["_law_names_here","_law_number","_law_found","_law_wares","_law_k","_law_low"] [("range",.type "range"),("len",.bi "len")] (by kernel_rfl) (vs2 λ_ _=>by kernel_rfl) rfl (gA ‹_› [20,2]) ?_
 intro η hsc
 clear hsc
 refine xG H H8 ?_
 intro F m0 a o hf
 refine LK (z1q (.lst _) (.lst _) (z0i (by rw[Ab,h5];exact AH rfl)) (z2A ?_))
 have hWl:(nm.map V.str++[V.str "zz",V.str "zy",V.str "zx"]).length=8:=by rw[Ag,Ab,h5];rfl
 have hWw:∀X∈nm.map V.str++[V.str "zz",V.str "zy",V.str "zx"],∃w,X= .str w/\A7 w:=λX hX=>by
  rcases Ad.mp hX with h|h
  ·obtain⟨w,hm,rfl⟩:=Ah.mp h;exact⟨w,rfl,hw w hm⟩
  ·revert X
   have k:∀x:Str,(wareV (.str x))=true->∃w,V.str x= .str w/\A7 w:=λx h=>⟨x,rfl,z2a h⟩
   intro X _ h
   rcases Ae.mp h with rfl|h
   ·exact k _ (by decide+kernel)
   ·rcases Ae.mp h with rfl|h
    ·exact k _ (by decide+kernel)
    ·rw[Af.mp h];exact k _ (by decide+kernel)
 generalize (nm.map V.str++[V.str "zz",V.str "zy",V.str "zx"])=W at hWl hWw
 refine LK (y4D λc hc=> ?_)
 refine LK (.mk c (NeI (.lst (nm.map V.str)) (.int N) (.lst W) a σ) rfl (nD hc rfl) (.mk (ns:=[]) (λ_ h=>nomatch h) rfl) (λi hi m τ hI QB hQB _=> ?_) λm τ hI=> ?_)
 ·clear q
  apply hI;intro o ns u v hns hl
  refine LK (y4E λl l1 l2=> ?_)
  refine LK ⟨tyL At.hd,?_⟩
  refine LK (z0B (n:=8) (.lst _) hWl (z0i (by rw[hWl];decide)) ?_)
  refine LK (y0a (Ba _ (by decide)) (by rw[hWl];exact Bb _ (by decide)) (by rw[hWl];decide) λX hX=> ?_)
  obtain⟨w,rfl,hw⟩:=hWw X hX
  refine LK (z39 (z0E (n:=7) (by rw[hl];exact Ac (AZ hi) hc) (by decide)) λo'=> ?_)
  refine hQB _ _ ?_
  obtain⟨c4,e4,h4⟩:=z6x (N.fdiv 75) (show 0<4 by decide)
  have hn:A9 (w,l,l+(N.fdiv 75).fmod 4):=⟨hw,l1,by show l<=l+_;rw[show(N.fdiv 75).fmod 4=(c4:Int) from e4];exact Int.le_add_of_nonneg_right (Bl c4),by show l+_<=999;rw[show(N.fdiv 75).fmod 4=(c4:Int) from e4];exact Int.add_le_add l2 (Bk.mpr (Bm h4))⟩
  have hm:NeI (.lst (nm.map V.str)) (.int N) (.lst W) a σ (i+1) _ ((a,o',.list ((ns++[(w,l,l+(N.fdiv 75).fmod 4)]).map z0f))::σ):= .mk (u:=some (.int (i:Int))) (v:=some (.int l)) (λn hn'=>by
   rcases Ad.mp hn' with h|h
   ·exact hns n h
   ·rw[Af.mp h];exact hn) (by rw[Ag,hl];rfl)
  rw[Am] at hm
  exact hm
 ·apply hI;intro o ns u v hns hl
  have hz:(ns.map z0f).length<=sizeLine:=z0E (n:=7) (by rw[hl];exact hc) (by decide)
  refine z0p (λ_=> ?_) λ_=> ?_
  ·refine LK (z3F (.refL (.head _)) .none (.int _) .none nofun hz (z2A ?_))
   obtain⟨ns2,e,h2⟩:=z89 (f:=z0f) (P:=A9) (ys:=slL (ns.map z0f) none (some 1) none) λy hy=>by
    apply z0X (z9f y hy);intro n hn
    exact⟨n,rfl,hns n hn⟩
   have hl2:=y4l (xs:=ns.map z0f) (lo:=none) (hi:=some 1)
   rw[e]
   rw[e,Ab,Ab] at hl2
   refine LK (z8x (.refL (.head _)) (.lst _) (z0i (by rw[Ab,Ab];exact Ac (Be hl2 _) (by rw[hl];exact nD (Bd hc hc) rfl))) λb ob hfb=> ?_)
   rw[<-Am]
   exact⟨b,ob,_,_,rfl,rfl,σ,As _ _,q _ (λn hn=>(Ad.mp hn).elim (hns n) (h2 n)) (by rw[Ag];exact Ac (Be hl2 _) (by rw[hl];exact Bd hc hc))⟩
  ·exact⟨a,o,_,_,rfl,rfl,σ,.refl _,q ns hns (by exact(by rw[hl];exact nD hc rfl))⟩
theorem z74{η:Env}{caps:List Str}{gl:LV}{x y z:Str}{elt:Expr}{p1 p2 p3 pt:Pos}{kt:Nat}{P:Sto->Prop}{Z:List V->Sto->Prop}{ms:Loc}{f:z0b->V}(hk1:η.kindOf x=some .local)(hk2:η.kindOf y=some .local)(hk3:η.kindOf z=some .local)(hP:P σ)(ns:List z0b):
  ∀(acc:List V) (o1 o2 o3:Option V),(∀n∈ns,∀K:VP,K (f n) σ->AT C η (x::y::z::caps) gl false d (eval elt η) (some (.str n.1)::some (.int n.2.1)::some (.int n.2.2)::ms) σ K)->Z (acc++ns.map f) σ->
   z0P C η (x::y::z::caps) gl d (.Tuple [.Name x p1,.Name y p2,.Name z p3] kt pt) elt [] P Z (ns.map z0f) acc (o1::o2::o3::ms) σ:=by
 induction ns with
 |nil=>intro acc o1 o2 o3 _ q;simpa[z0P] using q
 |cons n ns ih=>
  intro acc o1 o2 o3 h q
  refine y47 (z0w F4.head (z0w (F4.tail F4.head) (z0w (F4.tail (F4.tail F4.head)) ?_ (.inr hk3)) (.inr hk2)) (.inr hk1))
  exact⟨λ_=>h n (.head _) _ ⟨hP,ih (acc++[f n]) _ _ _ (λm hm=>h m (.tail _ hm)) (by simpa using q)⟩,λe=>by cases e⟩
noncomputable def txF(n:z0b):Str:=" "++n.1++" "++sI n.2.1++" "++sI n.2.2
theorem one1:(" ":Str).length=1:=by decide+kernel
noncomputable def z4A(r1:Expr):TC:=⟨[.P (.str ""),.Y "str",.raw r1,.H (.bi "str.join") 1,.ret],[.inr r1],[([0],some [1])]⟩
theorem z7Q(H:G1 C){ns:List z0b}(hn:∀n∈ns,A9 n)(hl:ns.length<=14)(q:Q (.str (Txt.join "" (ns.map txF))) σ):CW C (d+1) (.ref 399) [.lst (ns.map z0f)] σ Q:=by
 refine z0M (G1.kin ‹_›) ["_law_needs_here"] [] (by kernel_rfl) (vs1 λ_=>by kernel_rfl) rfl C3 ?_
 intro η hsc
 refine xG H (z4A _) ?_
 intro F m0
 refine LK ⟨z2c,?_⟩
 refine LK ?_
 show AT C η ["_law_needs_here"] _ true _ (eval _ η) [some (.lst (ns.map z0f))] _ _
 refine z4Y ["_law_ware","_law_low","_law_high"] [] [("str",.type "str")] (by rw[hsc];kernel_rfl) (gA H [1]) .nil (z0W ?_)
 with_reducible refine z0d ?_
 refine⟨_,_,.lst _,z0E hl (by decide),λenv' he=>z74 (f:=λn=> .str (txF n)) (z0j he) (z0j he) (z0j he) trivial _ _ _ _ _ (λn hm K hK=> ?_) ?_⟩
 ·have ok:=hn n hm
  have l1:=ok.w.hi
  have s1:(Str.ofString (toString n.2.1)).length<=3:=(z1t ok.lo (AQ ok.le ok.hi)).2.2
  have s2:(Str.ofString (toString n.2.2)).length<=3:=(z1t (AQ ok.lo ok.le) ok.hi).2.2
  have e1:=Bp one1
  repeat' with_reducible first|refine z0O ?_|refine z0r ?_|refine z0d ?_|fail
  refine z0A e1 l1 rfl λb1=> ?_
  repeat' with_reducible first|refine z0r ?_|fail
  refine z0A b1 e1 rfl λb2=> ?_
  repeat' with_reducible first|refine z0G ?_|refine z0d ?_|refine z0c ?_|refine z0e ?_|refine z0o ?_|refine z1P ?_|fail
  refine z1L (z0S ok.lo (AQ ok.le ok.hi)) ?_
  refine z0A b2 s1 rfl λb3=> ?_
  repeat' with_reducible first|refine z0r ?_|fail
  refine z0A b3 e1 rfl λb4=> ?_
  repeat' with_reducible first|refine z0G ?_|refine z0d ?_|refine z0c ?_|refine z0e ?_|refine z0o ?_|refine z1P ?_|fail
  refine z1L (z0S (AQ ok.lo ok.le) ok.hi) ?_
  refine z0A b4 s2 rfl λ_=> ?_
  exact hK
 rw[Ay,show ns.map (λn=>V.str (txF n))=(ns.map txF).map V.str by rw[AJ];rfl]
 refine LK (z4a (.lst _) (z2p (by decide+kernel) (λp hp=> ?_) (by rw[Ab];exact nD hl rfl)) ?_)
 ·obtain⟨n,hm,rfl⟩:=Ah.mp hp
  have ok:=hn n hm
  have l1:=ok.w.hi
  have s1:=(z1t ok.lo (AQ ok.le ok.hi)).2.2
  have s2:=(z1t (AQ ok.lo ok.le) ok.hi).2.2
  unfold txF
  rw[z0l,z0l,z0l,z0l,z0l,one1]
  exact nD (Bd (Bh (Bd (Bh (Be l1 1)) s1)) s2) rfl
 exact q
theorem y42(ns:List z0b):cl (Txt.join "" (ns.map txF))=(((ns.map ndW).flatten).map λv=>32::cl v).flatten:=by
 rw[cl_join0]
 induction ns with
 |nil=>rfl
 |cons n ns ih=>
  rw[Ap,Ap,AM,ih,Ap,AM,Am,List.flatten_append]
  congr 1
  unfold txF
  rw[z0v,z0v,z0v,z0v,z0v,show cl (" ":Str)=[32] by decide+kernel]
  show _=(32::cl n.1)++((32::cl (sI n.2.1))++((32::cl (sI n.2.2))++[]))
  simp only[Ao,List.cons_append,Ay,Az]
theorem y37{w:Str}{mk:Int}{ns:List z0b}(hw:A7 w)(h1:1<=mk)(h2:mk<=999)(hn:∀n∈ns,A9 n)(hl:ns.length<=14):Ln ("put "++w++" "++sI mk++Txt.join "" (ns.map txF)) ("put"::w::sI mk::(ns.map ndW).flatten):=by
 refine Ln.of ?_ (Aa.mpr ⟨z1O,Aa.mpr ⟨z2F hw,Aa.mpr ⟨z7U h1 h2,λv hv=> ?_⟩⟩⟩) (by rw[Aq,Aq,ndW_len];exact nD (Bh (Bh (Bj 3 hl))) rfl)
 ·rw[z0v,z0v,z0v,z0v,y42,show cl (" ":Str)=[32] by decide+kernel,show cl ("put ":Str)=cl ("put":Str)++[32] by decide+kernel]
  simp only[Ap,AM,Ao,List.cons_append,Ay]
 ·obtain⟨l,hl,hv⟩:=List.mem_flatten.mp hv
  obtain⟨n,hm,rfl⟩:=Ah.mp hl
  exact y3n (hn n hm) v hv
theorem y2t{w:Str}{mk:Int}(hw:A7 w)(h1:1<=mk)(h2:mk<=999):Ln ("take "++w++" "++sI mk) ["take",w,sI mk]:=by
 refine Ln.of ?_ (Aa.mpr ⟨z1O,Aa.mpr ⟨z2F hw,Aa.mpr ⟨z7U h1 h2,λ_ h=>nomatch h⟩⟩⟩) (AH rfl)
 rw[z0v,z0v,z0v,show cl (" ":Str)=[32] by decide+kernel,show cl ("take ":Str)=cl ("take":Str)++[32] by decide+kernel]
 simp only[Ap,List.map_nil,AM,List.flatten_nil,Ao,List.cons_append,Ay,Az]
theorem y2u{n:z0b}(h:A9 n):Ln ("wish "++n.1++" "++sI n.2.1++" "++sI n.2.2) ("wish"::ndW n):=by
 refine Ln.of ?_ (Aa.mpr ⟨z1O,y3n h⟩) (AH rfl)
 rw[z0v,z0v,z0v,z0v,z0v,show cl (" ":Str)=[32] by decide+kernel,show cl ("wish ":Str)=cl ("wish":Str)++[32] by decide+kernel]
 unfold ndW
 simp only[Ap,List.map_nil,AM,List.flatten_nil,Ao,List.cons_append,Ay,Az]
theorem y38{w:Str}(hw:A7 w):Ln ("why "++w) ["why",w]:=by
 refine Ln.of ?_ (Aa.mpr ⟨z1O,Aa.mpr ⟨z2F hw,λ_ h=>nomatch h⟩⟩) (AH rfl)
 rw[z0v,show cl ("why ":Str)=cl ("why":Str)++[32] by decide+kernel]
 simp only[Ap,List.map_nil,AM,List.flatten_nil,Ao,List.cons_append,Ay,Az]
theorem ln_settle:Ln ("settle":Str) ["settle"]:=Ln.of (by decide+kernel) (Aa.mpr ⟨z1O,λ_ h=>nomatch h⟩) (AH rfl)
theorem ln_forget:Ln ("forget":Str) ["forget"]:=Ln.of (by decide+kernel) (Aa.mpr ⟨z1O,λ_ h=>nomatch h⟩) (AH rfl)
section
variable {n:Str}
theorem z2T{l:Str}(hn:A7 n)(q:Q (.str (l++n)) σ)(hl:decide (l.length<=20)=true:=by decide+kernel):AC2 C d (binaryOp .Add) (.str l) (.str n) σ Q:=z3t q (z0i (nD (Bd (AD hl) hn.hi) rfl))
theorem z2U{l r:Str}(hn:A7 n)(q:Q (.str (l++n++r)) σ)(hl:(decide (l.length<=20)&&decide (r.length<=20))=true:=by decide+kernel):AC2 C d (binaryOp .Add) (.str (l++n)) (.str r) σ Q:=z3t q (z0i (by rw[AC] at hl;rw[z0l];exact nD (Bd (Bd (AD hl.1) hn.hi) (AD hl.2)) rfl))
def OdV(X:V):Prop:=∃x,X= .str x/\Odd x
structure I5(k:Nat)(xs:List V):Prop where
 l:xs.length=k
 o:∀X∈xs,OdV X
theorem I5.lit(hn:A7 n){is:List Sp}(h:(is.all λi=>z9a (cut (sy i)))=true):I5 is.length (is.map λi=> .str (tx n i)):=⟨Ab _,λX hX=>by
 obtain⟨i,hi,rfl⟩:=Ah.mp hX
 exact⟨_,rfl,y4e hn i (AK.mp h i hi)⟩⟩
theorem I5.app{k:Nat}{xs:List V}(h:I5 k xs)(hn:A7 n){is:List Sp}(h':(is.all λi=>z9a (cut (sy i)))=true):I5 (k+is.length) (xs++is.map λi=> .str (tx n i)):=⟨by rw[Ag,h.l,(I5.lit hn h').l],λX hX=>(Ad.mp hX).elim (h.o X) ((I5.lit hn h').o X)⟩
noncomputable def G6:TC:=⟨[.cut [.P (.str ""),.P (.str "put"),.P (.str "put "),.L 0,.B .Add,.P (.str "put "),.L 0,.B .Add,.P (.str " 0"),.B .Add,.P (.str "put "),.L 0,.B .Add,.P (.str " 01"),.B .Add,.P (.str "put "),.L 0,.B .Add,.P (.str " 1000"),.B .Add,.P (.str "put A 1"),.lst 7,.A 2],.cut [.L 2,.P (.str "put "),.L 0,.B .Add,.P (.str " 1 "),.B .Add,.P (.str " put "),.L 0,.B .Add,.P (.str " 1"),.B .Add,.P (.str "put  "),.L 0,.B .Add,.P (.str " 1"),.B .Add,.P (.str "put "),.L 0,.B .Add,.P (.str " 1 b"),.B .Add,.lst 4,.B .Add,.A 2],.cut [.L 2,.P (.str "put "),.L 0,.B .Add,.P (.str " -1"),.B .Add,.P (.str "put "),.L 0,.B .Add,.P (.str " 1 b 2 1"),.B .Add,.P (.str "put "),.L 0,.B .Add,.P (.str " 1 b 1 2 c"),.B .Add,.P (.str "take "),.L 0,.B .Add,.lst 4,.B .Add,.A 2],.cut [.L 2,.P (.str "take "),.L 0,.B .Add,.P (.str " 1 b 1 2"),.B .Add,.P (.str "take "),.L 0,.B .Add,.P (.str " 0"),.B .Add,.P (.str "wish "),.L 0,.B .Add,.P (.str "wish "),.L 0,.B .Add,.P (.str " 2 1"),.B .Add,.lst 4,.B .Add,.A 2],.cut [.L 2,.P (.str "wish "),.L 0,.B .Add,.P (.str " 1 2 3"),.B .Add,.P (.str "wish A 1 2"),.P (.str "forget "),.P (.str "Forget"),.P (.str "settle 1"),.P (.str "settle "),.P (.str "why"),.lst 7,.B .Add,.A 2],.cut [.L 2,.P (.str "why A"),.P (.str "why "),.L 0,.B .Add,.P (.str " 1"),.B .Add,.P (.str "why  "),.L 0,.B .Add,.P (.str "+ "),.L 0,.B .Add,.lst 4,.B .Add,.A 2],.cut [.L 2,.P (.str "settle\n"),.P (.str "settle\t"),.P (.str "put\t"),.L 0,.B .Add,.P (.str " 1"),.B .Add,.P (.str "why "),.L 0,.B .Add,.P (.str "\n"),.B .Add,.P (.str "take "),.L 0,.B .Add,.P (.str " 1\n"),.B .Add,.lst 5,.B .Add,.A 2],.cut [.L 2,.P (.str "put "),.L 0,.B .Add,.P (.str " +1"),.B .Add,.P (.str "put "),.L 0,.B .Add,.P (.str " 1_0"),.B .Add,.P (.str "wish "),.L 0,.B .Add,.P (.str " 1 +2"),.B .Add,.P (.str "take "),.L 0,.B .Add,.P (.str " 1_2"),.B .Add,.lst 4,.B .Add,.A 2],.L 2,.L 1,.P (.int 39),.B .Mod,.sub,.ret],[],[]⟩
theorem z4J(H:G1 C)(hn:A7 n){N:Int}(q:∀x,Odd x->Q (.str x) σ):CW C (d+1) (.ref 406) [.str n,.int N] σ Q:=by
 refine z0M (G1.kin ‹_›) ["_law_name","_law_number","_law_some"] [] (by kernel_rfl) (vs2 λ_ _=>by kernel_rfl) rfl C3 ?_
 intro η hsc
 clear hsc
 refine xG H G6 ?_
 intro F m0
 refine z2n (α:=List V) (I5 7) (λxs=>[some (.str n),some (.int N),some (.lst xs)]) σ (λK hK _=> ?_) λxs0 hx0=> ?_
 ·repeat first|refine LK (z2T hn ?_)|refine LK (z2U hn ?_)
  exact hK _ (I5.lit hn (is:=[("",none),("put",none),("put ",some none),("put ",some (some " 0")),("put ",some (some " 01")),("put ",some (some " 1000")),("put A 1",none)]) (by decide+kernel))
 refine z2n (α:=List V) (I5 11) (λxs=>[some (.str n),some (.int N),some (.lst xs)]) σ (λK hK _=> ?_) λxs1 hx1=> ?_
 ·repeat first|refine LK (z2T hn ?_)|refine LK (z2U hn ?_)
  refine LK (z1q (.lst _) (.lst _) (z0i (by rw[hx0.l];exact AH rfl)) (z2A ?_))
  exact hK _ (hx0.app hn (is:=[("put ",some (some " 1 ")),(" put ",some (some " 1")),("put  ",some (some " 1")),("put ",some (some " 1 b"))]) (by decide+kernel))
 clear hx0 xs0
 refine z2n (α:=List V) (I5 15) (λxs=>[some (.str n),some (.int N),some (.lst xs)]) σ (λK hK _=> ?_) λxs2 hx2=> ?_
 ·repeat first|refine LK (z2T hn ?_)|refine LK (z2U hn ?_)
  refine LK (z1q (.lst _) (.lst _) (z0i (by rw[hx1.l];exact AH rfl)) (z2A ?_))
  exact hK _ (hx1.app hn (is:=[("put ",some (some " -1")),("put ",some (some " 1 b 2 1")),("put ",some (some " 1 b 1 2 c")),("take ",some none)]) (by decide+kernel))
 clear hx1 xs1
 refine z2n (α:=List V) (I5 19) (λxs=>[some (.str n),some (.int N),some (.lst xs)]) σ (λK hK _=> ?_) λxs3 hx3=> ?_
 ·repeat first|refine LK (z2T hn ?_)|refine LK (z2U hn ?_)
  refine LK (z1q (.lst _) (.lst _) (z0i (by rw[hx2.l];exact AH rfl)) (z2A ?_))
  exact hK _ (hx2.app hn (is:=[("take ",some (some " 1 b 1 2")),("take ",some (some " 0")),("wish ",some none),("wish ",some (some " 2 1"))]) (by decide+kernel))
 clear hx2 xs2
 refine z2n (α:=List V) (I5 26) (λxs=>[some (.str n),some (.int N),some (.lst xs)]) σ (λK hK _=> ?_) λxs4 hx4=> ?_
 ·repeat first|refine LK (z2T hn ?_)|refine LK (z2U hn ?_)
  refine LK (z1q (.lst _) (.lst _) (z0i (by rw[hx3.l];exact AH rfl)) (z2A ?_))
  exact hK _ (hx3.app hn (is:=[("wish ",some (some " 1 2 3")),("wish A 1 2",none),("forget ",none),("Forget",none),("settle 1",none),("settle ",none),("why",none)]) (by decide+kernel))
 clear hx3 xs3
 refine z2n (α:=List V) (I5 30) (λxs=>[some (.str n),some (.int N),some (.lst xs)]) σ (λK hK _=> ?_) λxs5 hx5=> ?_
 ·repeat first|refine LK (z2T hn ?_)|refine LK (z2U hn ?_)
  refine LK (z1q (.lst _) (.lst _) (z0i (by rw[hx4.l];exact AH rfl)) (z2A ?_))
  exact hK _ (hx4.app hn (is:=[("why A",none),("why ",some (some " 1")),("why  ",some none),("+ ",some none)]) (by decide+kernel))
 clear hx4 xs4
 refine z2n (α:=List V) (I5 35) (λxs=>[some (.str n),some (.int N),some (.lst xs)]) σ (λK hK _=> ?_) λxs6 hx6=> ?_
 ·repeat first|refine LK (z2T hn ?_)|refine LK (z2U hn ?_)
  refine LK (z1q (.lst _) (.lst _) (z0i (by rw[hx5.l];exact AH rfl)) (z2A ?_))
  exact hK _ (hx5.app hn (is:=[("settle\n",none),("settle\t",none),("put\t",some (some " 1")),("why ",some (some "\n")),("take ",some (some " 1\n"))]) (by decide+kernel))
 clear hx5 xs5
 refine z2n (α:=List V) (I5 39) (λxs=>[some (.str n),some (.int N),some (.lst xs)]) σ (λK hK _=> ?_) λxs7 hx7=> ?_
 ·repeat first|refine LK (z2T hn ?_)|refine LK (z2U hn ?_)
  refine LK (z1q (.lst _) (.lst _) (z0i (by rw[hx6.l];exact AH rfl)) (z2A ?_))
  exact hK _ (hx6.app hn (is:=[("put ",some (some " +1")),("put ",some (some " 1_0")),("wish ",some (some " 1 +2")),("take ",some (some " 1_2"))]) (by decide+kernel))
 clear hx6 xs6
 refine LK (y0a (Ba _ (by decide)) (by rw[hx7.l];exact Bb _ (by decide)) (by rw[hx7.l];decide) λX hX=> ?_)
 obtain⟨x,rfl,hx⟩:=hx7.o X hX
 exact q x hx
end
section
variable {mk:Int}
theorem Rw.rn(S:Rw σ ro rv es):((kvV rv).map (·.1)).Nodup:=by rw[z0Q];exact S.rwn
theorem Rw.en(S:Rw σ ro rv es)(w:Str):((esV (es w)).map (·.1)).Nodup:=by rw[z0L];exact(S.eok w).nd
theorem Rw.c1(S:Rw σ ro rv es)(p:Addr×Obj×AO):Rw (p::σ) ro rv es:=S.frame λa _ x h=>h.cons _
theorem z24(H:G1 C){b:Addr}{o:Obj}(S:Rw σ ro rv es)(q:∀c,At ((b,o,.dict [])::σ) c (dI (esV (es w)))->(c=b/\w∉rv.map (·.1)∨(w,c)∈rv)->Q (.ref c) ((b,o,.dict [])::σ)):KW C d (.bi "dict.get") [.ref ro,.str w,.ref b] ((b,o,.dict [])::σ) Q:=by
 refine z8E H.ns (S.rows.cons _) S.rn ?_
 by_cases h:w∈rv.map (·.1)
 ·obtain⟨c,hc,e,ha⟩:=S.at h
  rw[e];exact q c (ha.cons _) (.inr hc)
 ·rw[z0U (by rw[z0Q];exact h)];exact q b (by rw[S.out w h];exact At.hd) (.inl ⟨rfl,h⟩)
theorem z9H{kvs:LV}{k:Str}{X:V}(hn:(kvs.map (·.1)).Nodup)(h:(k,X)∈kvs):z2t kvs k X=kvs:=by
 unfold z2t
 rw[if_pos (List.any_eq_true.mpr ⟨_,h,AE rfl⟩)]
 refine(List.map_congr_left (g:=id) λp hp=> ?_).trans (List.map_id _)
 by_cases e:p.1=k
 ·rw[if_pos e,z09 hn hp h e];rfl
 ·rw[if_neg e];rfl
theorem Rw.add2(S:Rw σ ro rv es){σ':Sto}{b:Addr}{l:List (Int×List z0b)}(hw:A7 w)(hno:w∉rv.map (·.1))(hl:rv.length<12)(ok:B6 w l)(hf:A4 σ b)(h1:At σ' b (dI (esV l)))(h2:At σ' ro (dS (kvV (rv++[(w,b)]))))(h3:∀p∈σ,p.1≠ro->p∈σ'):Rw σ' ro (rv++[(w,b)]) (z03 es w l):=by
 have mv:∀c x,c≠ro->At σ c x->At σ' c x:=λc x h hx=>by obtain⟨o,ho⟩:=hx;exact⟨o,h3 _ ho h⟩
 have mem:∀p∈rv++[(w,b)],p∈rv∨p=(w,b):=λp hp=>by simpa using hp
 refine⟨h2,λp hp=> ?_,by rw[Am];exact z0Y S.rwn hno,by simp;exact Bm hl,λp hp=> ?_,λv hv=> ?_,z1J (P:=B6) S.eok ok,?_⟩
 ·rcases mem p hp with h|rfl
  ·rw[z0t (λe=>hno (by rw[<-e];exact Ah.mpr ⟨p,h,rfl⟩))]
   exact mv _ _ (S.ne h) (S.rin p h)
  ·rw[z0m];exact h1
 ·rcases mem p hp with h|rfl
  ·exact S.wok p h
  ·exact hw
 ·rw[Am,Ad,not_or] at hv
  rw[z0t (λe=>hv.2 (by rw[e];exact .head _))];exact S.out v hv.1
 ·rw[Am]
  refine z0Y (l:=ro::rv.map (·.2)) S.sep λh=> ?_
  rcases Ae.mp h with h|h
  ·exact hf.ne S.rows h.symm
  ·obtain⟨p,hp,e⟩:=Ah.mp h
   exact hf.ne (S.rin p hp) e
theorem Rw.del2(S:Rw σ ro rv es){σ₁ σ':Sto}{a:Addr}(ha:(w,a)∈rv)(U:C5 σ σ₁ a (dI []))(U2:C5 σ₁ σ' ro (dS (kvV (rv.filter λp=>decide (p.1≠w))))):Rw σ' ro (rv.filter λp=>decide (p.1≠w)) (z03 es w []):=by
 have sub:∀p,p∈rv.filter (λp=>decide (p.1≠w))->p∈rv/\p.1≠w:=λp hp=>by simpa using Bu.mp hp
 have vv:(rv.map (·.2)).Nodup:=(Au.mp S.sep).2
 refine⟨U2.here,λp hp=> ?_,((List.filter_sublist).map _).nodup S.rwn,Ac (Bc _ _) S.rl,λp hp=>S.wok p (sub p hp).1,λv hv=> ?_,z1J (P:=B6) S.eok .nil,(((List.filter_sublist (l:=rv)).map (·.2)).cons_cons ro).nodup S.sep⟩
 ·obtain⟨h1,h2⟩:=sub p hp
  rw[z0t h2]
  exact U2.at (U.at (S.rin p h1) λe2=>h2 (by rw[z09 vv h1 ha e2])) (S.ne h1)
 ·by_cases e:v=w
  ·rw[e,z0m]
  ·rw[z0t e]
   refine S.out v λhm=>hv ?_
   obtain⟨p,hp,rfl⟩:=Ah.mp hm
   exact Ah.mpr ⟨p,Bu.mpr ⟨hp,by simpa using e⟩,rfl⟩
theorem y2g(ns:List z0b):(ns.map z0f).map fstV=(ns.map (·.1)).map V.str:=by rw[AJ,AJ];rfl
noncomputable def z5q(r1:Stmt)(r2:Expr):TC:=⟨[.X r1,.L 1,.L 4,.K .In,.M .Or [.raw r2,.L 4,.len,.K .Lt,.M .Or [.L 4,.len,.P (.int 6),.K .Gt,.M .Or [.P (.bool false)]]],.I [.P (.str "bad need"),.ret] [],.L 2,.L 0,.Y "dict",.L 1,.dic,.H (.bi "dict.get") 2,.K .In,.I [.P (.str "twice"),.ret] [],.cut [.L 1,.L 0,.K .NotIn,.M .And [.L 0,.len,.P (.int 12),.K .Eq,.M .And [.P (.bool true)]],.M .Or [.L 0,.Y "dict",.L 1,.dic,.H (.bi "dict.get") 2,.len,.P (.int 8),.K .Eq,.M .Or [.P (.bool false)]],.I [.P (.str "full"),.ret] []],.L 0,.Y "dict",.L 1,.dic,.H (.bi "dict.get") 2,.A 5,.L 3,.L 5,.L 2,.setI,.L 5,.L 0,.L 1,.setI,.P (.str "done"),.ret],[.inl r1,.inr r2],[([0],none),([1],some [1,0])]⟩
noncomputable abbrev vF:List Str:=["_law_rows","_law_ware","_law_make","_law_needs_here","_law_wares","_law_row"]
theorem z5u(H:G1 C)(S:Rw σ ro rv es)(K:C0 (rv.map (·.1)) es wi)(hw:A7 w)(h1:1<=mk)(h2:mk<=999)(hn:∀n∈ns,A9 n)(hl:ns.length<=14)
  (q:∀c ks' es' rv' σ',D5 (rv.map (·.1)) es w mk ns c ks' es'->Rw σ' ro rv' es'->rv'.map (·.1)=ks'->Q (.str c) σ'):CW C (d+1) (.ref 411) [.ref ro,.str w,.int mk,.lst (ns.map z0f)] σ Q:=by
 refine z0M (G1.kin ‹_›) vF [("len",.bi "len"),("set",.type "set")] (by kernel_rfl) (vs4 λ_ _ _ _=>by kernel_rfl) rfl (gA ‹_› [2,49]) ?_
 intro η hsc
 have hkz:(kvV rv).length<=sizeLine:=z0E S.rl (by decide)
 have hez:(esV (es w)).length<=sizeLine:=z0E (S.eok w).len (by decide)
 have hwz:((ns.map (·.1)).map V.str).length<=sizeLine:=z0E (n:=14) (by rw[Ab];exact hl) (by decide)
 have hwl:(ns.map (·.1)).length=ns.length:=Ab _
 refine xG H (z5q _ _) ?_
 intro F m0
 refine LK ?_
 show AS C η vF _ true _ (exec _ η) [some (.ref ro),some (.str w),some (.int mk),some (.lst (ns.map z0f)),none,none] _ _
 refine z10 "_law_need" [] [] (z27 (by rw[hsc];kernel_rfl)) (by rw[hsc];kernel_rfl) C3 .nil (z0W ?_)
 with_reducible refine z0d ?_
 refine⟨_,_,.lst _,z0E hl (by decide),λenv' he=>z0N (f:=fstV) (z0j he) trivial _ _ _ (λX hX P hP=> ?_) ?_⟩
 ·obtain⟨n,_,rfl⟩:=Ah.mp hX
  repeat' with_reducible first|refine z1f ?_|refine z0d ?_|refine z0n ?_|refine z0u ?_|fail
  unfold z0f
  exact z3H hP
 rw[Ay,y2g]
 with_reducible refine z2K ?_
 have bad:z5O w ns->Q (.str "bad need") σ:=λhb=>q _ _ _ _ _ (.need hb) S rfl
 refine LK (y3A (.lst _) (z0g ?_))
 refine z0p (λhb=> ?_) λhb=> ?_
 ·refine bad (.inr λhd=>(Au.mp hd).1 ?_)
  obtain⟨v,hv,e⟩:=List.any_eq_true.mp hb
  rw[<-BF e];exact hv
 have b1:w∉ns.map (·.1):=λhm=>by
  have:((ns.map (·.1)).any λx=>x==w)=true:=List.any_eq_true.mpr ⟨w,hm,BD w⟩
  rw[this] at hb
  cases hb
 clear hb
 refine LK ?_
 show AT C η vF _ true _ (eval _ η) [some (.ref ro),some (.str w),some (.int mk),some (.lst (ns.map z0f)),some (.lst ((ns.map (·.1)).map V.str)),none] _ _
 refine z9t ?_
 with_reducible refine z0o ?_
 refine⟨rfl,?_⟩
 with_reducible refine z0o ?_
 refine⟨rfl,?_⟩
 with_reducible refine z0d ?_
 refine⟨ns.map (·.1),_,.lst _,by rw[hwl];exact nD hl rfl,?_⟩
 refine LK (z0B (n:=ns.length) (.lst _) (by rw[Ab,hwl]) hwz ?_)
 refine z0p (λhb=> ?_) λhb=> ?_
 ·refine bad (.inr λhd=> ?_)
  have hb:=Int.ofNat_lt.mp (AD hb)
  exact(z8S _).mp (by rw[hwl];exact hb) (Au.mp hd).2
 have b2:(ns.map (·.1)).Nodup:=Classical.byContradiction λhd=>by
  have:=(z8S _).mpr hd
  rw[hwl] at this
  exact AW hb (Int.ofNat_lt.mpr this)
 clear hb
 refine LK (z0B (n:=ns.length) (.lst _) (by rw[Ab,hwl]) hwz ?_)
 refine z0p (λhb=> ?_) λhb=> ?_
 ·exact bad (.inl (Int.ofNat_lt.mp (AD hb)))
 have b3:ns.length<=6:=BC.mp λh=>AW hb (Int.ofNat_lt.mpr h)
 have hns:B4 w ns:=⟨b3,hn,λn hm e=>b1 (e▸Ah.mpr ⟨n,hm,rfl⟩),b2⟩
 clear hb b1 b2 b3 bad hn
 refine LK ⟨tyD S.rows,?_⟩
 intro b o hf
 refine LK (z24 H S λc hc hcx=> ?_)
 refine LK (z95 H.ns hc (S.en w) (z0g ?_))
 clear hcx hc c
 have S1:=S.c1 (b,o,.dict [])
 by_cases hm:mk∈(es w).map (·.1)
 ·obtain⟨p,hp,ep⟩:=Ah.mp hm
  rw[show vAt (esV (es w)) mk=some (.lst (p.2.map z0f)) from z0R (S.en w) (Ah.mpr ⟨p,hp,by rw[<-ep]⟩)]
  exact q _ _ _ _ _ (.twice hns hm) S1 rfl
 rw[z0U (by rw[z0L];exact hm)]
 generalize (b,o,AO.dict [])::σ=σ1 at S1
 clear S hf
 refine y29 (α:=Addr×Obj) (λp=>(w∉rv.map (·.1)->rv.length≠12)/\(es w).length≠8) (λp=>[some (.ref ro),some (.str w),some (.int mk),some (.lst (ns.map z0f)),some (.lst ((ns.map (·.1)).map V.str)),none]) (λp=>(p.1,p.2,.dict [])::σ1) (λP hP hR=> ?_) λp hp=> ?_
 ·refine LK (z41 H.ns S1.rows S1.rn (z0g ?_))
  by_cases hk:w∈rv.map (·.1)
  ·obtain⟨c,_,e,_⟩:=S1.at hk
   rw[e]
   have hk12:w∉rv.map (·.1)->rv.length≠12:=λh=>absurd hk h
   refine LK ⟨tyD S1.rows,?_⟩
   intro b2 o2 hf2
   refine LK (z24 H S1 λc hc _=> ?_)
   refine LK (z4K H.ns hc (S1.en w) hez ?_)
   refine z0p (λh8=> ?_) λh8=> ?_
   ·have h8:(es w).length=8:=by have:=Br (AD h8);rw[Ab] at this;exact this
    exact hR _ _ _ (λe=>nomatch e) (q _ _ _ _ _ (.full8 hns hm (λh=>by rw[Ab];exact hk12 h) h8) (S1.c1 _) rfl)
   ·exact hP (b2,o2) ⟨hk12,λe=>AW h8 (by rw[Ab,e];rfl)⟩
  ·rw[z0U (by rw[z0Q];exact hk)]
   refine LK (z4L H.ns S1.rows S1.rn hkz ?_)
   refine z0p (λh12=> ?_) λh12=> ?_
   ·have h12:rv.length=12:=by have:=Br (AD h12);rw[Ab] at this;exact this
    exact hR _ _ _ (λe=>nomatch e) (q _ _ _ _ _ (.full hns hm hk (by rw[Ab];exact h12)) S1 rfl)
   ·have hk12:w∉rv.map (·.1)->rv.length≠12:=λ_ e=>AW h12 (by rw[Ab,e];rfl)
    clear h12
    refine LK ⟨tyD S1.rows,?_⟩
    intro b2 o2 hf2
    refine LK (z24 H S1 λc hc _=> ?_)
    refine LK (z4K H.ns hc (S1.en w) hez ?_)
    refine z0p (λh8=> ?_) λh8=> ?_
    ·have h8:(es w).length=8:=by have:=Br (AD h8);rw[Ab] at this;exact this
     exact hR _ _ _ (λe=>nomatch e) (q _ _ _ _ _ (.full8 hns hm (λh=>by rw[Ab];exact hk12 h) h8) (S1.c1 _) rfl)
    ·exact hP (b2,o2) ⟨hk12,λe=>AW h8 (by rw[Ab,e];rfl)⟩
 obtain⟨h12,h8⟩:=hp
 have S2:=S1.c1 (p.1,p.2,.dict [])
 generalize (p.1,p.2,AO.dict [])::σ1=σ2 at S2
 clear S1
 refine LK ⟨tyD S2.rows,?_⟩
 intro b3 o3 hf3
 refine LK (z24 H S2 λc hc hcc=> ?_)
 have S3:=S2.c1 (b3,o3,.dict [])
 have hnew:mk∉(esV (es w)).map (·.1):=by rw[z0L];exact hm
 refine LK (z8a hc (S2.en w) hez λσ4 U=> ?_)
 rw[z15 hnew,<-z8W] at U
 rcases hcc with⟨rfl,hk⟩|hcm
 ·have hrb:ro≠c:=hf3.ne S2.rows
  refine LK (y0x (U.at S3.rows hrb) S2.rn hkz λσ5 U2=> ?_)
  rw[z15 (by rw[z0Q];exact hk),<-z87] at U2
  have e0:es w=[]:=S2.out w hk
  rw[e0] at U
  have hlt:rv.length<12:=by have:=h12 hk;have:=S2.rl;exact Bo this (h12 hk)
  refine q _ _ _ _ _ (.new hns hk (by rw[Ab];exact h12 hk)) (S2.add2 hw hk hlt (B6.nil.add Av (by decide) h1 h2 hns) hf3 (U2.at U.here hrb.symm) U2.here λp hp hne=>U2.keep p (U.keep p (.tail _ hp) (hf3 p hp)) hne) (by rw[Am];rfl)
 ·have hk:w∈rv.map (·.1):=Ah.mpr ⟨_,hcm,rfl⟩
  have S4:=S3.set hcm ((S2.eok w).add hm (by have:=(S2.eok w).len;exact Bo this h8) h1 h2 hns) U
  refine LK (y0x S4.rows S2.rn hkz λσ5 U2=> ?_)
  rw[z9H S2.rn (Ah.mpr ⟨_,hcm,rfl⟩)] at U2
  exact q _ _ _ _ _ (.old hns hm hk h8) {S4 with rows:=U2.here,rin:=λp hp=>U2.at (S4.rin p hp) (S4.ne hp)} rfl
noncomputable def I2:TC:=⟨[.L 2,.L 0,.Y "dict",.L 1,.dic,.H (.bi "dict.get") 2,.K .NotIn,.I [.P (.str "no make"),.ret] [],.L 0,.L 1,.sub,.Y "dict",.L 2,.H (.bi "dict.pop") 1,.pop,.L 0,.L 1,.sub,.dic,.K .Eq,.I [.L 0,.Y "dict",.L 1,.H (.bi "dict.pop") 1,.pop] [],.P (.str "done"),.ret],[],[]⟩
theorem z7P(H:G1 C)(S:Rw σ ro rv es)(h1:1<=mk)(h2:mk<=999)(q:∀c ks' es' rv' σ',G2 (rv.map (·.1)) es w mk c ks' es'->Rw σ' ro rv' es'->rv'.map (·.1)=ks'->Q (.str c) σ'):CW C (d+1) (.ref 418) [.ref ro,.str w,.int mk] σ Q:=by
 refine z0M (G1.kin ‹_›) ["_law_rows","_law_ware","_law_make"] [] (by kernel_rfl) (vs3 λ_ _ _=>by kernel_rfl) rfl C3 ?_
 intro η hsc
 clear hsc
 have hkz:(kvV rv).length<=sizeLine:=z0E S.rl (by decide)
 have hez:(esV (es w)).length<=sizeLine:=z0E (S.eok w).len (by decide)
 refine xG H I2 ?_
 intro F m0
 refine LK ⟨tyD S.rows,?_⟩
 intro b o hf
 refine LK (z24 H S λc hc hcx=> ?_)
 refine LK (y3F H.ns hc (S.en w) (z0g ?_))
 clear hcx hc c
 have S1:=S.c1 (b,o,.dict [])
 generalize (b,o,AO.dict [])::σ=σ1 at S1
 by_cases hm:mk∈(es w).map (·.1)
 ·obtain⟨p,hp,ep⟩:=Ah.mp hm
  have hv:vAt (esV (es w)) mk=some (.lst (p.2.map z0f)):=z0R (S.en w) (Ah.mpr ⟨p,hp,by rw[<-ep]⟩)
  rw[hv]
  have hpm:(mk,p.2)∈es w:=by rw[<-ep];exact hp
  obtain⟨a,ha,hra,hat⟩:=S1.at (S1.inRv hp)
  clear S hf
  refine LK (z3u S1.rows S1.rn hra ?_)
  refine LK ⟨tyD hat,?_⟩
  refine LK (z8G hat (S1.en w) hez hv λσ2 U=> ?_)
  rw[y3a] at U
  have nro:ro≠a:=(S1.ne ha).symm
  have hen':((esV ((es w).filter λp=>decide (p.1≠mk))).map (·.1)).Nodup:=by
   rw[z0L];exact((List.filter_sublist).map _).nodup (S1.eok w).nd
  have he:(esV ((es w).filter λp=>decide (p.1≠mk))).isEmpty=((es w).filter λp=>decide (p.1≠mk)).isEmpty:=by unfold esV;rw[List.isEmpty_map]
  refine LK (z3u (U.at S1.rows nro) S1.rn hra ?_)
  intro b2 o2 hf2
  refine LK (y2W (KK.int C.prog C.w) H.ns (U.here.cons _) hen' At.hd ?_)
  refine z0g ?_
  rw[he]
  have U':C5 σ1 ((b2,o2,.dict [])::σ2) a (dI (esV ((es w).filter λp=>decide (p.1≠mk)))):=⟨U.here.cons _,λp hp hn=> .tail _ (U.keep p hp hn)⟩
  refine z0p (λhb=> ?_) λhb=> ?_
  ·have hb:=List.isEmpty_iff.mp hb
   rw[hb] at U'
   have hro:=U'.at S1.rows nro
   refine LK ⟨tyD hro,?_⟩
   refine LK (z8H hro S1.rn hkz hra λσ3 U2=> ?_)
   rw[y3b] at U2
   exact q _ _ _ _ _ (.last hpm hb) (S1.del2 ha U' U2) (by rw[List.filter_map];rfl)
  ·exact q _ _ _ _ _ (.one hpm λe=>by rw[e] at hb;cases hb) (S1.set ha ((S1.eok w).filter _) U') rfl
 ·rw[z0U (by rw[z0L];exact hm)]
  exact q _ _ _ _ _ (.no hm) S1 rfl
end
noncomputable def z5s(es:ES)(wi:List z0b)(w:Str):Str:=if w=="" then z5m es wi else z6T es wi w
noncomputable def pwV:V->V
 | .tup [.str w,.int m]=> .str (w++" "++sI m)
 |v=>v
theorem y4j(ps:LI):(ps.map prV).map pwV=(ps.map λp=>p.1++" "++sI p.2).map V.str:=by rw[AJ,AJ];rfl
def WzI(w:Str)(r:LI)(ys:List V)(a0 a1 a2 a3:V)(σ:Sto)(j:Nat)(m₀:Loc)(τ₀:Sto):Prop:=∀P:Loc->Sto->Prop,(∀{u v:Option V},(∀i<j,∀p,(r.zip ys)[i]? =some p->(p.1.1==w)=false)->P [some a0,some a1,some a2,some a3,u,v] σ)->P m₀ τ₀
theorem WzI.mk{w:Str}{r:LI}{ys:List V}{a0 a1 a2 a3:V}{σ:Sto}{j:Nat}{u v:Option V}(x0:(∀i<j,∀p,(r.zip ys)[i]? =some p->(p.1.1==w)=false)):WzI w r ys a0 a1 a2 a3 σ j [some a0,some a1,some a2,some a3,u,v] σ:=λ_ k=>k x0
noncomputable def z2v(r1:Expr):TC:=⟨[.L 4,.S 0,.L 2,.K .Eq,.I [.P (.str " "),.Y "str",.P (.str "against"),.lst 1,.raw r1,.B .Add,.H (.bi "str.join") 1,.ret] []],[.inr r1],[([0,0,0],some [1,1])]⟩
noncomputable def z28(r1:Expr)(r2:Stmt):TC:=⟨[.L 0,.call (.ref 387) 1,.L 1,.call (.type "list") 1,.call (.ref 206) 2,.A 3,.L 2,.P (.str ""),.tcmp .Eq,.I [.L 3,.S 0,.P (.str "none"),.K .Eq,.I [.P (.str "none"),.ret] [],.P (.str " "),.Y "str",.P (.str "pick"),.lst 1,.raw r1,.B .Add,.H (.bi "str.join") 1,.ret] [],.L 3,.S 0,.P (.str "pick"),.K .Eq,.I [.X r2] [],.P (.str "no pick"),.ret],[.inr r1,.inl r2],[([1,0,1],some [1,1]),([2,0,0],none)]⟩
noncomputable abbrev vD:List Str:=["_law_rows","_law_wish","_law_ware","_law_found","_law_pair","_law_against"]
theorem z18(H:G1 C)(S:Rw σ ro rv es)(K:C0 (rv.map (·.1)) es wi){x:V}{Px:Sto->Prop}(hx:A8 σ x (.list (wi.map z0f)) Px)(q:Q (.str (z5s es wi w)) σ):CW C (d+22) (.ref 423) [.ref ro,x,.str w] σ Q:=by
 refine y1Q ?_
 refine z0M (G1.kin ‹_›) vD [("settle",.ref 206),("_law_shop",.ref 387),("list",.type "list"),("zip",.type "zip")] (by kernel_rfl) (vs3 λ_ _ _=>by kernel_rfl) rfl (gA ‹_› [46,50,12,47]) ?_
 intro η hsc
 have g:=K.gd
 refine xG H (z28 _ _) ?_
 intro F m0
 refine LK (fnc (z7O H S (λp hp=>K.ne _ (Ah.mpr ⟨p,hp,rfl⟩)) λsh k kv σ1 T hke _ _ _ hsub=> ?_))
 refine LK (z2z (hx.mono hsub) (z0E K.wi.len (by decide)) (.inl ?_))
 refine LK (fnc (z4o H g T (.lst _) (λt r ys e1 e2 pb hag hyl ee=> ?_) λt Z e1 e2 ee=> ?_))
 ·have hrl:=pb.len
  refine LK (z3l (z0g ?_))
  rcases Bool.eq_false_or_eq_true (w=="") with hb|hb
  ·have q2:Q (.str (Txt.join " " ("pick"::(r.map prT).flatten))) σ:=by unfold z5s z5m at q;rw[if_pos hb,ee] at q;exact q
   rw[hb]
   clear q hb
   refine z1o e1 ?_
   refine LK ⟨z2c,?_⟩
   refine LK ?_
   show AT C η vD _ true _ (eval _ η) [some (.ref ro),some x,some (.str w),some (.tup [.str t,.lst (r.map prV),.lst ys]),none,none] _ _
   refine z0H "_law_pair" [] [("str",.type "str")] (by rw[hsc];kernel_rfl) (gA H [1]) .nil (z0W ?_)
   repeat' with_reducible first|refine z1f ?_|refine z0d ?_|refine z0n ?_|refine z0u ?_|refine z3H ?_|fail
   refine⟨_,_,.lst _,z0E hrl (by decide),λenv' he=>z0N (f:=pwV) (z0j he) trivial _ _ _ (λX hX P hP=> ?_) ?_⟩
   ·obtain⟨p,hp,rfl⟩:=Ah.mp hX
    have ok:=pb.ok p hp
    have l1:=ok.1.hi
    have s1:(Str.ofString (toString p.2)).length<=3:=(z1t ok.2.1 ok.2.2).2.2
    have o1:=Bp one1
    repeat' with_reducible first|refine z1f ?_|refine z0O ?_|refine z0d ?_|refine z0n ?_|refine z0u ?_|fail
    unfold prV
    refine z3H ?_
    with_reducible refine z0r ?_
    refine z0A l1 o1 rfl λb1=> ?_
    repeat' with_reducible first|refine z1f ?_|refine z0G ?_|refine z0d ?_|refine z0n ?_|refine z0u ?_|refine z0c ?_|refine z0o ?_|refine z1P ?_|fail
    refine z3H ?_
    with_reducible refine z0e ?_
    refine z1L (z0S ok.2.1 ok.2.2) ?_
    refine z0A b1 s1 rfl λ_=> ?_
    exact hP
   rw[Ay,y4j]
   refine LK (z1q (.lst _) (.lst _) (z0i (by rw[Ab,Ab];show 1+_<=_;exact nD (Be hrl 1) rfl)) (z2A ?_))
   refine LK (z4a (xs:=("pick":Str)::r.map λp=>p.1++" "++sI p.2) (.lst _) (z2p (by decide+kernel) (Aa.mpr ⟨by decide+kernel,λv hv=> ?_⟩) (by rw[Aq,Ab];exact nD (Bh hrl) rfl)) ?_)
   ·obtain⟨p,hp,rfl⟩:=Ah.mp hv
    have ok:=pb.ok p hp
    have l1:=ok.1.hi
    have s1:=(z1t ok.2.1 ok.2.2).2.2
    rw[z0l,z0l,one1];exact nD (Bd (Bg l1 1) s1) rfl
   rw[y2I]
   exact⟨hsub,q2⟩
  ·have q2:Q (.str (whS w r ys)) σ:=by unfold z5s z6T at q;rw[if_neg (by rw[hb];exact BB),ee] at q;exact q
   rw[hb]
   clear q hb
   refine z2H e2 ?_
   refine LK ?_
   show AS C η vD _ true _ (exec _ η) [some (.ref ro),some x,some (.str w),some (.tup [.str t,.lst (r.map prV),.lst ys]),none,none] _ _
   refine y0u (WzI w r ys (.ref ro) x (.str w) (.tup [.str t,.lst (r.map prV),.lst ys]) σ1) (z9T ?_)
   with_reducible refine z0o ?_
   refine⟨rfl,?_⟩
   repeat' with_reducible first|refine z1f ?_|refine z0G ?_|refine z0d ?_|refine z0n ?_|refine z0u ?_|refine z0c ?_|refine z0e ?_|refine z3H ?_|fail
   refine⟨_,_,_,_,_,_,rfl,.lst _,.lst _,.mk λi h=>absurd h (Nat.not_lt_zero i),λj X hX m τ hI QB hQB hQR=> ?_,λm τ hI=> ?_⟩
   ·apply hI;intro u v hno
    obtain⟨p,y,hp,hy,rfl⟩:=y1J hX
    obtain⟨as,rfl,h8,hab⟩:=hag y hy
    refine z9R ?_
    with_reducible refine z0w PutC.put ?_
    with_reducible refine z0w PutC.put ?_
    refine xG H (z2v _) ?_
    intro F m0
    refine z0p (λhbw=> ?_) λhbw=> ?_
    ·refine LK ⟨z2c,?_⟩
     refine LK ?_
     show AT C η vD _ true _ (eval _ η) [some (.ref ro),some x,some (.str w),some (.tup [.str t,.lst (r.map prV),.lst ys]),some (prV p),some (.lst (as.map aV))] _ _
     refine z0H "_law_one" [] [("str",.type "str")] (by rw[hsc];kernel_rfl) (gA H [1]) .nil (z0W ?_)
     with_reducible refine z0d ?_
     refine⟨_,_,.lst _,z0E h8 (by decide),λenv' he=>z0N (f:=kV) (z0j he) trivial _ _ _ (λX hX P hP=> ?_) ?_⟩
     ·obtain⟨z,hz,rfl⟩:=Ah.mp hX
      repeat' with_reducible first|refine z1f ?_|refine z0G ?_|refine z0d ?_|refine z0n ?_|refine z0u ?_|refine z0c ?_|refine z0e ?_|refine z3H ?_|refine z0o ?_|refine z1P ?_|fail
      refine z1L (z0S (hab z hz).1 (hab z hz).2) ?_
      exact hP
     rw[Ay,y3f]
     refine LK (z1q (.lst _) (.lst _) (z0i (by rw[Ab,Ab];show 1+_<=_;exact nD (Be h8 1) rfl)) (z2A ?_))
     refine LK (z4a (xs:=("against":Str)::as.map λp=>sI p.1) (.lst _) (z2p (by decide+kernel) (y26 hab) (by rw[Aq,Ab];exact nD (Bh h8) rfl)) ?_)
     refine hQR _ _ _ ?_
     rw[y3p hno hp hbw,y0C] at q2
     exact⟨hsub,q2⟩
    ·exact hQB _ _ ⟨trivial,trivial⟩ (.mk (z9m hno hp hbw))
   ·apply hI;intro u v hno
    rw[z7X] at hno
    rw[y3q hno (AN _)] at q2
    exact⟨hsub,q2⟩
 ·refine LK (z3l (z0g ?_))
  rcases Bool.eq_false_or_eq_true (w=="") with hb|hb
  ·have q2:Q (.str "none") σ:=by unfold z5s z5m at q;rw[if_pos hb,ee] at q;exact q
   rw[hb]
   clear q hb
   refine z2H e1 ?_
   exact⟨hsub,q2⟩
  ·have q2:Q (.str "no pick") σ:=by unfold z5s z6T at q;rw[if_neg (by rw[hb];exact BB),ee] at q;exact q
   rw[hb]
   clear q hb
   refine z1o e2 ?_
   exact⟨hsub,q2⟩
def CpI(rv:LA)(es:ES)(σ:Sto)(i:Nat)(m₀:List V)(τ₀:Sto):Prop:=∀P:List V->Sto->Prop,(∀{cp:LA} {τ:Sto},cp.map (·.1)=(rv.map (·.1)).take i->(∀p∈cp,At τ p.2 (dI (esV (es p.1))))->(∀p∈cp,A4 σ p.2)->(cp.map (·.2)).Nodup->(∀p∈σ,p∈τ)->P (cp.map λp=> .tup [.str p.1,.ref p.2]) τ)->P m₀ τ₀
theorem CpI.mk{rv:LA}{es:ES}{σ:Sto}{i:Nat}{cp:LA}{τ:Sto}(x0:cp.map (·.1)=(rv.map (·.1)).take i)(x1:(∀p∈cp,At τ p.2 (dI (esV (es p.1)))))(x2:(∀p∈cp,A4 σ p.2))(x3:(cp.map (·.2)).Nodup)(x4:(∀p∈σ,p∈τ)):CpI rv es σ i (cp.map λp=> .tup [.str p.1,.ref p.2]) τ:=λ_ k=>k x0 x1 x2 x3 x4
structure Cpd(σ:Sto)(ks:List Str)(es:ES)(a:Addr)(rv:LA)(σ':Sto):Prop where
 rw_:Rw σ' a rv es
 ke:rv.map (·.1)=ks
 fa:A4 σ a
 fv:∀p∈rv,A4 σ p.2
 sub:∀p∈σ,p∈σ'
noncomputable def z4y(r1:Expr):TC:=⟨[.raw r1,.call (.type "dict") 1,.ret],[.inr r1],[([0],some [1])]⟩
theorem z7M(H:G1 C)(S:Rw σ ro rv es)(q:∀a rv' σ',Cpd σ (rv.map (·.1)) es a rv' σ'->Q (.ref a) σ'):CW C (d+1) (.ref 428) [.ref ro] σ Q:=by
 refine z0M (G1.kin ‹_›) ["_law_rows"] [("dict",.type "dict")] (by kernel_rfl) (vs1 λ_=>by kernel_rfl) rfl (gA ‹_› [22]) ?_
 intro η hsc
 obtain⟨oro,hrm⟩:=S.rows
 have hkl:(kvV rv).length<=12:=by rw[Ab];exact S.rl
 refine xG H (z4y _) ?_
 intro F m0
 refine LK ?_
 show AT C η ["_law_rows"] _ true _ (eval _ η) [some (.ref ro)] _ _
 refine z0H "_law_ware" ["_law_rows"] [("dict",.type "dict")] (by rw[hsc];kernel_rfl) (gA H [22]) (.cons LkC.lk .nil) (z8u (KK.str C.prog C.w) H.ns ?_)
 with_reducible refine z0d ?_
 refine⟨ro,oro,kvV rv,rfl,hrm,S.rn,z0i (by rw[Ab];exact nD hkl rfl),λenv' he=>z60 (CpI rv es σ) (z0j he) _ 0 [] _ _ (λj X hX acc τ hI=> ?_) (λacc τ hI=> ?_) (.mk (cp:=[]) rfl (λ_ h=>nomatch h) (λ_ h=>nomatch h) Aw λp h=>h)⟩
 ·rw[AP] at hI⊢
  rw[y3g,Al,Al] at hX
  cases hp:rv[j]? with
  |none=>rw[hp] at hX;cases hX
  |some p=>
  rw[hp] at hX
  have hX:some (V.str p.1)=some X:=hX
  cases hX
  have hpm:=Ak hp
  have hrb:vAt (kvV rv) p.1=some (.ref p.2):=z0R S.rn (Ah.mpr ⟨_,hpm,rfl⟩)
  have hez:(esV (es p.1)).length<=sizeLine:=z0E (S.eok p.1).len (by decide)
  have htk:=z1s (show(rv.map (·.1))[j]? =some p.1 from z2h hp)
  apply hI;intro cp τ hk hat hf hnd hsub
  have hro:At τ ro (dS (kvV rv)):=⟨oro,hsub _ hrm⟩
  obtain⟨ob,hbm⟩:=S.rin p hpm
  refine z2j ?_
  repeat' with_reducible first|refine z0G ?_|refine z0d ?_|refine z0u ?_|refine z0c ?_|refine z0o ?_|refine z1P ?_|fail
  refine z3u hro S.rn hrb ?_
  with_reducible refine z0e ?_
  refine y1V (KK.int C.prog C.w) H.ns (⟨ob,hsub _ hbm⟩:At τ p.2 (dI (esV (es p.1)))) (S.en p.1) hez λb o hfb=> ?_
  with_reducible refine z0e ?_
  refine⟨by with_unfolding_all exact AH rfl,.tail _ (hsub _ hrm),?_⟩
  have hm:CpI rv es σ (j+1) ((cp++[(p.1,b)]).map λp=> .tup [.str p.1,.ref p.2]) ((b,o,dI (esV (es p.1)))::τ):= .mk (by rw[Am,hk,htk];rfl) (λz hz=>by
   rcases Ad.mp hz with h|h
   ·exact(hat z h).cons _
   ·rw[Af.mp h];exact At.hd) (λz hz=>by
   rcases Ad.mp hz with h|h
   ·exact hf z h
   ·rw[Af.mp h];exactλy hy=>hfb y (hsub y hy)) (by
   rw[Am]
   refine z0Y hnd λhm=> ?_
   obtain⟨z,hz,e⟩:=Ah.mp hm
   exact hfb.ne (hat z hz) e) λy hy=> .tail _ (hsub y hy)
  rw[Am] at hm
  exact hm
 ·apply hI;intro cp τ hk hat hf hnd hsub
  rw[AP,y3g,Ab,AU] at hk
  have hcn:((kvV cp).map (·.1)).Nodup:=by rw[z0Q,hk];exact S.rwn
  have hcl:cp.length=rv.length:=by have:=congrArg List.length hk;rw[Ab,Ab] at this;exact this
  refine LK (z8D (KK.str C.prog C.w) (ps:=kvV cp) (P:=λ_=>True) (by rw[show(kvV cp).map (λp=>V.tup [(KK.str C.prog C.w).v p.1,p.2])=cp.map λp=> .tup [.str p.1,.ref p.2] by rw[AJ];rfl];exact .lst _) (by rw[Ab,hcl];have:=S.rl;exact nD this rfl) λa o hfa=> ?_)
  rw[z7e hcn]
  refine q a cp _ ⟨⟨At.hd,λp hp=>(hat p hp).cons _,by rw[hk];exact S.rwn,by rw[hcl];exact S.rl,λp hp=> ?_,λv hv=>S.out v (by rw[<-hk];exact hv),S.eok,Au.mpr ⟨λhm=> ?_,hnd⟩⟩,hk,λy hy=>hfa y (hsub y hy),hf,λy hy=> .tail _ (hsub y hy)⟩
  ·have:p.1∈rv.map (·.1):=by rw[<-hk];exact Ah.mpr ⟨p,hp,rfl⟩
   obtain⟨z,hz,e⟩:=Ah.mp this
   rw[<-e];exact S.wok z hz
  ·obtain⟨z,hz,e⟩:=Ah.mp hm
   exact hfa.ne (hat z hz) e
theorem z85{τ:Sto}{n:Nat}:∀{l:List Int},F2 (Dn τ n) (l.map V.int) (l.map V.int)
 |[]=> .nil
 |i::l=> .cons (.int i) z85
theorem y3C(hs:z0J C){l:List Int}(hl:l.length<=100)(q:Q (.bool false) σ):AC2 C d (compareOp .NotEq) (.lst (l.map V.int)) (.lst (l.map V.int)) σ Q:=
 z7Z hs (n:=1) (.lF (z85 (n:=0)) (by rw[Ab];exact nD hl rfl)) (by decide) q
theorem z7p{τ:Sto}:∀{l:List z0b},(∀n∈l,A9 n)->F2 (Dn τ 1) (l.map z0f) (l.map z0f)
 |[],_=> .nil
 |n::l,h=> .cons (.tF (.cons (.str _ (h n (.head _)).w.asc) (.cons (.int _) (.cons (.int _) .nil)))) (z7p λm hm=>h m (.tail _ hm))
theorem z7q{τ:Sto}{l:List z0b}(h:∀n∈l,A9 n)(hl:l.length<=100):Dn τ 2 (.lst (l.map z0f)) (.lst (l.map z0f)):= .lF (z7p h) (by rw[Ab];exact nD hl rfl)
def LkI(a0 a1:V)(σ:Sto)(j:Nat)(m₀:Loc)(τ₀:Sto):Prop:=∀P:Loc->Sto->Prop,(∀{u v:Option V},P [some a0,some a1,u,v] σ)->P m₀ τ₀
theorem LkI.mk{a0 a1:V}{σ:Sto}{j:Nat}{u v:Option V}:LkI a0 a1 σ j [some a0,some a1,u,v] σ:=λ_ k=>k
def LjI(a0 a1 a2:V)(σ:Sto)(j:Nat)(m₀:Loc)(τ₀:Sto):Prop:=∀P:Loc->Sto->Prop,(∀{v:Option V},P [some a0,some a1,some a2,v] σ)->P m₀ τ₀
theorem LjI.mk{a0 a1 a2:V}{σ:Sto}{j:Nat}{v:Option V}:LjI a0 a1 a2 σ j [some a0,some a1,some a2,v] σ:=λ_ k=>k
noncomputable def I4:TC:=⟨[.L 0,.mI 272 "wares",.H (.ref 269) 0,.L 1,.call (.bi "sorted") 1,.K .NotEq,.I [.P (.bool false),.ret] [],.L 1,.forDS 2 [.L 0,.mI 272 "makes",.L 2,.H (.ref 255) 1,.L 1,.L 2,.sub,.call (.bi "sorted") 1,.K .NotEq,.I [.P (.bool false),.ret] [],.L 1,.L 2,.sub,.forDI 3 [.L 0,.mI 272 "needs",.L 2,.L 3,.H (.ref 262) 2,.L 1,.L 2,.sub,.L 3,.sub,.K .NotEq,.I [.P (.bool false),.ret] []]],.P (.bool true),.ret],[],[]⟩
theorem z4E(H:G1 C)(T:C1 σ i k kv es')(S:Rw σ ro rv es)(hk:(kv.map (·.1)).Perm (rv.map (·.1)))(he:∀w,(es' w).Perm (es w))(q:Q (.bool true) σ):CW C (d+4) (.ref 435) [.ref i,.ref ro] σ Q:=by
 refine z0M (G1.kin ‹_›) ["_law_shop_here","_law_rows","_law_ware","_law_make"] [("sorted",.bi "sorted")] (by kernel_rfl) (vs2 λ_ _=>by kernel_rfl) rfl (gA ‹_› [41]) ?_
 intro η hsc
 clear hsc
 obtain⟨dx,hin⟩:=T.inst
 obtain⟨oro,hrm⟩:=S.rows
 have hkl:(kvV rv).length<64:=by rw[Ab];exact AG S.rl (by decide)
 have hwr:∀w∈z2e (rv.map (·.1)),A7 w:=z8l λv hv=>by
  apply z0X hv;intro p hp
  exact S.wok p hp
 refine xG H I4 ?_
 intro F m0
 refine LK (z0k hin ?_)
 refine LK (fnc (z9l H T (.inl ?_)))
 refine LK (z63 H.ns ⟨oro,hrm⟩ S.rn hkl (.inl ?_))
 rw[z0Q,z5H hk]
 refine LK (y3D hwr hwr (z0g ?_))
 rw[AE rfl]
 refine LK (.mk ro oro (kvV rv) (LkI (.ref i) (.ref ro) σ) rfl H.ns hrm S.rn .mk (λj p hX m τ hI QB hQB _=> ?_) λm τ hI=>by apply hI;intro _ _;exact q)
 clear q
 apply hI;intro u v
 rw[Al] at hX
 apply z0Z hX;rintro ⟨w,b⟩ hwb
 have hb:=Ak hwb
 have hw:=S.wok _ hb
 have hok:=S.eok w
 have hen:=S.en w
 obtain⟨ob,hbm⟩:=S.rin _ hb
 have hrb:vAt (kvV rv) w=some (.ref b):=z0R S.rn (Ah.mpr ⟨_,hb,rfl⟩)
 refine LK (z0k hin ?_)
 refine LK (fnc (z4W H T hw (.inl ?_)))
 refine LK (z3u ⟨oro,hrm⟩ S.rn hrb ?_)
 refine LK (z62 H.ns (⟨ob,hbm⟩:At σ b (dI (esV (es w)))) hen (by rw[Ab];exact AG hok.len (by decide)) (.inl ?_))
 rw[z0L,z5G ((he w).map (·.1))]
 refine LK (y3C H.ns (by rw[(z1m _).length_eq,Ab];exact nD hok.len rfl) (z0g ?_))
 refine LK (z3u ⟨oro,hrm⟩ S.rn hrb ?_)
 refine LK (.mk b ob (esV (es w)) (LjI (.ref i) (.ref ro) (.str w) σ) rfl H.ns hbm hen .mk (λj p hX m τ hI QB hQB' _=> ?_) λm τ hI=>by apply hI;intro _;exact hQB _ _ hrm .mk)
 clear hQB
 apply hI;intro v
 rw[Al] at hX
 apply z0Z hX;rintro ⟨mk,ns⟩ hme
 have hm:=Ak hme
 have hmb:=hok.mb _ hm
 have hns:=hok.nok _ hm
 have hv:vAt (esV (es w)) mk=some (.lst (ns.map z0f)):=z0R hen (Ah.mpr ⟨_,hm,rfl⟩)
 refine LK (z0k hin ?_)
 refine LK (fnc (z3k H T hw hmb.1 hmb.2 ((he w).mem_iff.mpr hm) (.inl ?_)))
 refine LK (z3u ⟨oro,hrm⟩ S.rn hrb ?_)
 refine LK (y3G ⟨ob,hbm⟩ hen hv ?_)
 refine LK (z7Z H.ns (z7q hns.ok (nD hns.len rfl)) (by decide) (z0g ?_))
 exact hQB' _ _ hbm .mk
section
variable {τ:Sto} {wl:Addr}
theorem z7J{a:Addr}{o:Obj}{x:AO}(hp:σ.Perm ((a,o,x)::τ))(x':AO):∃σ':Obj->Sto,(∀o',F9 a o x o' x' σ (σ' o'))/\∀o',(σ' o').Perm ((a,o',x')::τ):=by
 have hm:(a,o,x)∈σ:=hp.mem_iff.mpr (.head _)
 obtain⟨u,v,rfl⟩:=List.append_of_mem hm
 have h2:(u++v).Perm τ:=(List.perm_middle.symm.trans hp).cons_inv
 exact⟨λo'=>u++(a,o',x')::v,λo'=>F9.app u .head,λo'=>List.perm_middle.trans (h2.cons _)⟩
theorem y0f{a:Addr}{o:Obj}{xs:List V}{X:V}(hp:σ.Perm ((a,o,.list xs)::τ))(hl:xs.length<=sizeLine)(q:∀o' σ',σ'.Perm ((a,o',.list (xs++[X]))::τ)->Q .none σ'):KW C d (.bi "list.append") [.ref a,X] σ Q:=by
 obtain⟨σ',U,P⟩:=z7J hp (.list (xs++[X]))
 exact z43 U hl λo'=>q o' _ (P o')
theorem y0g{a:Addr}{o:Obj}{xs:List V}(hp:σ.Perm ((a,o,.list xs)::τ))(hl:xs.length<=sizeLine)(q:∀o' σ',σ'.Perm ((a,o',.list [])::τ)->Q .none σ'):KW C d (.bi "list.clear") [.ref a] σ Q:=λA G D s v vs hA R hv hss=>by
 apply VR.biE hv
 obtain⟨σ',U,P⟩:=z7J hp (.list [])
 apply A6.consE hss;intro _ _ h1 h2
 apply A6.nilE h2;apply VR.refE h1
 obtain⟨ws,n,rfl,hr⟩:∃ws n,o=z0q ws n/\A6 C.w D ws.toList xs:=R.sto _ (U o).mem
 have ho:s.heap.get? a=some (z0q ws n):=R.pl _ (U (z0q ws n)).mem
 refine call_meets F.slot_list_clear ⟨_,ho,rfl⟩ F.entry_list_clear (F.args_list_clear_1 _) (AutoSeq1.list_clear_list_0 a ws n (by rw[show ws.size=xs.length by rw[<-hr.length];simp];exact hl)) ⟨ho,?_⟩
 have h1:=PyProof.Rows.get?_update_seq (c:="list") ho (λ_=> #[])
 have:=R.upd (U _) s.toks (z0C _ _) (Heap.SameBut.update ..) rfl h1 ⟨#[],_,rfl,.nil⟩
 exact⟨.none,D,_,DX.refl _ _,.none,this,q _ _ (P _)⟩
inductive Lw(σ:Sto)(ro wl:Addr)(ks:List Str)(es:ES)(wi:List z0b):Prop
 |mk {o:Obj} {σr:Sto} {rv:LA}:σ.Perm ((wl,o,.list (wi.map z0f))::σr)->Rw σr ro rv es->rv.map (·.1)=ks->C0 ks es wi->Lw σ ro wl ks es wi
theorem y4F{x y:Int}(q:∀l:Int,1<=l->l<=996->Q (.int l) σ):C2 C d (.lst [.int (1+x.fmod 4),.int (1+x.fmod 996)]) (.int ((y.fmod 4).fdiv 3)) σ Q:=
 z8B (y2n y).1 (y2n y).2 (q _ (z4u x (show 0<4 by decide) (by decide)).1 (z4u x (show 0<4 by decide) (by decide)).2) (q _ (z4u x (show 0<996 by decide) (by decide)).1 (z4u x (show 0<996 by decide) (by decide)).2)
theorem y07{lo hi:Int}(h:A9 (w,lo,hi)):Ln ("wish "++w++" "++sI lo++" "++sI hi) ("wish"::ndW (w,lo,hi)):=by
 have:=y2u h
 dsimp only at this
 exact this
theorem G0:B5 [("settle":Str)]=some .settle:=by
 show(if(("settle":Str)::[])=[("settle":Str)] then some D8.settle else if(("settle":Str)::[])=[("forget":Str)] then some .forget else z3B "settle" [])=some .settle
 rw[if_pos rfl]
theorem parse_forget:B5 [("forget":Str)]=some .forget:=by
 show(if(("forget":Str)::[])=[("settle":Str)] then some D8.settle else if(("forget":Str)::[])=[("forget":Str)] then some .forget else z3B "forget" [])=some .forget
 rw[if_neg (by decide+kernel),if_pos rfl]
theorem y3M{a b:Int}(e:a=b)(h:b.natAbs.log2<1920)(q:Q (.str (toString b)) σ):KW C d (.type "str") [.int a] σ Q:=by subst e;exact z1L h q
theorem y2S(h:A7 w):(w==("":Str))=false:=by
 cases e:w==("":Str) with
 |false=>rfl
 |true=>have:=h.lo;rw[BF e] at this;exact absurd this (by decide+kernel)
theorem y2O(h:A7 w):z5s es wi w=z6T es wi w:=by unfold z5s;rw[if_neg (by rw[y2S h];exact BB)]
theorem tol_set:z5s es wi ""=z5m es wi:=by unfold z5s;rw[if_pos (by decide+kernel)]
theorem l4p:("put ":Str).length=4:=by decide+kernel
theorem l5t:("take ":Str).length=5:=by decide+kernel
theorem l5w:("wish ":Str).length=5:=by decide+kernel
theorem l4y:("why ":Str).length=4:=by decide+kernel
noncomputable def I3:TC:=⟨[.L 2,.L 3,.P (.int 12),.B .FloorDiv,.L 2,.len,.B .Mod,.sub,.A 4,.P (.int 1),.L 3,.P (.int 60),.B .FloorDiv,.P (.int 4),.B .Mod,.B .Add,.P (.int 1),.L 3,.P (.int 60),.B .FloorDiv,.P (.int 996),.B .Mod,.B .Add,.lst 2,.L 3,.P (.int 12),.B .FloorDiv,.P (.int 4),.B .Mod,.P (.int 3),.B .FloorDiv,.sub,.A 5,.L 3,.P (.int 12),.B .Mod,.A 6,.L 6,.P (.int 5),.K .Lt,.I [.L 2,.L 3,.P (.int 240),.B .FloorDiv,.call (.ref 394) 2,.A 7,.P (.str "put "),.L 4,.B .Add,.P (.str " "),.B .Add,.L 5,.call (.type "str") 1,.B .Add,.L 7,.call (.ref 399) 1,.B .Add,.L 0,.L 4,.L 5,.L 7,.call (.ref 411) 4,.tup 2,.ret] [],.L 6,.P (.int 5),.K .Eq,.I [.P (.str "take "),.L 4,.B .Add,.P (.str " "),.B .Add,.L 5,.call (.type "str") 1,.B .Add,.L 0,.L 4,.L 5,.call (.ref 418) 3,.tup 2,.ret] [],.L 6,.P (.int 8),.K .Lt,.I [.P (.str "wish "),.L 4,.B .Add,.P (.str " "),.B .Add,.L 5,.call (.type "str") 1,.B .Add,.P (.str " "),.B .Add,.L 5,.L 3,.P (.int 240),.B .FloorDiv,.P (.int 4),.B .Mod,.B .Add,.call (.type "str") 1,.B .Add,.A 8,.L 1,.len,.P (.int 8),.K .Eq,.I [.L 8,.P (.str "bad wish"),.tup 2,.ret] [],.L 1,.Y "list",.L 4,.L 5,.L 5,.L 3,.P (.int 240),.B .FloorDiv,.P (.int 4),.B .Mod,.B .Add,.tup 3,.H (.bi "list.append") 1,.pop,.L 8,.P (.str "done"),.tup 2,.ret] [],.cut [.L 6,.P (.int 8),.K .Eq,.M .And [.L 3,.P (.int 12),.B .FloorDiv,.P (.int 3),.B .Mod,.P (.int 0),.K .Eq,.M .And [.P (.bool true)]],.I [.L 1,.Y "list",.H (.bi "list.clear") 0,.pop,.P (.str "forget"),.P (.str "done"),.tup 2,.ret] []],.L 6,.P (.int 9),.K .Eq,.I [.P (.str "why "),.L 4,.B .Add,.L 0,.L 1,.L 4,.call (.ref 423) 3,.tup 2,.ret] [],.L 6,.P (.int 10),.K .Eq,.I [.L 4,.L 3,.P (.int 60),.B .FloorDiv,.call (.ref 406) 2,.P (.str "no line"),.tup 2,.ret] [],.P (.str "settle"),.L 0,.L 1,.P (.str ""),.call (.ref 423) 3,.tup 2,.ret],[],[]⟩
set_option tactic.hygienic true in
theorem z7N(H:G1 C)(L:Lw σ ro wl ks es wi){nm:List Str}(h5:nm.length=5)(hnm:∀w∈nm,A7 w){N:Int}
  (q:∀x ws a ks' es' wi' σ',Ln x ws->C4 ks es wi (B5 ws) a ks' es' wi'->Lw σ' ro wl ks' es' wi'->Q (.tup [.str x,.str (anT a)]) σ'):CW C (d+25) (.ref 442) [.ref ro,.ref wl,.lst (nm.map V.str),.int N] σ Q:=by
 obtain⟨hp,S0,rfl,K⟩:=L
 rename_i ow σr rv
 have hwm:=hp.mem_iff.mpr (List.Mem.head σr)
 have S:Rw σ ro rv es:=S0.frame λa _ x hx=>by obtain⟨o,ho⟩:=hx;exact⟨o,hp.mem_iff.mpr (.tail _ ho)⟩
 have hwz:(wi.map z0f).length<=sizeLine:=z0E K.wi.len (by decide)
 have Ls:Lw σ ro wl (rv.map (·.1)) es wi:= .mk hp S0 rfl K
 refine z0M (G1.kin ‹_›) ["_law_rows","_law_wish","_law_names_here","_law_number","_law_ware","_law_make","_law_way","_law_needs_here","_law_line"] [("len",.bi "len"),("_law_needs",.ref 394),("str",.type "str"),("_law_text",.ref 399),("_law_put",.ref 411),("_law_take",.ref 418),("_law_settled",.ref 423),("_law_odd_line",.ref 406)] (by kernel_rfl) (vs4 λ_ _ _ _=>by kernel_rfl) rfl (gA ‹_› [2,51,1,52,53,54,55,56]) ?_
 intro η hsc
 clear hsc
 refine xG H I3 ?_
 intro F m0
 refine LK (z0B (n:=5) (.lst _) (by rw[Ab,h5]) (z0E (n:=5) (Bp h5) (by decide)) ?_)
 refine LK (y0a (Ba _ (by decide)) (by rw[Ab,h5];exact Bb _ (by decide)) (by rw[Ab,h5];decide) λX hX=> ?_)
 obtain⟨w,hwn,rfl⟩:=Ah.mp hX
 have hW:=hnm w hwn
 clear hX hwn
 refine LK (y4F λmk m1 m2=> ?_)
 have m3:mk<=999:=AQ m2 (by decide)
 have s1:(Str.ofString (toString mk)).length<=3:=(z1t m1 m3).2.2
 have lw:=hW.hi
 have o1:=Bp one1
 refine z0p (λhb=> ?_) λhb=> ?_
 ·clear hb
  refine LK (fnc (z6P H h5 hnm λns hn hl=> ?_))
  have ln:=y37 hW m1 m3 hn hl
  have hlen:("put "++w++" "++Str.ofString (toString mk)++Txt.join "" (ns.map txF)).length<=1000:=ln.len
  have lp:=Bp l4p
  refine LK (z0A lp lw rfl λb1=> ?_)
  refine LK (z0A b1 o1 rfl λb2=> ?_)
  refine LK (z1L (z0S m1 m3) ?_)
  refine LK (z0A b2 s1 rfl λb3=> ?_)
  refine LK (fnc (z7Q H hn hl ?_))
  refine LK (z3t ?_ (z0i (by rw[<-z0l];exact nD hlen rfl)))
  refine LK (fnc (z1W (σ:=[(wl,ow,.list (wi.map z0f))]) hp (z5u H S0 K hW m1 m3 hn hl λc ks' es' rv' σ' R S' e _=> ?_)))
  refine q _ _ (.str c) ks' es' wi _ ln ?_ (.mk (.refl _) S' e (R.ok K hW m1 m3))
  rw[y1p hW m1 m3 hn]
  exact .put R
 clear hb
 refine z0p (λhb=> ?_) λhb=> ?_
 ·clear hb
  have lt:=Bp l5t
  refine LK (z0A lt lw rfl λb1=> ?_)
  refine LK (z0A b1 o1 rfl λb2=> ?_)
  refine LK (z1L (z0S m1 m3) ?_)
  refine LK (z0A b2 s1 rfl λb3=> ?_)
  refine LK (fnc (z1W (σ:=[(wl,ow,.list (wi.map z0f))]) hp (z7P H S0 m1 m3 λc ks' es' rv' σ' R S' e _=> ?_)))
  refine q _ _ (.str c) ks' es' wi _ (y2t hW m1 m3) ?_ (.mk (.refl _) S' e (R.ok K))
  rw[y2M hW m1 m3]
  exact .take R
 clear hb
 refine z0p (λhb=> ?_) λhb=> ?_
 ·clear hb
  obtain⟨hi,ehi⟩:∃hi:Int,mk+(N.fdiv 240).fmod 4=hi:=⟨_,rfl⟩
  have hno:A9 (w,mk,hi):=⟨hW,m1,by rw[<-ehi];exact Int.le_add_of_nonneg_right (Ba _ (by decide)),by rw[<-ehi];exact Int.add_le_add m2 (Int.le_of_lt_add_one (b:=3) (Bb _ (by decide)))⟩
  have s2:(Str.ofString (toString hi)).length<=3:=(z1t (AQ hno.lo hno.le) hno.hi).2.2
  have lnw:=y07 hno
  have eapp:(wi++[(w,mk,hi)]).map z0f=wi.map z0f++[.tup [.str w,.int mk,.int (mk+(N.fdiv 240).fmod 4)]]:=by rw[Am,ehi];rfl
  have lt:=Bp l5w
  refine LK (z0A lt lw rfl λb1=> ?_)
  refine LK (z0A b1 o1 rfl λb2=> ?_)
  refine LK (z1L (z0S m1 m3) ?_)
  refine LK (z0A b2 s1 rfl λb3=> ?_)
  refine LK (z0A b3 o1 rfl λb4=> ?_)
  refine LK (y3M ehi (z0S (AQ hno.lo hno.le) hno.hi) ?_)
  refine LK (z0A b4 s2 rfl λb5=> ?_)
  refine LK (z0B (n:=wi.length) (.refL hwm) (Ab _) hwz ?_)
  refine z0p (λhb=> ?_) λhb=> ?_
  ·have h8:wi.length=8:=Br (AD hb)
   clear hb
   have fin:=q _ _ (.str "bad wish") _ _ wi _ lnw (by rw[z6U hno];exact .wish8 h8) Ls
   clear q
   exact fin
  ·have h8:wi.length<8:=by
    have h1:=K.wi.len
    have h2:wi.length≠8:=λe=>AW hb (by rw[e];rfl)
    exact Bo h1 h2
   clear hb
   refine LK ⟨tyL ⟨_,hwm⟩,?_⟩
   refine LK (y0f hp hwz λo' σ' hp'=> ?_)
   have fin:=q _ _ (.str "done") _ es (wi++[(w,mk,hi)]) σ' lnw (by rw[z6U hno];exact .wish h8) (.mk (rv:=rv) (o:=o') (by rw[eapp];exact hp') S0 rfl (K.wis (z8s K.wi h8 hno)))
   clear q
   exact fin
 clear hb
 have forget:∀o' σ',σ'.Perm ((wl,o',.list [])::σr)->Q (.tup [.str "forget",.str "done"]) σ':=λo' σ' hp'=>q _ _ (.str "done") _ es [] _ ln_forget (by rw[parse_forget];exact .forget) (.mk (rv:=rv) (o:=o') hp' S0 rfl (K.wis ⟨by decide,λ_ h=>nomatch h⟩))
 have settle:Q (.tup [.str "settle",.str (z5s es wi "")]) σ:=by
  rw[tol_set]
  exact q _ _ (.str (z5m es wi)) _ es wi _ ln_settle (by rw[G0];exact .settle) Ls
 have why:Q (.tup [.str ("why "++w),.str (z5s es wi w)]) σ:=by
  rw[y2O hW]
  refine q _ _ (.str (z6T es wi w)) _ es wi _ (y38 hW) ?_ Ls
  rw[y4u hW]
  exact .why
 have odd:∀x,Odd x->Q (.tup [.str x,.str "no line"]) σ:=λx hx=>by
  obtain⟨ws,ln,e⟩:=hx
  exact q x ws .none _ es wi _ ln (by rw[e];exact .no) Ls
 have h12:=Ls
 clear q Ls
 refine z8T [some (.ref ro),some (.ref wl),some (.lst (nm.map V.str)),some (.int N),some (.str w),some (.int mk),some (.int (N.fmod 12)),none,none] σ (λP hP hR=> ?_) ?_
 ·refine z0p (λhb=> ?_) λhb=> ?_
  ·clear hb
   refine z0p (λhb=> ?_) λhb=> ?_
   ·clear hb
    refine LK ⟨tyL ⟨_,hwm⟩,?_⟩
    refine LK (y0g hp hwz λo' σ' hp'=> ?_)
    exact hR _ _ _ (λe=>nomatch e) (forget o' σ' hp')
   ·exact hP
  ·exact hP
 refine z0p (λhb=> ?_) λhb=> ?_
 ·clear hb
  have ly:=Bp l4y
  refine LK (z0A ly lw rfl λb1=> ?_)
  refine LK (fnc (z18 H S K (.refL hwm) ?_))
  exact why
 clear hb
 refine z0p (λhb=> ?_) λhb=> ?_
 ·clear hb
  refine LK (fnc (z4J H hW λx hx=> ?_))
  exact odd x hx
 clear hb
 refine LK (fnc (z18 H S K (.refL hwm) ?_))
 exact settle
end
section
variable {mk:Int}
theorem z5c(h:z5O w ns)(h':B4 w ns):False:=by
 rcases h with h|h
 ·exact absurd h (BC.mpr h'.len)
 ·exact h (Au.mpr ⟨λhm=>by obtain⟨n,hn,e⟩:=Ah.mp hm;exact h'.ne n hn e,h'.nd⟩)
open Classical in
noncomputable def y3l(ks:List Str)(es:ES)(w:Str)(mk:Int)(ns:List z0b):List Str×(ES):=
 if z5O w ns then(ks,es) else if mk∈(es w).map (·.1) then(ks,es) else if w∈ks then if(es w).length=8 then(ks,es) else(ks,z03 es w (es w++[(mk,ns)])) else if ks.length=12 then(ks,es) else(ks++[w],z03 es w [(mk,ns)])
theorem D5.fn(S:C0 ks es wi)(R:D5 ks es w mk ns c ks' es'):y3l ks es w mk ns=(ks',es'):=by
 have h0:w∉ks->mk∉(es w).map (·.1)/\(es w).length≠8:=λh=>by rw[S.out w h];exact⟨Av,by decide⟩
 unfold y3l
 cases R with
 |need a=>rw[if_pos a]
 |twice a b=>rw[if_neg λh=>z5c h a,if_pos b]
 |full a b d e=>rw[if_neg λh=>z5c h a,if_neg b,if_neg d,if_pos e]
 |full8 a b _ e=>rw[if_neg λh=>z5c h a,if_neg b,if_pos (Classical.byContradiction λh=>(h0 h).2 e),if_pos e]
 |old a b d e=>rw[if_neg λh=>z5c h a,if_neg b,if_pos d,if_neg e]
 |new a b d=>rw[if_neg λh=>z5c h a,if_neg (h0 b).1,if_neg b,if_neg d]
theorem D5.uq(S:C0 ks es wi){k2:List Str}{e2:ES}(R:D5 ks es w mk ns c ks' es')(R':D5 ks es w mk ns c' k2 e2):ks'=k2/\es'=e2:=Prod.mk.inj ((R.fn S).symm.trans (R'.fn S))
noncomputable def eF(P:Nat->Str×Int)(j:Nat)(w:Str):List (Int×List z0b):=((List.range j).filter λi=>decide ((P i).1=w)).map λi=>((P i).2,[])
noncomputable def kF(P:Nat->Str×Int):Nat->List Str
 |0=>[]
 |j+1=>if(P j).1∈kF P j then kF P j else kF P j++[(P j).1]
theorem y3e(P:Nat->Str×Int)(w:Str):∀j,w∈kF P j↔∃i,i<j/\(P i).1=w
 |0=>⟨(λh=>nomatch h),λ⟨i,h,_⟩=>absurd h (Nat.not_lt_zero i)⟩
 |j+1=>by
  have ih:=y3e P w j
  have one:w∈kF P (j+1)↔w∈kF P j∨w=(P j).1:=by
   show w∈(if(P j).1∈kF P j then kF P j else kF P j++[(P j).1])↔_
   by_cases h:(P j).1∈kF P j
   ·rw[if_pos h]
    exact⟨.inl,λe=>e.elim id λe=>by rw[e];exact h⟩
   ·rw[if_neg h,Ad,Af]
  rw[one,ih]
  constructor
  ·rintro (⟨i,h1,h2⟩|h)
   ·exact⟨i,Nat.lt_succ_of_lt h1,h2⟩
   ·exact⟨j,Nat.lt_succ_self j,h.symm⟩
  ·rintro ⟨i,h1,h2⟩
   rcases Nat.lt_succ_iff_lt_or_eq.mp h1 with h|rfl
   ·exact .inl ⟨i,h,h2⟩
   ·exact .inr h2.symm
theorem y04(P:Nat->Str×Int):∀j,(kF P j).length<=j
 |0=>AN _
 |j+1=>by
  have ih:=y04 P j
  show(if(P j).1∈kF P j then kF P j else kF P j++[(P j).1]).length<=_
  split
  ·exact Nat.le_add_right_of_le ih
  ·rw[Ag];show _+1<=_;exact Bg ih 1
theorem y2c(P:Nat->Str×Int)(j:Nat):eF P (j+1)=z03 (eF P j) (P j).1 (eF P j (P j).1++[((P j).2,[])]):=by
 funext v
 unfold eF
 rw[List.range_succ,List.filter_append,Am]
 by_cases h:v=(P j).1
 ·subst h
  rw[z0m]
  congr 1
  rw[List.filter_cons,if_pos (AE rfl)];rfl
 ·rw[z0t h]
  rw[List.filter_cons,if_neg (by rw[AX (λe=>h e.symm)];exact BB)]
  simp
theorem y1s{P:Nat->Str×Int}{j:Nat}(hj:j<12)(hd:∀i<j,P i≠P j)(h8:((List.range j).filter λi=>decide ((P i).1=(P j).1)).length<8):D5 (kF P j) (eF P j) (P j).1 (P j).2 [] "done" (kF P (j+1)) (eF P (j+1)):=by
 have hnn:B4 (P j).1 []:=⟨by decide,(λ_ h=>nomatch h),(λ_ h=>nomatch h),Aw⟩
 have hm:(P j).2∉(eF P j (P j).1).map (·.1):=λh=>by
  obtain⟨e,he,e1⟩:=Ah.mp h
  obtain⟨i,hi,rfl⟩:=Ah.mp he
  obtain⟨h1,h2⟩:=Bu.mp hi
  exact hd i (Bv.mp h1) (Prod.ext (AD h2) e1)
 have hl:(eF P j (P j).1).length≠8:=by unfold eF;rw[Ab];exact Bq h8
 rw[y2c]
 show D5 _ _ _ _ _ _ (if(P j).1∈kF P j then kF P j else kF P j++[(P j).1]) _
 by_cases h:(P j).1∈kF P j
 ·rw[if_pos h];exact .old hnn hm h hl
 ·rw[if_neg h]
  have e0:eF P j (P j).1=[]:=by
   unfold eF
   rw[List.filter_eq_nil_iff.mpr λi hi=>by
    rw[decide_eq_true_iff]
    exactλe=>h ((y3e P _ j).mpr ⟨i,Bv.mp hi,e⟩)]
   rfl
  rw[e0]
  exact .new hnn h (Bq (AG (y04 P j) hj))
inductive Ahd(ks:List Str)(es:ES)(wi:List z0b):List Str->List Str->(ES)->List z0b->Prop
 |wish {w:Str}:A7 w->wi.length<8->Ahd ks es wi ("wish"::ndW (w,1,4)) ks es (wi++[(w,1,4)])
 |put {w:Str} {mk:Int} {ks':List Str} {es':ES}:A7 w->1<=mk->mk<=999->D5 ks es w mk [] "done" ks' es'->Ahd ks es wi ["put",w,sI mk] ks' es' wi
structure AhOk(ls:List Str)(kk:Nat->List Str)(ee:Nat->ES)(ww:Nat->List z0b):Prop where
 zk:kk 0=[]
 ze:ee 0=λ_=>[]
 zw:ww 0=[]
 len:ls.length<=12
 step:∀j x,ls[j]? =some x->∃ws,Ln x ws/\Ahd (kk j) (ee j) (ww j) ws (kk (j+1)) (ee (j+1)) (ww (j+1))
end
section
variable {mk:Int}
theorem y2r(hw:A7 w)(h1:1<=mk)(h2:mk<=999):Ln ("put "++w++" "++sI mk) ["put",w,sI mk]:=by
 refine Ln.of ?_ (Aa.mpr ⟨z1O,Aa.mpr ⟨z2F hw,Aa.mpr ⟨z7U h1 h2,λ_ h=>nomatch h⟩⟩⟩) (AH rfl)
 rw[z0v,z0v,z0v,show cl (" ":Str)=[32] by decide+kernel,show cl ("put ":Str)=cl ("put":Str)++[32] by decide+kernel]
 simp only[Ap,List.map_nil,AM,List.flatten_nil,Ao,List.cons_append,Ay,Az]
theorem sI1:sI 1="1":=by decide+kernel
theorem sI4:sI 4="4":=by decide+kernel
theorem sI7:sI 7="7":=by decide+kernel
theorem z9B(hw:A7 w):Ln ("wish "++w++" 1 4") ("wish"::ndW (w,1,4)):=by
 unfold ndW
 rw[show sI ((w,(1:Int),(4:Int)).2.1)="1" from sI1,show sI ((w,(1:Int),(4:Int)).2.2)="4" from sI4]
 refine Ln.of ?_ (Aa.mpr ⟨z1O,Aa.mpr ⟨z2F hw,Aa.mpr ⟨z1O,Aa.mpr ⟨z1O,λ_ h=>nomatch h⟩⟩⟩⟩) (AH rfl)
 simp only[z0v,Ap,List.map_nil,AM,List.flatten_nil,Az,Ao,List.cons_append]
 kernel_rfl
theorem y2s{p l:Str}(hw:A7 (p++l)):Ln ("put "++p++l++" 7") ["put",p++l,sI 7]:=by
 rw[sI7]
 refine Ln.of ?_ (Aa.mpr ⟨z1O,Aa.mpr ⟨z2F hw,Aa.mpr ⟨z1O,λ_ h=>nomatch h⟩⟩⟩) (AH rfl)
 simp only[z0v,Ap,List.map_nil,AM,List.flatten_nil,Az,Ao,List.cons_append]
 kernel_rfl
theorem i5{j:Nat}(h:j<8):1<=5+(j:Int)/\5+(j:Int)<=999:=⟨AQ (by decide) (Int.le_add_of_nonneg_right (Bl j)),AQ (Int.add_le_add_left (Bk.mpr (AZ h)) 5) (by decide)⟩
theorem z7D{x:Str}{n:Nat}:(Txt.slice x none (some (n:Int))).length<=n:=by
 have hc:max 0 (min (if(n:Int)<0 then(n:Int)+x.length else n) (x.length:Int))=((min n x.length:Nat):Int):=by
  rw[if_neg (Int.not_lt.mpr (Bl n)),Lean.Omega.Int.ofNat_min];exact Int.max_eq_right (Int.le_min.mpr ⟨Bl _,Bl _⟩)
 have e:Builtin.Str.strSliceIndices none (some (n:Int)) 1 x.length=(List.range (min n x.length-0)).map λk=>0+k:=by
  show sliceRange ((0:Nat):Int) (max 0 (min (if(n:Int)<0 then(n:Int)+x.length else n) (x.length:Int))) 1=_
  rw[hc,sr1 (Nat.zero_le _)]
 rw[z4l,e,Ab,BA]
 ·exact Bi _ _
 ·rw[e];intro i hi
  obtain⟨j,hj,rfl⟩:=Ah.mp hi
  rw[AP];exact AF (Bv.mp hj) (Nat.min_le_right _ _)
noncomputable def wsL(nm:List Str)(j:Nat):Str:="wish "++nm.getD (j%5) ""++" 1 4"
noncomputable def p2L(n0:Str)(j:Nat):Str:="put "++n0++" "++sI (5+(j:Int))
noncomputable def p3L(p:Str)(j:Nat):Str:="put "++p++⟨#[97+j]⟩++" 7"
theorem z4f{nm:List Str}(h5:nm.length=5)(hw:∀w∈nm,A7 w)(j:Nat):A7 (nm.getD (j%5) ""):=by
 have hj:j%5<nm.length:=by rw[h5];exact Nat.mod_lt _ (by decide)
 rw[List.getD_eq_getElem?_getD,Ar hj]
 exact hw _ (List.getElem_mem hj)
theorem z5b{f:Nat->Str}{n j:Nat}{x:Str}(h:((List.range n).map f)[j]? =some x):j<n/\x=f j:=by
 rw[Al] at h
 obtain⟨i,hi,rfl⟩:=Bw.mp h
 have hl:=(An.mp hi).1
 rw[BA] at hl
 rw[List.getElem?_range hl] at hi
 cases hi
 exact⟨hl,rfl⟩
theorem y11{nm:List Str}(h5:nm.length=5)(hw:∀w∈nm,A7 w):AhOk ((List.range 8).map (wsL nm)) (λ_=>[]) (λ_ _=>[]) λj=>(List.range j).map λi=>(nm.getD (i%5) "",1,4):=
 ⟨rfl,rfl,rfl,by rw[Ab,BA];decide,λj x h=>by
  obtain⟨hj,rfl⟩:=z5b h
  rw[List.range_succ,Am]
  exact⟨_,z9B (z4f h5 hw j),.wish (z4f h5 hw j) (by rw[Ab,BA];exact hj)⟩⟩
theorem y1Z{n0:Str}(hw:A7 n0):AhOk ((List.range 8).map (p2L n0)) (kF λj=>(n0,5+(j:Int))) (eF λj=>(n0,5+(j:Int))) λ_=>[]:=
 ⟨rfl,rfl,rfl,by rw[Ab,BA];decide,λj x h=>by
  obtain⟨hj,rfl⟩:=z5b h
  have:=y1s (P:=λj=>(n0,5+(j:Int))) (j:=j) (AY hj (by decide)) (λi hi e=>absurd (Br (Int.add_left_cancel (Prod.mk.inj e).2)) (Bq hi)) (AG (Bc _ _) (by rw[BA];exact hj))
  exact⟨_,y2r hw (i5 hj).1 (i5 hj).2,.put hw (i5 hj).1 (i5 hj).2 this⟩⟩
theorem y10{p:Str}(hp:Lt p)(hl:p.length<=7):AhOk ((List.range 12).map (p3L p)) (kF λj=>(p++⟨#[97+j]⟩,7)) (eF λj=>(p++⟨#[97+j]⟩,7)) λ_=>[]:=
 ⟨rfl,rfl,rfl,by rw[Ab,BA];decide,λj x h=>by
  obtain⟨hj,rfl⟩:=z5b h
  have hne:∀i<j,(p++⟨#[97+i]⟩:Str)≠p++⟨#[97+j]⟩:=λi hi e=>by
   have e:=congrArg cl e
   rw[z0v,z0v] at e
   have e:=List.append_cancel_left e
   have e:[97+i]=[97+j]:=e
   exact absurd (Nat.add_left_cancel (Bt e).1) (Bq hi)
  have hW:A7 (p++⟨#[97+j]⟩):=⟨by rw[z0l];exact Nat.le_add_left 1 _,by rw[z0l];exact Bh hl,hp.append (z8j (by unfold z12;rw[AE (Bn 97 j),AE (Be (Bm (AF hj (by decide:12<=26))) 97)];rfl))⟩
  have:=y1s (P:=λj=>(p++⟨#[97+j]⟩,7)) (j:=j) hj (λi hi e=>hne i hi (Prod.mk.inj e).1) (by
   rw[List.filter_eq_nil_iff.mpr λi hi=>by rw[decide_eq_true_iff];exact hne i (Bv.mp hi)]
   decide)
  exact⟨_,y2s hW,.put hW (by decide) (by decide) this⟩⟩
theorem ah_nil:AhOk [] (λ_=>[]) (λ_ _=>[]) λ_=>[]:=⟨rfl,rfl,rfl,by decide,λj x h=>by cases h⟩
noncomputable def f1V(nm:List Str):V->V
 | .int z=> .str (wsL nm z.toNat)
 |v=>v
noncomputable def f2V(n0:Str):V->V
 | .int z=> .str (p2L n0 z.toNat)
 |v=>v
noncomputable def f3V(p:Str):V->V
 | .int z=> .str (p3L p z.toNat)
 |v=>v
theorem z8k(f:Nat->Str)(g:V->V)(h:∀j:Nat,g (.int (j:Int))= .str (f j))(n:Nat):(z07 0 1 n).map g=((List.range n).map f).map V.str:=by
 rw[z4k,AJ,AJ]
 exact List.map_congr_left λj _=>h j
theorem abl:∀j<12,("abcdefghijkl":Str).cps[j]? =some (97+j):=by decide+kernel
noncomputable def z17(r1:Expr)(r2:Expr)(r3:Expr):TC:=⟨[.L 1,.P (.int 8),.B .Mod,.P (.int 1),.K .Eq,.I [.raw r1,.ret] [],.L 1,.P (.int 8),.B .Mod,.P (.int 2),.K .Eq,.I [.raw r2,.ret] [],.L 1,.P (.int 8),.B .Mod,.P (.int 3),.K .Eq,.I [.raw r3,.ret] [],.lst 0,.ret],[.inr r1,.inr r2,.inr r3],[([0,0,0],some []),([1,0,0],some []),([2,0,0],some [])]⟩
noncomputable abbrev vO:List Str:=["_law_names_here","_law_number"]
theorem z3C(H:G1 C){nm:List Str}(h5:nm.length=5)(hw:∀w∈nm,A7 w){N:Int}(q:∀ls kk ee ww,AhOk ls kk ee ww->Q (.lst (ls.map V.str)) σ):CW C (d+1) (.ref 447) [.lst (nm.map V.str),.int N] σ Q:=by
 obtain⟨n0,r0,rfl⟩:=List.exists_cons_of_ne_nil (l:=nm) (λe=>by rw[e] at h5;cases h5)
 have hW0:=hw n0 (.head _)
 have lw:=hW0.hi
 have o1:=one1
 have q1:=q _ _ _ _ (y11 h5 hw)
 have q2:=q _ _ _ _ (y1Z hW0)
 have q3:=q _ _ _ _ (y10 (p:=Txt.slice n0 none (some ((7:Nat):Int))) (hW0.lt.slice _ _) z7D)
 have q0:=q _ _ _ _ ah_nil
 clear q
 refine z0M (G1.kin ‹_›) vO [("range",.type "range")] (by kernel_rfl) (vs2 λ_ _=>by kernel_rfl) rfl (gA ‹_› [20]) ?_
 intro η hsc
 refine xG H (z17 _ _ _) ?_
 intro F m0
 refine z0p (λhb=> ?_) λhb=> ?_
 ·clear hb
  refine LK ?_
  show AT C η vO _ true _ (eval _ η) [some (.lst ((n0::r0).map V.str)),some (.int N)] _ _
  refine z0H "_law_k" ["_law_names_here"] [("len",.bi "len")] (by rw[hsc];kernel_rfl) (gA H [2]) (.cons LkC.lk .nil) (z1p ?_)
  repeat' with_reducible first|refine z0G ?_|refine z0d ?_|refine z0n ?_|refine z0c ?_|refine z0e ?_|refine z1D ?_|refine z0o ?_|refine z1P ?_|fail
  refine⟨_,_,_,8,rfl,z7v (by decide),z7w 8,z0i (by rw[z00];decide),λenv' he=>z0N (f:=f1V (n0::r0)) (z0j he) trivial _ _ _ (λX hX K hK=> ?_) ?_⟩
  ·obtain⟨j,hj,rfl⟩:=z1z hX
   have hK:K (.str (wsL (n0::r0) j)) σ:=hK
   have hWj:=(z4f h5 hw j).hi
   have l5:=l5w
   have l4:(" 1 4":Str).length=4:=by decide+kernel
   repeat' with_reducible first|refine z0O ?_|refine z0r ?_|refine z0u ?_|refine z0d ?_|fail
   repeat' with_reducible first|refine z0G ?_|refine z0d ?_|refine z0c ?_|refine z0e ?_|refine z0o ?_|refine z2S ?_|fail
   refine z0B (n:=5) (.lst _) (by rw[Ab,h5]) (z0E (n:=5) (Bp h5) (by decide)) ?_
   refine z6Y ?_ (by decide)
   rw[show((j:Int)).fmod ((5:Nat):Int)=((j%5:Nat):Int) by rw[Int.fmod_eq_emod_of_nonneg _ (by decide)];rfl]
   have hj5:j%5<(n0::r0).length:=by rw[h5];exact Nat.mod_lt _ (by decide)
   refine z0I (X:= .str ((n0::r0).getD (j%5) "")) (.lst _) (AY (Nat.mod_lt _ (by decide)) (by decide)) (by rw[Al,List.getD_eq_getElem?_getD,Ar hj5];rfl) ?_
   refine z0A (Bp l5) hWj rfl λb1=> ?_
   with_reducible refine z0r ?_
   refine z0A b1 (Bp l4) rfl λ_=> ?_
   exact hK
  rw[Ay,z8k (wsL (n0::r0)) _ λ_=>rfl]
  exact q1
 clear hb
 refine z0p (λhb=> ?_) λhb=> ?_
 ·clear hb
  refine LK ?_
  show AT C η vO _ true _ (eval _ η) [some (.lst ((n0::r0).map V.str)),some (.int N)] _ _
  refine z0H "_law_k" ["_law_names_here"] [("str",.type "str")] (by rw[hsc];kernel_rfl) (gA H [1]) (.cons LkC.lk .nil) (z1p ?_)
  repeat' with_reducible first|refine z0G ?_|refine z0d ?_|refine z0n ?_|refine z0c ?_|refine z0e ?_|refine z1D ?_|refine z0o ?_|refine z1P ?_|fail
  refine⟨_,_,_,8,rfl,z7v (by decide),z7w 8,z0i (by rw[z00];decide),λenv' he=>z0N (f:=f2V n0) (z0j he) trivial _ _ _ (λX hX K hK=> ?_) ?_⟩
  ·obtain⟨j,hj,rfl⟩:=z1z hX
   have hK:K (.str (p2L n0 j)) σ:=hK
   have l4:=l4p
   have s1:(Str.ofString (toString (5+(j:Int)))).length<=3:=(z1t (i5 hj).1 (i5 hj).2).2.2
   repeat' with_reducible first|refine z1f ?_|refine z0O ?_|refine z0r ?_|refine z0u ?_|refine z0d ?_|refine z0n ?_|fail
   refine z0I (i:=0) (X:= .str n0) (.lst _) (by decide) rfl ?_
   refine z0A (Bp l4) lw rfl λb1=> ?_
   with_reducible refine z0r ?_
   refine z0A b1 (Bp o1) rfl λb2=> ?_
   repeat' with_reducible first|refine z0G ?_|refine z0d ?_|refine z0n ?_|refine z0O ?_|refine z0c ?_|refine z0e ?_|refine z6X ?_|refine z0o ?_|refine z1P ?_|fail
   refine z1L (z0S (i5 hj).1 (i5 hj).2) ?_
   refine z0A b2 s1 rfl λ_=> ?_
   exact hK
  rw[Ay,z8k (p2L n0) _ λ_=>rfl]
  exact q2
 clear hb
 refine z0p (λhb=> ?_) λhb=> ?_
 ·clear hb
  refine LK ?_
  show AT C η vO _ true _ (eval _ η) [some (.lst ((n0::r0).map V.str)),some (.int N)] _ _
  refine z0H "_law_k" ["_law_names_here"] [] (by rw[hsc];kernel_rfl) C3 (.cons LkC.lk .nil) (z1p ?_)
  repeat' with_reducible first|refine z0G ?_|refine z0d ?_|refine z0n ?_|refine z0c ?_|refine z0e ?_|refine z1D ?_|refine z0o ?_|refine z1P ?_|fail
  refine⟨_,_,_,12,rfl,z7v (by decide),z7w 12,z0i (by rw[z00];decide),λenv' he=>z0N (f:=f3V (Txt.slice n0 none (some ((7:Nat):Int)))) (z0j he) trivial _ _ _ (λX hX K hK=> ?_) ?_⟩
  ·obtain⟨j,hj,rfl⟩:=z1z hX
   have hK:K (.str (p3L (Txt.slice n0 none (some ((7:Nat):Int))) j)) σ:=hK
   have l4:=l4p
   have l2:(" 7":Str).length=2:=by decide+kernel
   have sl:=z7D (x:=n0) (n:=7)
   repeat' with_reducible first|refine z1f ?_|refine z0O ?_|refine z0r ?_|refine z0u ?_|refine z0d ?_|refine z0n ?_|fail
   refine z0I (i:=0) (X:= .str n0) (.lst _) (by decide) rfl ?_
   repeat' with_reducible first|refine z0n ?_|refine z2i ?_|refine z1u ?_|refine z1v ?_|fail
   refine z3G .none (.int _) (z0i (nD lw rfl)) ?_
   refine z0A (Bp l4) sl rfl λb1=> ?_
   repeat' with_reducible first|refine z0r ?_|refine z0u ?_|refine z0d ?_|fail
   refine y0c (Bl j) (Int.ofNat_lt.mpr (AY hj (by decide))) (abl j hj) ?_
   refine z0A b1 (AN 1) rfl λb2=> ?_
   with_reducible refine z0r ?_
   refine z0A b2 (Bp l2) rfl λ_=> ?_
   exact hK
  rw[Ay,z8k (p3L (Txt.slice n0 none (some ((7:Nat):Int)))) _ λ_=>rfl]
  exact q3
 clear hb
 exact q0
end
section
variable {wl hd:Addr} {hs:List V}
theorem z53{α:Type}:∀{l s:List α},l.Nodup->(∀p∈l,p∈s)->∃r,s.Perm (l++r)
 |[],s,_,_=>⟨s,.refl _⟩
 |a::l,s,hn,h=>by
  obtain⟨u,v,rfl⟩:=List.append_of_mem (h a (.head _))
  have hn:=Au.mp hn
  obtain⟨r,hr⟩:=z53 (s:=u++v) hn.2 λp hp=>by
   have:=h p (.tail _ hp)
   rcases Ad.mp this with h'|h'
   ·exact Ai _ h'
   ·rcases Ae.mp h' with rfl|h'
    ·exact absurd hp hn.1
    ·exact Aj _ h'
  exact⟨r,List.perm_middle.trans (hr.cons _)⟩
theorem nodup_foot:∀{s:Sto},(A5 s).Nodup->s.Nodup
 |[],_=>Aw
 |p::s,h=>by
  have h:=List.nodup_append.mp (show(z0z p.1 p.2.2++A5 s).Nodup from h)
  exact Au.mpr ⟨λhm=>h.2.2 p.1 (z0C _ _) p.1 (z1X hm) rfl,nodup_foot h.2.1⟩
inductive ItS(r:Sto):V->Prop
 |mk {i k ro:Addr} {kv rv:LA} {es es':ES} {wi:List z0b}:C1 r i k kv es'->Rw r ro rv es->(kv.map (·.1)).Perm (rv.map (·.1))->(∀w,(es' w).Perm (es w))->D4 wi->ItS r (.tup [.ref i,.ref ro,.lst (wi.map z0f),.lst (wi.map z0f)])
theorem ItS.mono{r r':Sto}{v:V}(h:ItS r v)(hk:∀p∈r,p∈r'):ItS r' v:=by
 obtain⟨a,b,c,d,e⟩:=h
 have mv:∀a x,At r a x->At r' a x:=λa x ⟨o,ho⟩=>⟨o,hk _ ho⟩
 exact .mk (a.frame λa _ x hx=>mv a x hx) (b.frame λa _ x hx=>mv a x hx) c d e
theorem y0O(ok:D4 wi):∀(j:Nat) (X Y:V),(wi.map z0f)[j]? =some X->(wi.map z0f)[j]? =some Y->EqV C σ 1 X Y:=λj X Y h1 h2=>by
 rw[h1] at h2
 cases h2
 apply z0X (Ak h1);intro n hn
 exact Dn.eq (.tF (.cons (.str _ (ok.ok n hn).w.asc) (.cons (.int _) (.cons (.int _) .nil))))
inductive LkP(σd σl:Sto)(hd:Addr)(hs:List V)(σ':Sto):Prop
 |mk {oh:Obj} {hs':List V} {r:Sto}:σ'.Perm ((hd,oh,.list hs')::((σd++σl)++r))->(hs'=hs∨∃it,hs'=hs++[it]/\ItS r it)->LkP σd σl hd hs σ'
def LgI(a0 a1 a2 a3 a4 a5 a6:V)(σ3 σ4:Sto)(j:Nat)(m₀:Loc)(τ₀:Sto):Prop:=∀P:Loc->Sto->Prop,(∀{τ:Sto} {u:Option V},(j=0->τ=σ4)->(∀p∈σ3,p∈τ)->P [some a0,some a1,some a2,some a3,some a4,some a5,some a6,u] τ)->P m₀ τ₀
theorem LgI.mk{a0 a1 a2 a3 a4 a5 a6:V}{σ3 σ4:Sto}{j:Nat}{τ:Sto}{u:Option V}(x0:(j=0->τ=σ4))(x1:(∀p∈σ3,p∈τ)):LgI a0 a1 a2 a3 a4 a5 a6 σ3 σ4 j [some a0,some a1,some a2,some a3,some a4,some a5,some a6,u] τ:=λ_ k=>k x0 x1
theorem y35(rv:LA):(kvV rv).map (λp=>V.str p.1)=(rv.map (·.1)).map V.str:=by rw[AJ,AJ];rfl
theorem slL_hd:∀{xs:List V},slL xs none (some 1) none=xs.take 1
 |[]=>by unfold slL;simp
 |x::xs=>by
  have e:slL (x::xs) none (some 1) none=(sliceRange ((0:Nat):Int) ((1:Nat):Int) 1).filterMap ((x::xs)[·]?):=by
   show(sliceRange ((0:Nat):Int) (max 0 (min (if((1:Nat):Int)<0 then((1:Nat):Int)+(x::xs).length else((1:Nat):Int)) ((x::xs).length:Int))) 1).filterMap _=_
   rw[z5R (by rw[Aq];exact Nat.le_add_left 1 xs.length)]
  rw[e,sr1 (Nat.zero_le _)];rfl
noncomputable def z3p(r1:Expr):TC:=⟨[.L 4,.P (.int 4),.B .Mod,.P (.int 3),.K .Eq,.I [.P (.bool true),.ret] [],.asgL 5,.cut [.L 4,.P (.int 2),.B .Mod,.P (.int 1),.K .Eq,.I [.L 0,.mI 364 "wishes",.H (.ref 316) 0,.A 5] []],.L 0,.mI 364 "held",.H (.ref 309) 0,.A 6,.cut [.L 4,.P (.int 2),.B .Mod,.P (.int 0),.K .Eq,.I [.L 0,.mI 364 "wishes",.H (.ref 316) 0,.A 5] []],.L 6,.L 1,.call (.ref 435) 2,.V,.not,.M .Or [.L 5,.L 2,.K .NotEq,.M .Or [.L 5,.Q .lst,.V,.not,.M .Or [.P (.bool false)]]],.I [.P (.bool false),.ret] [],.L 3,.Y "list",.L 6,.L 1,.call (.ref 428) 1,.L 5,.L 2,.call (.type "list") 1,.tup 4,.H (.bi "list.append") 1,.pop,.L 4,.P (.int 4),.B .FloorDiv,.P (.int 2),.B .Mod,.P (.int 0),.K .Eq,.I [.raw r1,.pop,.P (.bool true),.ret] [],.L 0,.mI 364 "held",.H (.ref 309) 0,.A 6,.L 1,.call (.type "list") 1,.P .none,.P (.int 1),.P .none,.slc,.sub,.forL 7 [.L 6,.mI 272 "take",.L 7,.L 1,.L 7,.sub,.call (.type "list") 1,.S 0,.H (.ref 248) 2,.pop],.P (.bool true),.ret],[.inr r1],[([7,0,0],some [])]⟩
noncomputable abbrev vH:List Str:=["_law_desk","_law_rows","_law_wish","_law_held","_law_number","_law_told","_law_shop_here","_law_ware"]
set_option tactic.hygienic true in
theorem z3r(H:G1 C){oh:Obj}(hp:σ.Perm ((hd,oh,.list hs)::(σd++σl)))(D:Dk σd dk ks es wi)(L:Lw σl ro wl ks es wi)(hhs:hs.length<=100){N:Int}(q:∀σ',LkP σd σl hd hs σ'->Q (.bool true) σ'):CW C (d+7) (.ref 454) [.ref dk,.ref ro,.ref wl,.ref hd,.int N] σ Q:=by
 refine y2U λhnd=>z92 ?_
 have q0:Q (.bool true) σ:=q σ (.mk (r:=[]) (by rw[Az];exact hp) (.inl rfl))
 obtain⟨D0,rfl,S⟩:=D
 rename_i i k kv
 obtain⟨hpl,R0,hke,S'⟩:=L
 rename_i ow σr rv
 have mD:∀p∈σd,p∈σ:=λp h=>hp.mem_iff.mpr (.tail _ (Ai _ h))
 have mL:∀p∈σl,p∈σ:=λp h=>hp.mem_iff.mpr (.tail _ (Aj _ h))
 have DI:F8 σ dk i k kv es wi:=D0.frame λa x hx=>by obtain⟨o,ho⟩:=hx;exact⟨o,mD _ ho⟩
 have Rr:Rw σ ro rv es:=R0.frame λa _ x hx=>by obtain⟨o,ho⟩:=hx;exact⟨o,mL _ (hpl.mem_iff.mpr (.tail _ ho))⟩
 have hwm:(wl,ow,AO.list (wi.map z0f))∈σ:=mL _ (hpl.mem_iff.mpr (.head _))
 have hhm:(hd,oh,AO.list hs)∈σ:=hp.mem_iff.mpr (.head _)
 have hwz:(wi.map z0f).length<=sizeLine:=z0E S.wi.len (by decide)
 have fl:(A5 ((hd,oh,AO.list hs)::(σd++σl))).Nodup:=(z4e hp).nodup_iff.mp hnd
 have ne:∀p∈σd++σl,p.1≠hd:=λp hm e=>(List.nodup_append.mp (show(z0z hd (AO.list hs)++A5 (σd++σl)).Nodup from fl)).2.2 hd (z0C _ _) _ (z1X hm) e.symm
 have fin:∀{σ2:Sto} {x k2 ro2:Addr} {kv2 rv2:LA} {es2:ES},(∀p∈σ,p.1≠hd->p∈σ2)->At σ2 hd (.list (hs++[.tup [.ref x,.ref ro2,.lst (wi.map z0f),.lst (wi.map z0f)]]))->C1 σ2 x k2 kv2 es2->Rw σ2 ro2 rv2 es->(kv2.map (·.1)).Perm (rv2.map (·.1))->(∀w,(es2 w).Perm (es w))->(∀a∈x::k2::kv2.map (·.2),A4 σ a)->(∀a∈ro2::rv2.map (·.2),A4 σ a)->(A5 σ2).Nodup->Q (.bool true) σ2:=λ{σ2 x k2 ro2 kv2 rv2 es2} hk hh T2 R2 pk pe f1 f2 hnd2=>by
  obtain⟨oh2,hh⟩:=hh
  have nl:((hd,oh,AO.list hs)::(σd++σl)).Nodup:=hp.nodup_iff.mp (nodup_foot hnd)
  have n2:((hd,oh2,AO.list (hs++[.tup [.ref x,.ref ro2,.lst (wi.map z0f),.lst (wi.map z0f)]]))::(σd++σl)).Nodup:=Au.mpr ⟨λhm=>ne _ hm rfl,(Au.mp nl).2⟩
  obtain⟨r,hr⟩:=z53 (s:=σ2) n2 λp hm=>by
   rcases Ae.mp hm with rfl|hm
   ·exact hh
   ·exact hk p (hp.mem_iff.mpr (.tail _ hm)) (ne p hm)
  have inr:∀{a:Addr} {y:AO},A4 σ a->At σ2 a y->At r a y:=λ{a y} hf hy=>by
   obtain⟨o,hy⟩:=hy
   rcases Ad.mp (hr.mem_iff.mp hy) with h|h
   ·rcases Ae.mp h with e|h
    ·have e:a=hd:=congrArg (·.1) e
     exact absurd e.symm (hf _ hhm)
    ·exact absurd rfl (hf _ (hp.mem_iff.mpr (.tail _ h)))
   ·exact⟨o,h⟩
  exact q σ2 (.mk (oh:=oh2) (r:=r) hr (.inr ⟨_,rfl,.mk (T2.frame λa ha y hy=>inr (f1 a ha) hy) (R2.frame λa ha y hy=>inr (f2 a ha) hy) pk pe S.wi⟩))
 clear q
 refine z0M (G1.kin ‹_›) vH [("_law_like",.ref 435),("isinstance",.bi "isinstance"),("list",.type "list"),("_law_copy",.ref 428)] (by kernel_rfl) (vs5 λ_ _ _ _ _=>by kernel_rfl) rfl (gA ‹_› [57,0,12,58]) ?_
 intro η hsc
 clear hsc
 refine xG H (z3p _) ?_
 intro F m0
 refine z0p (λhb=> ?_) λhb=> ?_
 ·exactλ_=>q0
 clear hb q0
 intro a0 o0 hf0
 refine z2n (α:=V) (λT=>N.fmod 2=1->T= .lst (wi.map z0f)) (λT=>[some (.ref dk),some (.ref ro),some (.ref wl),some (.ref hd),some (.int N),some T,none,none]) ((a0,o0,.list [])::σ) (λP hP _=> ?_) λT hT=> ?_
 ·refine z0p (λhb=> ?_) λhb=> ?_
  ·clear hb
   obtain⟨dx,hin⟩:=DI.inst
   refine LK (z0F (hin.cons _) ?_)
   refine LK (fnc (z5w H (DI.cons _) S.wi.len (.inl ?_)))
   exact hP _ λ_=>rfl
  ·exact hP (.ref a0) λe=>absurd e (AW hb)
 obtain⟨dx,hin⟩:=DI.inst
 refine LK (z0F (hin.cons _) ?_)
 refine LK (fnc (y1E H (DI.cons _) S λx k2 kv2 es2 σ1 Hx=> ?_))
 have sub1:∀p∈σ,p∈σ1:=λp h=>Hx.sub p (.tail _ h)
 have at1:∀{a:Addr} {y:AO},At σ a y->At σ1 a y:=λ{a y} hy=>by obtain⟨o,ho⟩:=hy;exact⟨o,sub1 _ ho⟩
 refine z8T [some (.ref dk),some (.ref ro),some (.ref wl),some (.ref hd),some (.int N),some (.lst (wi.map z0f)),some (.ref x),none] σ1 (λP hP _=> ?_) ?_
 ·refine z0p (λhb=> ?_) λhb=> ?_
  ·clear hb
   refine LK (z0F (at1 hin) ?_)
   refine LK (fnc (z5w H (DI.frame λa y hy=>at1 hy) S.wi.len (.inl ?_)))
   exact hP
  ·have h1:N.fmod 2=1:=by
    have h0:=Ba N (show(0:Int)<2 by decide)
    have h2:=Bb N (show(0:Int)<2 by decide)
    have h3:¬N.fmod 2=0:=AW hb
    exact Int.le_antisymm (Int.le_of_lt_add_one h2) (Int.add_one_le_of_lt (Int.lt_iff_le_and_ne.mpr ⟨h0,Ne.symm h3⟩))
   rw[hT h1]
   exact hP
 have R1:Rw σ1 ro rv es:=Rr.frame λa _ y hy=>at1 hy
 have pk1:(kv2.map (·.1)).Perm (rv.map (·.1)):=by rw[hke];exact Hx.kp
 refine LK (fnc (z4E H Hx.sh R1 pk1 Hx.ep ?_))
 refine LK (z70 (.lst _) (.refL (sub1 _ hwm)) rfl (y0O S.wi) (by decide) (z0g ?_))
 refine LK ⟨tyL (at1 ⟨oh,hhm⟩),?_⟩
 refine LK (fnc (z7M H R1 λro2 rv2 σ2 Cy=> ?_))
 have at2:∀{a:Addr} {y:AO},At σ1 a y->At σ2 a y:=λ{a y} hy=>by obtain⟨o,ho⟩:=hy;exact⟨o,Cy.sub _ ho⟩
 refine LK (z2z (.refL (Cy.sub _ (sub1 _ hwm))) hwz (.inl ?_))
 refine LK (y0e (at2 (at1 ⟨oh,hhm⟩)) (z0i (nD hhs rfl)) λσ3 U=> ?_)
 have fx:∀a∈x::k2::kv2.map (·.2),A4 σ a/\∀z,At σ1 a z->At σ3 a z:=λa ha=>by
  have hf:A4 σ a:=by
   rcases Ae.mp ha with rfl|ha
   ·exactλp hp=>Hx.fx p (.tail _ hp)
   ·rcases Ae.mp ha with rfl|ha
    ·exactλp hp=>Hx.fk p (.tail _ hp)
    ·obtain⟨p,hp,rfl⟩:=Ah.mp ha
     exactλz hz=>Hx.fv p hp z (.tail _ hz)
  exact⟨hf,λz hz=>U.at (at2 hz) λe=>hf _ hhm e.symm⟩
 have fr:∀a∈ro2::rv2.map (·.2),A4 σ1 a:=λa ha=>by
  rcases Ae.mp ha with rfl|ha
  ·exact Cy.fa
  ·obtain⟨p,hp,rfl⟩:=Ah.mp ha
   exact Cy.fv p hp
 have T3:C1 σ3 x k2 kv2 es2:=Hx.sh.frame λa ha z hz=>(fx a ha).2 z hz
 have R3:Rw σ3 ro2 rv2 es:=Cy.rw_.frame λa ha z hz=>U.at hz λe=>fr a ha _ (sub1 _ hhm) e.symm
 have k3:∀p∈σ,p.1≠hd->p∈σ3:=λp hp hne=>U.keep p (Cy.sub p (sub1 p hp)) hne
 have pk2:(kv2.map (·.1)).Perm (rv2.map (·.1)):=by rw[Cy.ke];exact pk1
 have f1:∀a∈x::k2::kv2.map (·.2),A4 σ a:=λa ha=>(fx a ha).1
 have f2:∀a∈ro2::rv2.map (·.2),A4 σ a:=λa ha p hp=>fr a ha p (sub1 p hp)
 have D3:F8 σ3 dk i k kv es wi:=D0.frame λa y hy=>by obtain⟨o,ho⟩:=hy;exact⟨o,k3 _ (mD _ ho) (ne _ (Ai _ ho))⟩
 have R4:Rw σ3 ro rv es:=R0.frame λa _ y hy=>by
  obtain⟨o,ho⟩:=hy
  have hm:=hpl.mem_iff.mpr (.tail _ ho)
  exact⟨o,k3 _ (mL _ hm) (ne _ (Aj _ hm))⟩
 have fin2:∀σ5,(∀p∈σ3,p∈σ5)->(A5 σ5).Nodup->Q (.bool true) σ5:=λσ5 h5 hn5=>by
  have mv:∀a y,At σ3 a y->At σ5 a y:=λa y ⟨o,ho⟩=>⟨o,h5 _ ho⟩
  exact fin (λp hp hne=>h5 p (k3 p hp hne)) (mv _ _ U.here) (T3.frame λa _ y hy=>mv a y hy) (R3.frame λa _ y hy=>mv a y hy) pk2 Hx.ep f1 f2 hn5
 clear fin T3 R3 k3 pk2 f1 f2 fx fr U at2 Cy R1 Hx at1 sub1 hin DI Rr pk1 hT T
 obtain⟨dx,hin⟩:=D3.inst
 refine z0p (λhb=> ?_) λhb=> ?_
 ·clear hb
  refine LK ?_
  show AT C η vH _ true _ (eval _ η) [some (.ref dk),some (.ref ro),some (.ref wl),some (.ref hd),some (.int N),some (.lst (wi.map z0f)),some (.ref x),none] _ _
  refine z3c M_append (z35 (z3o H) ?_)
  with_reducible refine z0d ?_
  refine z0F hin ?_
  refine fnc (z5w H D3 S.wi.len (.inr λa oa hfa=> ?_))
  refine⟨tyL At.hd,?_⟩
  refine z0c (z2j ?_)
  repeat' with_reducible first|refine z0r ?_|refine z0n ?_|refine z0c ?_|refine z0e ?_|fail
  refine⟨by with_unfolding_all exact AH rfl,?_⟩
  with_reducible refine z0e ?_
  refine z39 hwz λo'=> ?_
  exact fin2 _ λp hp=> .tail _ hp
 clear hb
 refine LK (z0F hin ?_)
 refine LK (fnc (y1E H D3 S λx2 k4 kv4 es4 σ4 Hy=> ?_))
 have R5:Rw σ4 ro rv es:=R4.frame λa _ y hy=>by obtain⟨o,ho⟩:=hy;exact⟨o,Hy.sub _ ho⟩
 refine LK (y0k H.ns R5.rows R5.rn (z0E R5.rl (by decide)) (.inl ?_))
 refine LK (z3F (.lst _) .none (.int _) .none nofun (z0i (by rw[Ab,Ab];exact nD R5.rl rfl)) (z2A ?_))
 rw[y35,slL_hd]
 refine LK (.mk _ _ (LgI (.ref dk) (.ref ro) (.ref wl) (.ref hd) (.int N) (.lst (wi.map z0f)) (.ref x2) σ3 σ4) (.lst _) (.mk (λ_=>rfl) Hy.sub) (λj X hX m τ hI QB hQB _=> ?_) λm τ hI=> ?_)
 ·rw[<-List.map_take,Al] at hX
  apply z0Z hX;intro w hwe
  obtain⟨hj,e⟩:=An.mp hwe
  have hj0:j=0:=by rw[AR] at hj;exact Nat.lt_one_iff.mp (AF hj (Bi _ _))
  have hwk:w∈rv.map (·.1):=List.mem_of_mem_take (Ak hwe)
  apply hI;intro τ u h0 hs3
  have h0:=h0 hj0
  subst h0
  obtain⟨b,hb,hrb,hat⟩:=R5.at hwk
  have hw:=R5.wok _ hb
  have hok:=R5.eok w
  have hne:=S.ne w (by rw[<-hke];exact hwk)
  cases ee:es w with
  |nil=>exact absurd ee hne
  |cons p l=>
  have hpm:p∈es w:=by rw[ee];exact .head _
  have hmb:=hok.mb p hpm
  obtain⟨dx4,hin4⟩:=Hy.sh.inst
  have hk4:w∈kv4.map (·.1):=Hy.kp.mem_iff.mpr (by rw[<-hke];exact hwk)
  obtain⟨⟨w',a⟩,ha,e'⟩:=Ah.mp hk4
  have e':w'=w:=e'
  subst e'
  have fa:∀z∈σ3,z.1≠a:=λz hz=>Hy.fv _ ha z hz
  refine LK (z0k hin4 ?_)
  refine LK (z3u R5.rows R5.rn hrb ?_)
  refine LK (y0j H.ns hat (R5.en _) (z0E hok.len (by decide)) (.inl ?_))
  rw[show(esV (es w')).map (λp=>V.int p.1)=((es w').map (·.1)).map V.int by rw[AJ,AJ];rfl]
  refine LK (z0I (i:=0) (X:= .int p.1) (.lst _) (by decide) (by rw[ee];rfl) ?_)
  refine LK (fnc (z8q H Hy.sh hw hmb.1 hmb.2 (ns:=p.2) ((Hy.ep w').mem_iff.mpr hpm) ha (λ_ σ5 U=> ?_) λ_ σ5 σ6 U U2=> ?_))
  ·exact hQB _ _ trivial (.mk (λe=>absurd e (Nat.succ_ne_zero _)) λz hz=>U.keep z (Hy.sub z hz) (fa z hz))
  ·exact hQB _ _ trivial (.mk (λe=>absurd e (Nat.succ_ne_zero _)) λz hz=>U2.keep z (U.keep z (Hy.sub z hz) (fa z hz)) λe=>Hy.fk z hz e)
 ·apply hI;intro τ u _ hs3
  exact fin2 τ hs3
end
inductive St(ρ:Sto)(dk ro wl:Addr)(ks:List Str)(es:ES)(wi:List z0b):Prop
 |mk {σd σl:Sto}:ρ.Perm (σd++σl)->Dk σd dk ks es wi->Lw σl ro wl ks es wi->St ρ dk ro wl ks es wi
def A1(a0 a1:V)(dk ro wl:Addr)(kk:Nat->List Str)(ee:Nat->ES)(ww:Nat->List z0b)(j:Nat)(m₀:Loc)(τ₀:Sto):Prop:=∀P:Loc->Sto->Prop,(∀{u v:Option V} {ρ:Sto},St ρ dk ro wl (kk j) (ee j) (ww j)->P [some a0,some a1,some (.ref dk),some (.ref ro),some (.ref wl),u,v,none,none,none,none] ρ)->P m₀ τ₀
theorem A1.mk{a0 a1:V}{dk ro wl:Addr}{kk:Nat->List Str}{ee:Nat->ES}{ww:Nat->List z0b}{j:Nat}{u v:Option V}{ρ:Sto}(x0:St ρ dk ro wl (kk j) (ee j) (ww j)):A1 a0 a1 dk ro wl kk ee ww j [some a0,some a1,some (.ref dk),some (.ref ro),some (.ref wl),u,v,none,none,none,none] ρ:=λ_ k=>k x0
def A2(a0 a1:V)(dk ro wl hd:Addr)(j:Nat)(m₀:Loc)(τ₀:Sto):Prop:=∀P:Loc->Sto->Prop,(∀{u v k e f:Option V} {ρ σd σl σh:Sto} {oh:Obj} {hs:List V} {ks:List Str} {es:ES} {wi:List z0b},ρ.Perm ((hd,oh,.list hs)::((σd++σl)++σh))->Dk σd dk ks es wi->Lw σl ro wl ks es wi->(∀it∈hs,ItS σh it)->hs.length<=j->P [some a0,some a1,some (.ref dk),some (.ref ro),some (.ref wl),u,v,some (.ref hd),k,e,f] ρ)->P m₀ τ₀
theorem A2.mk{a0 a1:V}{dk ro wl hd:Addr}{j:Nat}{u v k e f:Option V}{ρ σd σl σh:Sto}{oh:Obj}{hs:List V}{ks:List Str}{es:ES}{wi:List z0b}(x0:ρ.Perm ((hd,oh,.list hs)::((σd++σl)++σh)))(x1:Dk σd dk ks es wi)(x2:Lw σl ro wl ks es wi)(x3:(∀it∈hs,ItS σh it))(x4:hs.length<=j):A2 a0 a1 dk ro wl hd j [some a0,some a1,some (.ref dk),some (.ref ro),some (.ref wl),u,v,some (.ref hd),k,e,f] ρ:=λ_ k=>k x0 x1 x2 x3 x4
section
variable {ρ:Sto} {wl hd:Addr} {mk:Int}
theorem z9z{x:Str}{i:Int}(h:maF x=some i):PySem.intText? x=some i/\x.length<=640:=by
 unfold maF at h
 by_cases hd:z5f x=true
 ·rw[if_pos hd] at h
  unfold z5f at hd
  rw[AC,AC,AC] at hd
  obtain⟨a,b,_,f⟩:=hd
  have hl:x.cps.toList.length=x.length:=rfl
  have h3:x.length<=3:=AD b
  refine⟨?_,nD h3 rfl⟩
  rw[<-h]
  exact PySem.intText_digits (λc hc=>by
   have:=AK.mp f c hc
   unfold z5E at this
   rw[AC] at this
   exact⟨AD this.1,AD this.2⟩) (λe=>by
   have h1:1<=x.length:=AD a
   rw[e] at hl
   exact absurd h1 (by rw[<-hl];decide)) (nD h3 rfl)
 ·rw[if_neg hd] at h;cases h
theorem Dk.at(D:Dk σd dk ks es wi)(h:∀p∈σd,p∈ρ):∃dx X Y,At ρ dk (.inst 364 dx [("shop",X),("wish",Y)]):=by
 obtain⟨DI,_,_⟩:=D
 obtain⟨dx,o,ho⟩:=DI.inst
 exact⟨dx,_,_,o,h _ ho⟩
theorem w14(hw:A7 w):A9 (w,1,4):=⟨hw,(by decide:(1:Int)<=1),(by decide:(1:Int)<=4),(by decide:(4:Int)<=999)⟩
theorem Ahd.ans{ws ks1:List Str}{es1:ES}{wi1:List z0b}(h:Ahd ks es wi ws ks1 es1 wi1):C4 ks es wi (B5 ws) (.str "done") ks1 es1 wi1:=
 h.casesOn (motive:=λws ks1 es1 wi1 _=>C4 ks es wi (B5 ws) (.str "done") ks1 es1 wi1) (λhw h8=>by rw[z6U (w14 hw)];exact .wish h8) λhw h1 h2 R=>by rw[show B5 ["put",_,sI _]=_ from y1p (ns:=[]) hw h1 h2 λ_ h=>nomatch h];exact .put R
noncomputable def z5r(r1:Stmt):TC:=⟨[.L 0,.P (.int 5),.call (.ref 380) 2,.A 1,.X r1,.asgD 3,.asgL 4],[.inl r1],[([1],none)]⟩
noncomputable def z3Z(r1:Expr):TC:=⟨[.raw r1,.A 6,.L 6,.S 0,.P (.str "wish"),.tcmp .Eq,.I [.L 4,.Y "list",.L 6,.S 1,.P (.int 1),.P (.int 4),.tup 3,.H (.bi "list.append") 1,.pop] [.L 3,.L 6,.S 1,.L 6,.S 2,.call (.type "int") 1,.lst 0,.call (.ref 411) 4,.pop]],[.inr r1],[([0],some [])]⟩
noncomputable def I6:TC:=⟨[.asgL 7],[],[]⟩
noncomputable def H6:TC:=⟨[.L 3,.L 4,.L 1,.L 0,.P (.int 3),.L 8,.B .Add,.call (.ref 375) 2,.call (.ref 442) 4,.asg2 5 9],[],[]⟩
noncomputable def H5:TC:=⟨[.L 10,.Q .str,.V,.not,.M .Or [.L 10,.L 9,.K .NotEq,.M .Or [.P (.bool false)]],.I [.P (.bool false),.ret] [],.L 2,.L 3,.L 4,.L 7,.L 0,.P (.int 60),.L 8,.B .Add,.call (.ref 375) 2,.call (.ref 454) 5,.V,.not,.I [.P (.bool false),.ret] []],[],[]⟩
noncomputable def z4C(r1:Expr):TC:=⟨[.L 2,.L 3,.L 4,.L 7,.P (.int 0),.call (.ref 454) 5,.V,.not,.I [.P (.bool false),.ret] [],.raw r1,.lst 0,.G .Eq,.ret],[.inr r1],[([1],some [0])]⟩
noncomputable abbrev vA:List Str:=["_law_script","_law_names_here","_law_desk","_law_rows","_law_wish","_law_line","_law_words","_law_held","_law_k","_law_due","_law_found"]
set_option tactic.hygienic true in
theorem y44(H:G1 C){xs:List Int}(hx:xs.length<=100)(q:∀σ',Q (.bool true) σ'):CE C (d+40) (.ref 459) [.lst (xs.map V.int)] [] Q EQ:=by
 refine z40 (G1.kin ‹_›) vA [("_law_names",.ref 380),("Desk",.ref 364),("_law_ahead_lines",.ref 447),("_law_mixed",.ref 375),("_law_put",.ref 411),("int",.type "int"),("range",.type "range"),("min",.bi "min"),("len",.bi "len"),("_law_said",.ref 442),("isinstance",.bi "isinstance"),("str",.type "str"),("_law_looked",.ref 454),("_law_settled",.ref 423)] (by kernel_rfl) (vs1 λ_=>by kernel_rfl) rfl (gA ‹_› [59,60,61,48,53,6,20,62,2,63,0,1,64,55]) ?_
 intro η hsc
 show SE C η vA _ _ _ [some (.lst (xs.map V.int)),none,none,none,none,none,none,none,none,none,none] [] _ _
 refine z0x 4 (xG H (z5r _) ?_)
 intro F m0
 refine LK (fnc (z6O (n:=5) H hx (by decide) λnm h5 hnm=> ?_))
 refine LK ?_
 show AS C η vA _ true _ (exec _ η) [some (.lst (xs.map V.int)),some (.lst (nm.map V.str)),none,none,none,none,none,none,none,none,none] _ _
 refine z1F (z3b (y1d H) ?_)
 with_reducible refine z0o ?_
 refine⟨rfl,y4s H λdk σ1 hD=> ?_⟩
 with_reducible refine z2K ?_
 intro ro oro hfr wl owl hfw
 show SE C η vA _ _ _ [some (.lst (xs.map V.int)),some (.lst (nm.map V.str)),some (.ref dk),some (.ref ro),some (.ref wl),none,none,none,none,none,none] _ _ _
 have S0:St ((wl,owl,.list [])::(ro,oro,.dict [])::σ1) dk ro wl [] (λ_=>[]) []:= .mk (σl:=[(wl,owl,.list []),(ro,oro,.dict [])]) (Ax (l₁:=[(wl,owl,AO.list []),(ro,oro,AO.dict [])]) (l₂:=σ1)) hD (.mk (rv:=[]) (.refl _) ⟨At.hd,(λ_ h=>nomatch h),Aw,by decide,(λ_ h=>nomatch h),(λ_ _=>rfl),(λ_=> .nil),Au.mpr ⟨Av,Aw⟩⟩ rfl .nil)
 clear hD hfr hfw
 generalize (wl,owl,AO.list [])::(ro,oro,AO.dict [])::σ1=σ2 at S0
 refine z0h (y0r (z0W ?_))
 repeat' with_reducible first|refine z0G ?_|refine z0d ?_|refine z0n ?_|refine z0c ?_|refine z0e ?_|refine z0o ?_|refine z2G (cA ‹_›) ?_|refine z2G (cA ‹_›) ?_|fail
 refine fnc (z1T H hx (by decide) (by decide) λN _ _=> ?_)
 with_reducible refine z0e ?_
 refine fnc (z3C H h5 hnm λls kk ee ww A=>⟨_,_,.lst _,z8K (A1 (.lst (xs.map V.int)) (.lst (nm.map V.str)) dk ro wl kk ee ww) _ 0 _ _ (.mk (by rw[A.zk,A.ze,A.zw];exact S0)) (λj X hX m σ hI QB hQB hQR=> ?_) λm σ hI=> ?_⟩)
 ·rw[AP] at hI
  rw[AP] at hQB
  rw[Al] at hX
  apply z0Z hX;intro x hxe
  obtain⟨ws,ln,hA⟩:=A.step j x hxe
  clear q hX hxe S0
  apply hI;intro u v ρ hS
  obtain⟨hp,hD,hL⟩:=hS
  rename_i σd σl
  generalize kk j=ks at hA hD hL
  generalize ee j=es at hA hD hL
  generalize ww j=wi at hA hD hL
  generalize hk1:kk (j+1)=ks1 at hA
  generalize he1:ee (j+1)=es1 at hA
  generalize hw1:ww (j+1)=wi1 at hA
  obtain⟨dx,X0,Y0,hin⟩:=hD.at (ρ:=ρ) λp h=>hp.mem_iff.mpr (Ai _ h)
  with_reducible refine z0w PutC.put ?_
  refine z0h (y0s (z8w (z1h (z2C H) ?_)))
  with_reducible refine z0d ?_
  refine z0F hin ?_
  refine z05 ?_
  repeat' with_reducible first|refine z0G ?_|refine z0d ?_|refine z0c ?_|refine z0e ?_|fail
  obtain⟨hpl,R0,hke,S⟩:=hL
  rename_i ow σr rv
  refine z36 (σ:=σl) (τ:=σd) (hp.trans Ax) (y1F H hD ln ln.few hA.ans λσd' hD' _=> ?_)
  with_reducible refine z0r ?_
  refine z8A (z0g ⟨λhb=>absurd hb (by decide+kernel),λ_=>z1l ?_⟩)
  refine z0x 2 (xG H (z3Z _) ?_)
  intro F m0
  refine LK ?_
  show AT C η vA _ true _ (eval _ η) [some (.lst (xs.map V.int)),some (.lst (nm.map V.str)),some (.ref dk),some (.ref ro),some (.ref wl),some (.str x),v,none,none,none,none] _ _
  refine z3c M_split ?_
  with_reducible refine z0d ?_
  refine⟨z2c,z0c (z0r (z0e (z8I (by decide+kernel) (by have:=ln.len;show _<=16777216;exact nD (Bg this 2) rfl) (.inl ?_))))⟩
  rw[ln.sp]
  clear ln
  cases hA with
  | @wish w hw h8=>
   refine LK (z0I (xs:=[V.str "wish",V.str w,V.str (sI 1),V.str (sI 4)]) (i:=0) (X:= .str "wish") (.lst _) (by decide) rfl ?_)
   refine LK (z3l (z0g ?_))
   rw[show(("wish":Str)=="wish")=true by decide+kernel]
   have hpw:=hpl.append_right σd'
   refine LK ⟨tyL ⟨_,hpw.mem_iff.mpr (.head _)⟩,?_⟩
   refine LK (z0I (xs:=[V.str "wish",V.str w,V.str (sI 1),V.str (sI 4)]) (i:=1) (X:= .str w) (.lst _) (by decide) rfl ?_)
   refine LK (y0f hpw (z0E S.wi.len (by decide)) λo' σ' hp'=> ?_)
   refine z1l (hQB _ _ trivial (.mk ?_))
   rw[hk1,he1,hw1]
   have eapp:(wi++[(w,1,4)]).map z0f=wi.map z0f++[.tup [.str w,.int 1,.int 4]]:=by rw[Am];rfl
   exact .mk (σl:=(wl,o',.list ((wi++[(w,1,4)]).map z0f))::σr) (by rw[eapp];exact(show σ'.Perm (((wl,o',AO.list (wi.map z0f++[V.tup [.str w,.int 1,.int 4]]))::σr)++σd') from hp').trans Ax) hD' (.mk (.refl _) R0 hke (S.wis (z8s S.wi h8 (w14 hw))))
  | @put w mk ks' es' hw h1 h2 R=>
   refine LK (z0I (xs:=[V.str "put",V.str w,V.str (sI mk)]) (i:=0) (X:= .str "put") (.lst _) (by decide) rfl ?_)
   refine LK (z3l (z0g ?_))
   rw[show(("put":Str)=="wish")=false by decide+kernel]
   refine LK (z0I (xs:=[V.str "put",V.str w,V.str (sI mk)]) (i:=1) (X:= .str w) (.lst _) (by decide) rfl ?_)
   refine LK (z0I (xs:=[V.str "put",V.str w,V.str (sI mk)]) (i:=2) (X:= .str (sI mk)) (.lst _) (by decide) rfl ?_)
   have hint:=z9z (z1t h1 h2).1
   refine LK (y0h hint.1 hint.2 ?_)
   subst hke
   have hpw:(σl++σd').Perm (((wl,ow,AO.list (wi.map z0f))::σd')++σr):=(hpl.append_right σd').trans (List.Perm.cons _ Ax)
   refine LK (fnc (z1W hpw (z5u (ns:=[]) H R0 S hw h1 h2 (λ_ h=>nomatch h) (by decide) λc ks2 es2 rv' σr' R2 S2 e2 _=> ?_)))
   obtain⟨rfl,rfl⟩:=R.uq S R2
   refine z1l (hQB _ _ trivial (.mk ?_))
   rw[hk1,he1,hw1]
   exact .mk (σl:=(wl,ow,.list (wi.map z0f))::σr') (List.perm_middle (l₁:=σd') (a:=(wl,ow,AO.list (wi.map z0f))) (l₂:=σr')).symm hD' (.mk (.refl _) S2 e2 (R2.ok S hw h1 h2))
 ·rw[AP] at hI
  apply hI;intro u v ρ hS
  clear hI A S0
  generalize kk _=ks at hS
  generalize ee _=es at hS
  generalize ww _=wi at hS
  show SE C η vA _ _ _ [some (.lst (xs.map V.int)),some (.lst (nm.map V.str)),some (.ref dk),some (.ref ro),some (.ref wl),u,v,none,none,none,none] _ _ _
  refine z0x 1 (xG H I6 ?_)
  intro F m0 hd ohd hfd
  show SE C η vA _ _ _ [some (.lst (xs.map V.int)),some (.lst (nm.map V.str)),some (.ref dk),some (.ref ro),some (.ref wl),u,v,some (.ref hd),none,none,none] _ _ _
  obtain⟨hp,hD,hL⟩:=hS
  rename_i σd σl
  refine z0h (z8L (A2 (.lst (xs.map V.int)) (.lst (nm.map V.str)) dk ro wl hd) (z1p ?_))
  repeat' with_reducible first|refine z0G ?_|refine z0d ?_|refine z0n ?_|refine z0c ?_|refine z0e ?_|refine z0o ?_|refine z1P ?_|refine z2S ?_|fail
  refine z0B (n:=xs.length) (.lst _) (Ab _) (z0E hx (by decide)) ?_
  with_reducible refine z0e ?_
  refine y3L ?_
  with_reducible refine z0e ?_
  rw[show min (30:Int) (xs.length:Int)=((min 30 xs.length:Nat):Int) by exact(Lean.Omega.Int.ofNat_min 30 xs.length).symm]
  refine z1D ?_
  refine⟨_,_,_,min 30 xs.length,rfl,z7v (by exact nD (Bi _ _) rfl),z7w _,.mk (σh:=[]) (hs:=[]) (by rw[Az];exact hp.cons _) hD hL (λ_ h=>nomatch h) (Nat.zero_le _),λj X hX m τ hI QB hQB hQR=> ?_,λm τ hI=> ?_⟩
  ·obtain⟨hj,rfl⟩:=z4j hX
   have hj30:j<30:=AF hj (Bi _ _)
   clear q hX hp hD hL hj hfd
   apply hI;intro u v k e f ρ σd σl σh oh hs ks es wi hp hD hL hit hl
   clear hI hQR
   have hp1:ρ.Perm (((hd,oh,AO.list hs)::(σd++σh))++σl):=hp.trans (List.Perm.cons _ (by show((σd++σl)++σh).Perm ((σd++σh)++σl);rw[Ao,Ao];exact Ax.append_left _))
   with_reducible refine z0w PutC.put ?_
   refine z0x 1 (xG H H6 ?_)
   intro F m0
   refine LK (fnc (z1T H hx (by exact Int.zero_le_ofNat (3+j)) (by exact Int.ofNat_lt.mpr (AF (Nat.add_lt_add_left hj30 3) (by decide))) λN _ _=> ?_))
   refine LK (fnc (z1W hp1 (z7N H hL h5 hnm λx ws a ks' es' wi' σl' ln R hL' _=> ?_)))
   clear hp hp1 hL
   show SE C η vA _ _ _ [some (.lst (xs.map V.int)),some (.lst (nm.map V.str)),some (.ref dk),some (.ref ro),some (.ref wl),some (.str x),v,some (.ref hd),some (.int (j:Int)),some (.str (anT a)),f] _ _ _
   have hp2:(((hd,oh,AO.list hs)::(σd++σh))++σl').Perm (((hd,oh,AO.list hs)::(σh++σl'))++σd):=List.Perm.cons _ (by show((σd++σh)++σl').Perm _;rw[Ao];exact Ax)
   obtain⟨dx,X0,Y0,hin⟩:=hD.at (ρ:=((hd,oh,AO.list hs)::(σd++σh))++σl') λp h=>Ai _ (.tail _ (Ai _ h))
   refine z0h (y0q (z1h (z2C H) ?_))
   with_reducible refine z0d ?_
   refine z0F hin ?_
   refine z05 ?_
   repeat' with_reducible first|refine z0G ?_|refine z0d ?_|refine z0c ?_|refine z0e ?_|fail
   refine z36 hp2 (y1F H hD ln ln.few R λσd' hD' _=> ?_)
   with_reducible refine z2K ?_
   clear hp2 hin hD R ln
   refine z0x 2 (xG H H5 ?_)
   intro F m0
   refine z1o (z8d _) ?_
   refine LK (fnc (z1T H hx (by exact Int.zero_le_ofNat (60+j)) (by exact Int.ofNat_lt.mpr (AF (Nat.add_lt_add_left hj30 60) (by decide))) λN2 _ _=> ?_))
   have hp3:(((hd,oh,AO.list hs)::(σh++σl'))++σd').Perm (σh++((hd,oh,AO.list hs)::(σd'++σl'))):=by
    refine List.Perm.trans ?_ List.perm_middle.symm
    refine List.Perm.cons _ ?_
    show((σh++σl')++σd').Perm _
    rw[Ao]
    exact Ax.append_left _
   refine LK (fnc (z1W hp3 (z3r H (.refl _) hD' hL' (by exact Ac hl (nD (AZ hj30) rfl)) λσ' LP _=> ?_)))
   obtain⟨hp',hh⟩:=LP
   rename_i oh' hs' r
   refine z1l (hQB _ _ trivial ?_)
   refine .mk (σh:=r++σh) (hs:=hs') (oh:=oh') (σd:=σd') (σl:=σl') ?_ hD' hL' ?_ ?_
   ·refine Ax.trans ((hp'.append_right σh).trans ?_)
    show((hd,oh',AO.list hs')::(((σd'++σl')++r)++σh)).Perm _
    rw[Ao]
   ·rcases hh with rfl|⟨it,rfl,hIt⟩
    ·exactλit h=>(hit it h).mono λp hp=>Aj _ hp
    ·intro z hz
     rcases Ad.mp hz with h|h
     ·exact(hit z h).mono λp hp=>Aj _ hp
     ·rw[Af.mp h];exact hIt.mono λp hp=>Ai _ hp
   ·rcases hh with rfl|⟨it,rfl,hIt⟩
    ·exact Nat.le_succ_of_le hl
    ·rw[Ag];exact Bh hl
  ·clear hp hD hL hfd
   apply hI;intro u v k e f ρ σd σl σh oh hs ks es wi hp hD hL hit hl
   clear hI
   have hl30:hs.length<=30:=Ac hl (by rw[z00];exact Bi _ _)
   have hpA:ρ.Perm (((hd,oh,AO.list hs)::(σh++σl))++σd):=hp.trans (List.Perm.cons _ (by show((σd++σl)++σh).Perm ((σh++σl)++σd);exact(Ax.append_right σh).trans (by rw[Ao,Ao];exact(Ax (l₁:=σl++σd) (l₂:=σh) |> λh=>by rw[Ao] at h;exact h))))
   obtain⟨dx,X0,Y0,hin⟩:=hD.at (ρ:=ρ) λp h=>hp.mem_iff.mpr (.tail _ (Ai _ (Ai _ h)))
   show SE C η vA _ _ _ [some (.lst (xs.map V.int)),some (.lst (nm.map V.str)),some (.ref dk),some (.ref ro),some (.ref wl),u,v,some (.ref hd),k,e,f] _ _ _
   refine z0h (y0s (z8w (z1h (z2C H) ?_)))
   with_reducible refine z0d ?_
   refine z0F hin ?_
   refine z05 ?_
   repeat' with_reducible first|refine z0r ?_|refine z0c ?_|refine z0e ?_|fail
   have RS:C4 ks es wi (B5 [("settle":Str)]) (.str (z5m es wi)) ks es wi:=by rw[G0];exact .settle
   refine z36 hpA (y1F H hD ln_settle ln_settle.few RS λσd' hD' _=> ?_)
   have hLk:=hL
   obtain⟨hpl,R0,hke,S⟩:=hL
   rename_i ow σr rv
   have mL:∀p∈σl,p∈((hd,oh,AO.list hs)::(σh++σl))++σd':=λp h=>Ai _ (.tail _ (Aj _ h))
   have Rr:Rw (((hd,oh,AO.list hs)::(σh++σl))++σd') ro rv es:=R0.frame λa _ y hy=>by obtain⟨o,ho⟩:=hy;exact⟨o,mL _ (hpl.mem_iff.mpr (.tail _ ho))⟩
   have hwm:=mL _ (hpl.mem_iff.mpr (.head _))
   repeat' with_reducible first|refine z0G ?_|refine z0d ?_|refine z0r ?_|refine z0c ?_|refine z0e ?_|refine z0o ?_|refine z2G (cA ‹_›) ?_|fail
   refine fnc (z18 H Rr (by rw[hke];exact S) (.refL hwm) ?_)
   rw[tol_set]
   refine z8A (z0g ⟨λhb=>absurd ((z8d _).symm.trans hb) BB,λ_=>z1l ?_⟩)
   clear hin hwm Rr mL hpA hp
   have hpB:(((hd,oh,AO.list hs)::(σh++σl))++σd').Perm (σh++((hd,oh,AO.list hs)::(σd'++σl))):=by
    refine List.Perm.trans ?_ List.perm_middle.symm
    refine List.Perm.cons _ ?_
    show((σh++σl)++σd').Perm _
    rw[Ao]
    exact Ax.append_left _
   refine z0x 2 (xG H (z4C _) ?_)
   intro F m0
   refine LK (fnc (z1W hpB (z3r H (.refl _) hD' hLk (by exact nD hl30 rfl) λσ' LP _=> ?_)))
   obtain⟨hp',hh⟩:=LP
   rename_i oh' hs' r
   have hat:(hd,oh',AO.list hs')∈σh++σ':=Aj _ (hp'.mem_iff.mpr (.head _))
   have hz:hs'.length<=31:=by
    rcases hh with rfl|⟨it,rfl,_⟩
    ·exact Nat.le_succ_of_le hl30
    ·rw[Ag];show _+1<=_;exact Bh hl30
   have his:∀it∈hs',ItS (σh++σ') it:=by
    have o1:∀it∈hs,ItS (σh++σ') it:=λit h=>(hit it h).mono λp hp=>Ai _ hp
    rcases hh with rfl|⟨it,rfl,hIt⟩
    ·exact o1
    ·intro z hz
     rcases Ad.mp hz with h|h
     ·exact o1 z h
     ·rw[Af.mp h];exact hIt.mono λp hp=>Aj _ (hp'.mem_iff.mpr (.tail _ (Aj _ hp)))
   refine LK ?_
   show AT C η vA _ true _ (eval _ η) [some (.lst (xs.map V.int)),some (.lst (nm.map V.str)),some (.ref dk),some (.ref ro),some (.ref wl),u,v,some (.ref hd),k,e,f] _ _
   clear hh hp' hit hl hl30 hpB hLk hD' S R0 hke hpl
   refine z0H "_law_one" [] [("_law_like",.ref 435)] (by rw[hsc];kernel_rfl) (gA H [57]) .nil (z0W ?_)
   with_reducible refine z0d ?_
   refine⟨_,_,.refL hat,z0i (nD hz rfl),λenv' he=>z1S (f:=id) (t:=λ_=>false) (z0j he) hat _ _ _ (λX hX K hK=> ?_) (λX _ e=>nomatch e) ?_⟩
   ·clear q
    obtain⟨T,R,hk,hE,ok⟩:=his X hX
    repeat' with_reducible first|refine z1f ?_|refine z0G ?_|refine z1V ?_|refine z3D ?_|refine z34 ?_|refine z3s ?_|refine z0d ?_|refine z0n ?_|refine z0u ?_|refine z0c ?_|refine z0e ?_|refine z3H ?_|refine z0o ?_|refine z2G (cA ‹_›) ?_|fail
    refine fnc (z4E H T R hk hE ?_)
    refine z0g ⟨λhb=>ff hb,λ_=> ?_⟩
    repeat' with_reducible first|refine z1f ?_|refine z3D ?_|refine z0D ?_|refine z0d ?_|refine z0n ?_|refine z0u ?_|refine z3H ?_|fail
    exact z7Z H.ns (z7q ok.ok (nD ok.len rfl)) (by decide) (z0g ⟨λhb=>ff hb,λ_=>z4X hK⟩)
   ·rw[Ay,List.filter_eq_nil_iff.mpr λ_ _ h=>ff h]
    refine LK (y3x ?_)
    exact q _
end
end
section
open PySem PySem.W PyProof.Rows
theorem y4O{w:World}{D:Gh}{vs:List Value}{xs:List Int}(h:IntsAre vs xs):A6 w D vs (xs.map V.int):=by
 induction h with
 |nil=>exact .nil
 |cons n t _ ih=>exact .cons (.int n t) ih
open Classical in
theorem y5d{prog:Program}{w:World}{s₁:Shared}{mg mb:Str->Option Value}{a:Addr}{vs us:List Value}{xs:List Int}{K:Value->Shared->Prop}{E:Value->Shared->Prop}
  (hg:s₁.heap.Ns mainGlobals mg) (hb:s₁.heap.Ns builtinsNs mb) (hl:s₁.heap.NoLimit) (hbi:∀x:Str,x≠"__name__"->mb x=bootBuiltins x) (KX:(Tp.K w.params).In s₁.heap) (hns:∃o,s₁.heap.get? sysModules=some o)
  (hown:∀(x:Str) (a:Addr) (bm:List Value) (n:String),W.nsIn (Tp.K w.params) mainGlobals x=some (some (.ref a))->W.excIn (Tp.K w.params) a bm n=true->OwnCls x a bm n mg s₁.heap)
  (ha:s₁.heap.get? a=some (z0q us.toArray 0)) (hL:s₁.heap.IsList a vs.toArray) (hI:IntsAre vs xs) (hx:xs.length<=100)
  (k:∀s',(∀b o,s₁.heap.get? b=some o->s'.heap.get? b=some o)->s'.os=s₁.os->s'.gens=s₁.gens->K (.bool true) s'):
  wpAny (model prog w) callerA (call (.ref 459) [.ref a]) K E s₁:=by
 let C:Cx:=⟨prog,w,s₁.heap,s₁,mg,mb,hg,hb,hl,some none,none⟩
 have H:G1 C:=⟨KX,hbi,hns,hown⟩
 haveI:HM C:=⟨rfl⟩
 haveI:NF C:=⟨rfl⟩
 have hv:us=vs:=by
  obtain⟨o,ho,_,n,hd⟩:=hL
  rw[ha] at ho;cases ho
  have:us.toArray=vs.toArray:=by
   have h':Data.seq us.toArray 0=Data.seq vs.toArray n:=hd
   injection h'
  simpa using this
 subst hv
 let D:Gh:=λb=>if b=a then some (z0q us.toArray 0) else none
 have R:RelC C (λb=>s₁.heap.get? b) D [] s₁:=⟨⟨s₁.heap,s₁.toks,rfl⟩,λ_ _ e=>e,λb o e=>⟨o,e,.refl o⟩,(λb o e=>by
   have e':(if b=a then some (z0q us.toArray 0) else none)=some o:=e
   split at e'
   ·rename_i hb;subst hb;rw[<-e'];exact ha
   ·cases e'),λ_ _ e=>e,Aw,(λ_ h=>by cases h),(λ_ h=>by cases h),(λ_ h=>by cases h),(λ_ h=>by cases h)⟩
 have hargs:A6 C.w D [.ref a] [.lst (xs.map V.int)]:= .cons (.lst (show(if a=a then some (z0q us.toArray 0) else none)=_ by rw[if_pos rfl]) (y4O hI)) .nil
 have hA:C9 C callerA 40:=⟨(λx e=>by cases e;rfl),(λl e=>nomatch e),by decide+kernel,by decide+kernel⟩
 have:=y44 (C:=C) (d:=0) (Q:=λx _=>x= .bool true) (EQ:=λ_ _=>False) H hx (λ_=>rfl) callerA _ D s₁ [.ref a] [] hA ⟨rfl,λ_ h=>nomatch h⟩ R hargs
 refine wpAny_call (codeAny_mono this λr s' q=> ?_)
 cases r with
 |error e=>obtain⟨_,_,h,_⟩:=q;exact h.elim
 |ok fl=>
  cases fl with
  |ret v=>
   obtain⟨x,D',σ',dx,hv,R',hx⟩:=q
   subst hx
   rw[hv.boolI]
   obtain⟨h,tk,e⟩:=R'.same
   exact k s' R'.bs (by rw[e]) (by rw[e])
  |_=>exact q.elim
end
end Mine
open PySem PySem.W PyProof.Rows
theorem PySem.Challenge.cw_uf010025_11_holds : PySem.Challenge.rw_uf010025_11.Holds := by
  refine Mine.hd11 ?_
  intro w s₀ s₁ mg mb G Y fa o pm cd doc dV kV ho hd hcd hD hmg hg args vals as hpre hlay hrd hwl hlo
  have KX := kIn_of Y
  refine Ground.open G ?_
  intro T B D TE TW
  clear G Y B D TE TW hd hcd hD
  have hfa : fa = 459 := by
    have h1 := mg_of KX T.g (show nsIn (Mine.Tp.K w.params) mainGlobals "law" = some (some (.ref 459)) from rfl)
    have h2 : mg "law" = some (.ref fa) := hmg
    rw [h1] at h2; injection h2 with h2; injection h2 with h2; exact h2.symm
  subst hfa
  clear hmg
  wrow_args hpre hlay hrd hwl hlo
  rename_i hL _ w1 _ hI _ hc _
  obtain ⟨us, ha⟩ : ∃ us : List Value, s₁.heap.get? _ = some (Mine.z0q us.toArray 0) := by
    cases w1 with
    | list h _ => exact ⟨_, h⟩
  refine Mine.y5d T.g T.b T.nolimit T.builtins KX (by obtain ⟨_, ⟨o, _, _, ho, _⟩, _⟩ := (T.seer (by decide +kernel)).mods; exact ⟨o, ho⟩) (fun x a bm n e q => own_of_in KX (topRead_of T) e q) ha hL hI (by lia) fun s' h1 h2 h3 => GoodW.toG ⟨.inl ⟨_, .bool true, [], rfl, fun _ => rfl, .bool true, ?_, fun h => ?_⟩, h1, h2, h3.trans hg⟩
  · wrow_post
  · exact ⟨List.nodup_nil, fun a h => by cases h⟩
