import PyProof.Rows.All
import OpenK.KLine
import KE.KEqDict
import PyProof.CompFree
import PyProof.Cells
import PyProof.DictKinds
import PyProof.Calls
import PyProof.Rows.Tup
import PyProof.Rules2
import PyProof.Rules3
import PyProof.CallRoads
import PyProof.CallType
import PyProof.EvalArms
import PyProof.Raises
import PyProof.Rows.StrTemp
import PyProof.Rows.TupSub
import PyProof.RulesRaise
import PyProof.ForAny
import PyProof.WalksMore
import PyProof.StrWalks
import PyProof.DictWalks
import PyProof.MakeMany
import PyProof.PureInt
import PyProof.NoPylong
import PyProof.Rows.RuleB_floordiv
import PyProof.Rows.RuleB_mod
import PyProof.Rows.StrRules
import PyProof.FString5
import PyProof.ListIndex
import PyProof.ListIndexNeg
import PyProof.SliceList
import PyProof.SliceStr2
import PyProof.StrCalls2
import PyProof.ConsumeWalk
import PyProof.WalkInts
import PyProof.IsiPairs
import PyProof.IsiHeapPairs
import PyProof.CallStr
import PyProof.P3Eq
import PyProof.EqLayable
import PyProof.Methods
import PyProof.SeqRoads
import PyProof.SliceSyntax
import PyProof.Rows.SeqMore
import PyProof.IsiNone
import PyProof.StrBlock
import PyProof.RangeFor
import PyProof.Rows.Range3
import PyProof.Rows.Chain
import OpenK.KCall
import PyProof.StrBlockI
import PyProof.StrBlockL
import PyProof.DictRoads
import PyProof.DictCalls
import PyProof.MeetsDictList
import PyProof.MeetsDict
import PyProof.Rows.ListAppend
import PyProof.MeetsIn
import PyProof.FactsAll.list_0
import PyProof.DictTruth
import PyProof.TupleIter
import PyProof.RulesAssignMore
import KE.KDictLaws
import OpenK.KCls
import OpenK.KMake
import OpenK.KWalk
import PyProof.AssignAttr
import KE.KDictSum
import PyProof.Rows.SortStr
import PyProof.Rows.SortWalk
import PyProof.ListCopy
import PyProof.Conv_int_bool
import PyProof.ListMulAny
import PyProof.ListMulRoad
import PyProof.AutoSeq1
import PyProof.WalksEnum
import PyProof.DictDisplay
import PyProof.DictStraight
import PyProof.Rows.StrInSeq3
import PyProof.AttrMissHeap
import KE.KDictOf
import PyProof.MeetsSeq
import PyProof.Draws
import PyProof.DictIter
import PyProof.DictUpdate
import PyProof.NeKinds
import PyProof.DictList
import KE.KItem
import PyProof.Rows.ChunkEnd
import KE.KRevIter
import PyProof.Rows.SeqIn
import PyProof.ZipIter
import PyProof.EqKinds
import PyProof.IsiTupleAll
import PyProof.Rows.TupMore
import PyProof.StationsW
import PyProof.Rows.Own
import PyProof.RangeIter
import PyProof.Rows.MatchSeqLen
import KE.KIsAll
import KE.KTryMore
import PyProof.ExcArgsOwn
import PyProof.RulesAs
import Lean
import PySem.Challenge.RW_uf010025_09
set_option autoImplicit false
set_option linter.all false
set_option Elab.async false
set_option genSizeOf false
set_option bootstrap.genMatcherCode false
set_option tactic.hygienic false
set_option maxRecDepth 100000
set_option compiler.extract_closed false
set_option maxHeartbeats 8000000
namespace Mine
section
open PySem PySem.W PyProof.Rows
namespace Tp
noncomputable def alt : List Obj → List Obj
  | [] => []
  | [a] => [a]
  | a :: _ :: r => a :: alt r
noncomputable def ofL : Nat → List Obj → BT
  | 0, _ => .nil
  | _ + 1, [] => .nil
  | n + 1, a :: r => .node a (ofL n (alt r)) (ofL n (alt r.tail))
noncomputable def life : Life := { }
noncomputable def drawn : Drawn := { }
noncomputable def vs (s : String) (t : Nat) : Value := .str (Str.ofString s) t
noncomputable def vi (k : Int) : Value := .int k 0
noncomputable def de (P : Params) (k : String) (t : Nat) (v : Value) : DictEntry := { hash := PyData.keyHash P (Str.ofString k), key := .str (Str.ofString k) t, val := v }
noncomputable def bp : Obj := { cls := .type "builtin_function_or_method", data := Data.fields #[.builtin "type.__prepare__", .type "type"] }
noncomputable def tp : Obj := { cls := .type "tuple", data := Data.seq #[] }
noncomputable def nf : Obj := { cls := .none, data := Data.fields #[] }
noncomputable def nl (l : List Value) : Obj := { cls := .none, data := Data.fields l.toArray }
noncomputable def di (l : List DictEntry) (k : Nat) : Obj := { cls := .type "dict", data := Data.dict l.toArray k }
noncomputable def co (a : String) (t1 : Nat) (b : String) (t2 t3 t4 : Nat) (l : List Value) : Obj := { cls := .type "code", data := Data.fields ([vs a t1, vs b t2, vs "/claim/cut.py" t3] ++ (l ++ [vs "/claim/cut.py" t4])).toArray }
noncomputable def fm (a b c : Nat) (v : Value) : Obj := { cls := .type "frame", slots := #[some (.ref a), some (.ref b), some (.ref c), none, some v, none, some (.ref 0)] }
noncomputable def tu (l : List Value) : Obj := { cls := .type "tuple", data := Data.seq l.toArray }
noncomputable def ca (a b : String) (t l n u c : Nat) : Obj := co a t b (t + 1) (t + 2) (u + 1) [vi l, vi n, vi 0, vi 0, vi 3, .ref (c - 5), .bool true, vi 181, .ref (c - 4), .none, .ref (c - 3), .ref (c - 2), .ref (c - 1), vi u, vi l]
noncomputable def cb (a b : String) (t l n u c : Nat) : Obj := co a t b (t + 1) (t + 2) (u + 1) [vi l, vi n, vi 0, vi 0, vi 3, .ref (c - 3), .bool true, vi 181, .ref (c - 2), .none, .none, .none, .ref (c - 1), vi u, vi l]
noncomputable def sv (q : String) (m : Value) (c : Nat) (s : Stmt) : FuncData × List Stmt := Stmt.casesOn (motive_2 := fun _ => FuncData × List Stmt) s (fun n a b _ _ _ sc _ _ _ => ({ name := n, qualname := Str.ofString q, params := a, body := .stmts b, scope := sc, globals := 3, closure := [], defaults := .none, kwdefaults := .none, pyModule := m, code := .ref c }, b)) (fun _ _ _ _ _ _ _ _ _ _ => default) (fun _ _ _ b _ _ _ _ _ _ _ => (default, b)) (fun _ _ => default) (fun _ _ => default) (fun _ _ _ => default) (fun _ _ _ _ _ _ _ => default) (fun _ _ _ _ => default) (fun _ _ _ _ _ => default) (fun _ _ _ _ _ => default) (fun _ _ _ _ _ => default) (fun _ _ _ _ => default) (fun _ _ _ _ => default) (fun _ _ _ => default) (fun _ _ _ => default) (fun _ _ _ => default) (fun _ _ _ => default) (fun _ _ _ _ _ => default) (fun _ _ _ _ _ => default) (fun _ _ _ => default) (fun _ _ => default) (fun _ _ _ _ => default) (fun _ _ => default) (fun _ _ => default) (fun _ _ => default) (fun _ => default) (fun _ => default) (fun _ => default)
noncomputable def fu (i : Nat) (j : Option Nat) (q : String) (m : Value) (c : Nat) : Obj := { cls := .type "function", data := .func (match j with
  | none => (sv q m c ((PySem.Challenge.pw_uf010025_09.main.body)[i]?.getD (.Pass ⟨0, 0, 0, 0⟩))).1
  | some j => (sv q m c ((sv q m c ((PySem.Challenge.pw_uf010025_09.main.body)[i]?.getD (.Pass ⟨0, 0, 0, 0⟩))).2[j]?.getD (.Pass ⟨0, 0, 0, 0⟩))).1) }
noncomputable def q1 : Value := vs "pickfloor.stretches" 319
noncomputable def q2 : Value := vs "pickfloor.picks" 356
noncomputable def q3 : Value := vs "pickfloor.reasons" 378
noncomputable def q4 : Value := vs "pickfloor.settling" 416
noncomputable def q5 : Value := vs "pickfloor.shop" 469
noncomputable def q6 : Value := vs "law_uf010025_09" 567
noncomputable def K (P : Params) : W.Frag := [
  (2, { cls := .none, data := Data.dict #[] }),
  (3, di [(de P "__name__" 165 (vs "law_uf010025_09" 567)), (de P "__doc__" 166 .none), (de P "__package__" 167 .none), (de P "__loader__" 168 (.builtin "__main__.__loader__#opaque")), (de P "__spec__" 169 .none), (de P "__annotations__" 170 (.ref 6)), (de P "__builtins__" 171 (.ref 4)), (de P "__file__" 173 (vs "/claim/cut.py" 172)), (de P "__cached__" 174 .none), (de P "PickError" 206 (.ref 24)), (de P "BadWare" 222 (.ref 37)), (de P "BadMake" 238 (.ref 49)), (de P "BadNeed" 254 (.ref 61)), (de P "Twice" 270 (.ref 73)), (de P "Full" 286 (.ref 85)), (de P "NoMake" 302 (.ref 97)), (de P "BadWish" 318 (.ref 109)), (de P "LETTERS" 322 (vs "abcdefghijklmnopqrstuvwxyz" 321)), (de P "MOST_LETTERS" 324 (.int 8 323)), (de P "MOST_MAKE" 326 (.int 999 325)), (de P "is_ware" 332 (.ref 116)), (de P "is_make" 339 (.ref 123)), (de P "is_need" 346 (.ref 130)), (de P "within" 355 (.ref 137)), (de P "MOST_WISHES" 359 (.int 8 358)), (de P "need_wish" 365 (.ref 142)), (de P "agenda_of" 377 (.ref 149)), (de P "is_number" 387 (.ref 156)), (de P "is_granted" 396 (.ref 163)), (de P "stretch_of" 409 (.ref 170)), (de P "left_by" 415 (.ref 175)), (de P "sources_for" 423 (.ref 180)), (de P "clash" 436 (.ref 187)), (de P "outside" 452 (.ref 194)), (de P "settled" 458 (.ref 199)), (de P "settle" 468 (.ref 206)), (de P "MOST_WARES" 472 (.int 12 471)), (de P "MOST_MAKES" 474 (.int 8 473)), (de P "MOST_NEEDS" 476 (.int 6 475)), (de P "need_needs" 486 (.ref 213)), (de P "Shop" 566 (.ref 272)), (de P "_law_mixed" 578 (.ref 283)), (de P "_law_names" 584 (.ref 288)), (de P "_law_stretch" 595 (.ref 295)), (de P "_law_needs" 601 (.ref 300)), (de P "_law_rows" 607 (.ref 305)), (de P "_law_wish" 623 (.ref 312)), (de P "_law_shop" 633 (.ref 319)), (de P "_law_agenda" 639 (.ref 324)), (de P "_law_meets" 652 (.ref 331)), (de P "_law_place" 660 (.ref 338)), (de P "_law_granted" 668 (.ref 345)), (de P "_law_source" 681 (.ref 352)), (de P "_law_holds" 687 (.ref 357)), (de P "_law_against" 693 (.ref 362)), (de P "_law_told" 699 (.ref 367)), (de P "_law_copy" 705 (.ref 372)), (de P "_law_lists" 714 (.ref 379)), (de P "_law_apart" 720 (.ref 384)), (de P "_law_emptied" 728 (.ref 391)), (de P "_law_list_changed" 741 (.ref 398)), (de P "_law_deed" 754 (.ref 405)), (de P "law" 760 (.ref 410))] 63),
  (15, tu [.type "ValueError"]),
  (22, tp),
  (23, di [(de P "__module__" 196 (vs "pickfloor.errors" 187)), (de P "__firstlineno__" 200 (.int 2 199)), (de P "__static_attributes__" 201 (.ref 22)), (de P "__weakref__" 203 (.ref 25)), (de P "__doc__" 204 .none)] 3),
  (24, { cls := .type "type", data := Data.cls { name := Str.ofString "PickError", bases := [.type "ValueError"], mro := [.ref 24, .type "ValueError", .type "Exception", .type "BaseException", .type "object"], ns := 23, qualname := Str.ofString "PickError", subclasses := [.ref 37, .ref 49, .ref 61, .ref 73, .ref 85, .ref 97, .ref 109] }, slots := #[some (.ref 15), none, some (vs "PickError" 189), some (vs "PickError" 197), some (.builtin "ValueError.__new__"), some (.bool true)] }),
  (25, { cls := .type "getset_descriptor", data := Data.fields #[vs "__weakref__" 202, .ref 24, .builtin "ExceptionGroup.__weakref__", .none] }),
  (28, tu [.ref 24]),
  (35, tp),
  (36, di [(de P "__module__" 214 (vs "pickfloor.errors" 187)), (de P "__firstlineno__" 218 (.int 4 217)), (de P "__static_attributes__" 219 (.ref 35)), (de P "__doc__" 220 .none)] 2),
  (37, { cls := .type "type", data := Data.cls { name := Str.ofString "BadWare", bases := [.ref 24], mro := [.ref 37, .ref 24, .type "ValueError", .type "Exception", .type "BaseException", .type "object"], ns := 36, qualname := Str.ofString "BadWare" }, slots := #[some (.ref 28), none, some (vs "BadWare" 207), some (vs "BadWare" 215), some (.builtin "ValueError.__new__"), some (.bool true)] }),
  (40, tu [.ref 24]),
  (47, tp),
  (48, di [(de P "__module__" 230 (vs "pickfloor.errors" 187)), (de P "__firstlineno__" 234 (.int 6 233)), (de P "__static_attributes__" 235 (.ref 47)), (de P "__doc__" 236 .none)] 2),
  (49, { cls := .type "type", data := Data.cls { name := Str.ofString "BadMake", bases := [.ref 24], mro := [.ref 49, .ref 24, .type "ValueError", .type "Exception", .type "BaseException", .type "object"], ns := 48, qualname := Str.ofString "BadMake" }, slots := #[some (.ref 40), none, some (vs "BadMake" 223), some (vs "BadMake" 231), some (.builtin "ValueError.__new__"), some (.bool true)] }),
  (52, tu [.ref 24]),
  (59, tp),
  (60, di [(de P "__module__" 246 (vs "pickfloor.errors" 187)), (de P "__firstlineno__" 250 (.int 8 249)), (de P "__static_attributes__" 251 (.ref 59)), (de P "__doc__" 252 .none)] 2),
  (61, { cls := .type "type", data := Data.cls { name := Str.ofString "BadNeed", bases := [.ref 24], mro := [.ref 61, .ref 24, .type "ValueError", .type "Exception", .type "BaseException", .type "object"], ns := 60, qualname := Str.ofString "BadNeed" }, slots := #[some (.ref 52), none, some (vs "BadNeed" 239), some (vs "BadNeed" 247), some (.builtin "ValueError.__new__"), some (.bool true)] }),
  (64, tu [.ref 24]),
  (71, tp),
  (72, di [(de P "__module__" 262 (vs "pickfloor.errors" 187)), (de P "__firstlineno__" 266 (.int 10 265)), (de P "__static_attributes__" 267 (.ref 71)), (de P "__doc__" 268 .none)] 2),
  (73, { cls := .type "type", data := Data.cls { name := Str.ofString "Twice", bases := [.ref 24], mro := [.ref 73, .ref 24, .type "ValueError", .type "Exception", .type "BaseException", .type "object"], ns := 72, qualname := Str.ofString "Twice" }, slots := #[some (.ref 64), none, some (vs "Twice" 255), some (vs "Twice" 263), some (.builtin "ValueError.__new__"), some (.bool true)] }),
  (76, tu [.ref 24]),
  (83, tp),
  (84, di [(de P "__module__" 278 (vs "pickfloor.errors" 187)), (de P "__firstlineno__" 282 (.int 12 281)), (de P "__static_attributes__" 283 (.ref 83)), (de P "__doc__" 284 .none)] 2),
  (85, { cls := .type "type", data := Data.cls { name := Str.ofString "Full", bases := [.ref 24], mro := [.ref 85, .ref 24, .type "ValueError", .type "Exception", .type "BaseException", .type "object"], ns := 84, qualname := Str.ofString "Full" }, slots := #[some (.ref 76), none, some (vs "Full" 271), some (vs "Full" 279), some (.builtin "ValueError.__new__"), some (.bool true)] }),
  (88, tu [.ref 24]),
  (95, tp),
  (96, di [(de P "__module__" 294 (vs "pickfloor.errors" 187)), (de P "__firstlineno__" 298 (.int 14 297)), (de P "__static_attributes__" 299 (.ref 95)), (de P "__doc__" 300 .none)] 2),
  (97, { cls := .type "type", data := Data.cls { name := Str.ofString "NoMake", bases := [.ref 24], mro := [.ref 97, .ref 24, .type "ValueError", .type "Exception", .type "BaseException", .type "object"], ns := 96, qualname := Str.ofString "NoMake" }, slots := #[some (.ref 88), none, some (vs "NoMake" 287), some (vs "NoMake" 295), some (.builtin "ValueError.__new__"), some (.bool true)] }),
  (100, tu [.ref 24]),
  (107, tp),
  (108, di [(de P "__module__" 310 (vs "pickfloor.errors" 187)), (de P "__firstlineno__" 314 (.int 16 313)), (de P "__static_attributes__" 315 (.ref 107)), (de P "__doc__" 316 .none)] 2),
  (109, { cls := .type "type", data := Data.cls { name := Str.ofString "BadWish", bases := [.ref 24], mro := [.ref 109, .ref 24, .type "ValueError", .type "Exception", .type "BaseException", .type "object"], ns := 108, qualname := Str.ofString "BadWish" }, slots := #[some (.ref 100), none, some (vs "BadWish" 303), some (vs "BadWish" 311), some (.builtin "ValueError.__new__"), some (.bool true)] }),
  (112, tp),
  (115, cb "is_ware" "is_ware" 327 22 1 330 115),
  (116, fu 13 none "is_ware" q1 115),
  (117, tp),
  (119, tu [vs "thing" 336]),
  (120, tp),
  (122, ca "is_make" "is_make" 333 26 1 337 122),
  (123, fu 14 none "is_make" q1 122),
  (124, tp),
  (126, tu [vs "thing" 343]),
  (127, tp),
  (129, ca "is_need" "is_need" 340 28 1 344 129),
  (130, fu 15 none "is_need" q1 129),
  (131, tp),
  (133, tu [vs "make" 350, vs "low" 351, vs "high" 352]),
  (134, tp),
  (136, ca "within" "within" 347 32 3 353 136),
  (137, fu 16 none "within" q1 136),
  (138, tp),
  (141, cb "need_wish" "need_wish" 360 36 1 363 141),
  (142, fu 19 none "need_wish" q2 141),
  (143, tp),
  (145, tu [vs "shop" 369, vs "wish" 370, vs "pick" 371, vs "found" 372, vs "need" 373, vs "at" 374]),
  (146, tp),
  (148, ca "agenda_of" "agenda_of" 366 39 3 375 148),
  (149, fu 20 none "agenda_of" q2 148),
  (150, tp),
  (152, tu [vs "thing" 383, vs "many" 384]),
  (153, tp),
  (155, ca "is_number" "is_number" 380 53 2 385 155),
  (156, fu 22 none "is_number" q3 155),
  (157, tp),
  (159, tu [vs "granted" 391, vs "ware" 392, vs "make" 393]),
  (160, tp),
  (162, ca "is_granted" "is_granted" 388 55 3 394 162),
  (163, fu 23 none "is_granted" q3 162),
  (164, tp),
  (166, tu [vs "shop" 400, vs "wish" 401, vs "granted" 402, vs "ware" 403, vs "source" 404, vs "need" 405, vs "needs" 406]),
  (167, tp),
  (169, ca "stretch_of" "stretch_of" 397 57 5 407 169),
  (170, fu 24 none "stretch_of" q3 169),
  (171, tp),
  (174, cb "left_by" "left_by" 410 72 3 413 174),
  (175, fu 25 none "left_by" q3 174),
  (176, tp),
  (179, cb "sources_for" "sources_for" 418 79 4 421 179),
  (180, fu 27 none "sources_for" q4 179),
  (181, tp),
  (183, tu [vs "shop" 427, vs "pairs" 428, vs "picked" 429, vs "ware" 430, vs "make" 431, vs "k" 432, vs "need" 433]),
  (184, tp),
  (186, ca "clash" "clash" 424 86 2 434 186),
  (187, fu 28 none "clash" q4 186),
  (188, tp),
  (190, tu [vs "shop" 440, vs "wish" 441, vs "pairs" 442, vs "ware" 443, vs "make" 444, vs "sources" 445, vs "granted" 446, vs "source" 447, vs "low" 448, vs "high" 449]),
  (191, tp),
  (193, ca "outside" "outside" 437 93 6 450 193),
  (194, fu 29 none "outside" q4 193),
  (195, tp),
  (198, cb "settled" "settled" 453 100 3 456 198),
  (199, fu 30 none "settled" q4 198),
  (200, tp),
  (202, tu [vs "shop" 462, vs "wish" 463, vs "found" 464, vs "reason" 465]),
  (203, tp),
  (205, ca "settle" "settle" 459 121 2 466 205),
  (206, fu 31 none "settle" q4 205),
  (207, tp),
  (209, tu [vs "ware" 480, vs "needs" 481, vs "met" 482, vs "need" 483]),
  (210, tp),
  (212, ca "need_needs" "need_needs" 477 131 2 484 212),
  (213, fu 36 none "need_needs" q5 212),
  (221, tp),
  (223, tu [vs "self" 502]),
  (224, tp),
  (226, ca "__init__" "Shop.__init__" 499 141 1 503 226),
  (227, fu 37 (some 0) "Shop.__init__" q5 226),
  (228, tp),
  (230, tu [vs "self" 509, vs "ware" 510, vs "make" 511]),
  (231, tp),
  (233, ca "has" "Shop.has" 506 144 3 512 233),
  (234, fu 37 (some 1) "Shop.has" q5 233),
  (235, tp),
  (237, tu [vs "self" 518, vs "ware" 519, vs "make" 520, vs "needs" 521]),
  (238, tp),
  (240, ca "put" "Shop.put" 515 147 4 522 240),
  (241, fu 37 (some 2) "Shop.put" q5 240),
  (242, tp),
  (244, tu [vs "self" 528, vs "ware" 529, vs "make" 530]),
  (245, tp),
  (247, ca "take" "Shop.take" 525 161 3 531 247),
  (248, fu 37 (some 3) "Shop.take" q5 247),
  (249, tp),
  (251, tu [vs "self" 537, vs "ware" 538]),
  (252, tp),
  (254, ca "makes" "Shop.makes" 534 168 2 539 254),
  (255, fu 37 (some 4) "Shop.makes" q5 254),
  (256, tp),
  (258, tu [vs "self" 545, vs "ware" 546, vs "make" 547]),
  (259, tp),
  (261, ca "needs" "Shop.needs" 542 173 3 548 261),
  (262, fu 37 (some 5) "Shop.needs" q5 261),
  (263, tp),
  (265, tu [vs "self" 554]),
  (266, tp),
  (268, ca "wares" "Shop.wares" 551 178 1 555 268),
  (269, fu 37 (some 6) "Shop.wares" q5 268),
  (270, tu [vs "kept" 558]),
  (271, di [(de P "__module__" 494 (vs "pickfloor.shop" 469)), (de P "__firstlineno__" 498 (.int 139 497)), (de P "__init__" 505 (.ref 227)), (de P "has" 514 (.ref 234)), (de P "put" 524 (.ref 241)), (de P "take" 533 (.ref 248)), (de P "makes" 541 (.ref 255)), (de P "needs" 550 (.ref 262)), (de P "wares" 557 (.ref 269)), (de P "__static_attributes__" 559 (.ref 270)), (de P "__dict__" 561 (.ref 273)), (de P "__weakref__" 563 (.ref 274)), (de P "__doc__" 564 .none)] 4),
  (272, { cls := .type "type", data := Data.cls { name := Str.ofString "Shop", bases := [.type "object"], mro := [.ref 272, .type "object"], ns := 271, qualname := Str.ofString "Shop" }, slots := #[none, none, some (vs "Shop" 487), some (vs "Shop" 495), some (.builtin "object.__new__"), some (.bool true)] }),
  (273, { cls := .type "getset_descriptor", data := Data.fields #[vs "__dict__" 560, .ref 272, .builtin "function.__dict__", .builtin "function.__dict__#set"] }),
  (274, { cls := .type "getset_descriptor", data := Data.fields #[vs "__weakref__" 562, .ref 272, .builtin "ExceptionGroup.__weakref__", .none] }),
  (277, tp),
  (279, tu [vs "_law_script" 572, vs "_law_k" 573, vs "_law_cell" 574, vs "_law_number" 575]),
  (280, tp),
  (282, ca "_law_mixed" "_law_mixed" 569 181 2 576 282),
  (283, fu 39 none "_law_mixed" q6 282),
  (284, tp),
  (287, cb "_law_names" "_law_names" 579 187 2 582 287),
  (288, fu 40 none "_law_names" q6 287),
  (289, tp),
  (291, tu [vs "_law_number" 588, vs "_law_makes" 589, vs "_law_one" 590, vs "_law_other" 591, vs "_law_way" 592]),
  (292, tp),
  (294, ca "_law_stretch" "_law_stretch" 585 200 2 593 294),
  (295, fu 41 none "_law_stretch" q6 294),
  (296, tp),
  (299, cb "_law_needs" "_law_needs" 596 215 5 599 299),
  (300, fu 42 none "_law_needs" q6 299),
  (301, tp),
  (304, cb "_law_rows" "_law_rows" 602 227 3 605 304),
  (305, fu 43 none "_law_rows" q6 304),
  (306, tp),
  (308, tu [vs "_law_script" 611, vs "_law_rows_here" 612, vs "_law_most" 613, vs "_law_names_here" 614, vs "_law_found" 615, vs "_law_number" 616, vs "_law_turn" 617, vs "_law_name" 618, vs "_law_low" 619, vs "_law_high" 620]),
  (309, tp),
  (311, ca "_law_wish" "_law_wish" 608 241 3 621 311),
  (312, fu 44 none "_law_wish" q6 311),
  (313, tp),
  (315, tu [vs "_law_rows_here" 627, vs "_law_shop_here" 628, vs "_law_ware" 629, vs "_law_make" 630]),
  (316, tp),
  (318, ca "_law_shop" "_law_shop" 624 253 1 631 318),
  (319, fu 45 none "_law_shop" q6 318),
  (320, tp),
  (323, cb "_law_agenda" "_law_agenda" 634 259 3 637 323),
  (324, fu 46 none "_law_agenda" q6 323),
  (325, tp),
  (327, tu [vs "_law_rows_here" 643, vs "_law_wish_here" 644, vs "_law_pick" 645, vs "_law_needs_here" 646, vs "_law_ware" 647, vs "_law_low" 648, vs "_law_high" 649]),
  (328, tp),
  (330, ca "_law_meets" "_law_meets" 640 269 3 650 330),
  (331, fu 47 none "_law_meets" q6 330),
  (332, tp),
  (334, tu [vs "_law_thing" 656, vs "_law_many" 657]),
  (335, tp),
  (337, ca "_law_place" "_law_place" 653 277 2 658 337),
  (338, fu 48 none "_law_place" q6 337),
  (339, tp),
  (341, tu [vs "_law_granted_here" 664, vs "_law_source_here" 665]),
  (342, tp),
  (344, ca "_law_granted" "_law_granted" 661 279 2 666 344),
  (345, fu 49 none "_law_granted" q6 344),
  (346, tp),
  (348, tu [vs "_law_rows_here" 672, vs "_law_wish_here" 673, vs "_law_granted_here" 674, vs "_law_ware" 675, vs "_law_source_here" 676, vs "_law_need" 677, vs "_law_needs_here" 678]),
  (349, tp),
  (351, ca "_law_source" "_law_source" 669 283 5 679 351),
  (352, fu 50 none "_law_source" q6 351),
  (353, tp),
  (356, cb "_law_holds" "_law_holds" 682 298 4 685 356),
  (357, fu 51 none "_law_holds" q6 356),
  (358, tp),
  (361, cb "_law_against" "_law_against" 688 319 4 691 361),
  (362, fu 52 none "_law_against" q6 361),
  (363, tp),
  (366, cb "_law_told" "_law_told" 694 334 3 697 366),
  (367, fu 53 none "_law_told" q6 366),
  (368, tp),
  (371, cb "_law_copy" "_law_copy" 700 352 1 703 371),
  (372, fu 54 none "_law_copy" q6 371),
  (373, tp),
  (375, tu [vs "_law_thing" 709, vs "_law_found" 710, vs "_law_part" 711]),
  (376, tp),
  (378, ca "_law_lists" "_law_lists" 706 357 1 712 378),
  (379, fu 55 none "_law_lists" q6 378),
  (380, tp),
  (383, cb "_law_apart" "_law_apart" 715 365 1 718 383),
  (384, fu 56 none "_law_apart" q6 383),
  (385, tp),
  (387, tu [vs "_law_thing" 724, vs "_law_part" 725]),
  (388, tp),
  (390, ca "_law_emptied" "_law_emptied" 721 371 1 726 390),
  (391, fu 57 none "_law_emptied" q6 390),
  (392, tp),
  (394, tu [vs "_law_shop_here" 732, vs "_law_rows_here" 733, vs "_law_handed" 734, vs "_law_number" 735, vs "_law_need" 736, vs "_law_good" 737, vs "_law_ware" 738]),
  (395, tp),
  (397, ca "_law_list_changed" "_law_list_changed" 729 377 4 739 397),
  (398, fu 58 none "_law_list_changed" q6 397),
  (399, tp),
  (401, tu [vs "_law_shop_here" 745, vs "_law_rows_here" 746, vs "_law_number" 747, vs "_law_ware" 748, vs "_law_makes" 749, vs "_law_make" 750, vs "_law_needs_here" 751]),
  (402, tp),
  (404, ca "_law_deed" "_law_deed" 742 388 3 752 404),
  (405, fu 59 none "_law_deed" q6 404),
  (406, tp),
  (409, cb "law" "law" 755 403 1 758 409),
  (410, fu 60 none "law" q6 409)]
noncomputable def asL : List Addr := [2, 3, 15, 22, 23, 24, 25, 28, 35, 36, 37, 40, 47, 48, 49, 52, 59, 60, 61, 64, 71, 72, 73, 76, 83, 84, 85, 88, 95, 96, 97, 100, 107, 108, 109, 112, 115, 116, 117, 119, 120, 122, 123, 124, 126, 127, 129, 130, 131, 133, 134, 136, 137, 138, 141, 142, 143, 145, 146, 148, 149, 150, 152, 153, 155, 156, 157, 159, 160, 162, 163, 164, 166, 167, 169, 170, 171, 174, 175, 176, 179, 180, 181, 183, 184, 186, 187, 188, 190, 191, 193, 194, 195, 198, 199, 200, 202, 203, 205, 206, 207, 209, 210, 212, 213, 221, 223, 224, 226, 227, 228, 230, 231, 233, 234, 235, 237, 238, 240, 241, 242, 244, 245, 247, 248, 249, 251, 252, 254, 255, 256, 258, 259, 261, 262, 263, 265, 266, 268, 269, 270, 271, 272, 273, 274, 277, 279, 280, 282, 283, 284, 287, 288, 289, 291, 292, 294, 295, 296, 299, 300, 301, 304, 305, 306, 308, 309, 311, 312, 313, 315, 316, 318, 319, 320, 323, 324, 325, 327, 328, 330, 331, 332, 334, 335, 337, 338, 339, 341, 342, 344, 345, 346, 348, 349, 351, 352, 353, 356, 357, 358, 361, 362, 363, 366, 367, 368, 371, 372, 373, 375, 376, 378, 379, 380, 383, 384, 385, 387, 388, 390, 391, 392, 394, 395, 397, 398, 399, 401, 402, 404, 405, 406, 409, 410]
noncomputable def o (k : Nat) (P : Params) : Obj := (((K P)[k]?).map (·.2)).getD default
noncomputable def fo (k : Nat) (P : Params) : FuncData := match (o k P).data with | .func f => f | _ => default
noncomputable def fz (k : Nat) (P : Params) : Obj := { cls := .none, dict := none, data := Data.func { fo k P with globals := 0, pyModule := .none, code := .none }, slots := #[] }
noncomputable def su (k : Nat) : Obj := { cls := .type "super", data := Data.fields #[.ref k, .ref k, .ref k] }
noncomputable def bi (k : Nat) : Obj := { cls := .type "builtin_function_or_method", data := Data.fields #[.builtin "object.__init_subclass__", .ref k] }
noncomputable def xs (P : Params) : List Obj := [
  tp,
  nf,
  co "<module>" 182 "<module>" 183 184 186 [vi 1, vi 0, vi 0, vi 0, vi 0, .ref 11, .bool false, vi 181, .ref 12, .none, .none, .none, .none, vi 185, vi 1],
  fm 13 3 3 (vs "__main__" 164),
  di [(de P "__name__" 165 (vs "pickfloor.errors" 187)), (de P "__doc__" 166 .none), (de P "__package__" 167 .none), (de P "__loader__" 168 (.builtin "__main__.__loader__#opaque")), (de P "__spec__" 169 .none), (de P "__annotations__" 170 (.ref 6)), (de P "__builtins__" 171 (.ref 4)), (de P "__file__" 173 (vs "/claim/cut.py" 172)), (de P "__cached__" 174 .none), (de P "PickError" 206 (.ref 24)), (de P "BadWare" 222 (.ref 37)), (de P "BadMake" 238 (.ref 49)), (de P "BadNeed" 254 (.ref 61)), (de P "Twice" 270 (.ref 73))] 14,
  nl [vi 2, vi 0, .ref 20, vi 4, vi 0, .ref 33, vi 6, vi 0, .ref 45, vi 8, vi 0, .ref 57, vi 10, vi 0, .ref 69],
  bp,
  di [(de P "__module__" 196 (vs "pickfloor.errors" 187)), (de P "__qualname__" 198 (vs "PickError" 197)), (de P "__firstlineno__" 200 (Value.int 2 199)), (de P "__static_attributes__" 201 (.ref 22))] 4,
  tp,
  nf,
  co "PickError" 191 "PickError" 192 193 195 [vi 2, vi 0, vi 0, vi 0, vi 0, .ref 18, .bool false, vi 181, .ref 19, .none, .none, .none, .none, vi 194, vi 2],
  fm 20 3 17 (vs "pickfloor.errors" 187),
  { cls := .type "type", data := Data.cls { name := Str.ofString "PickError", bases := [.type "ValueError"], mro := [.ref 24, .type "ValueError", .type "Exception", .type "BaseException", .type "object"], ns := 23, qualname := Str.ofString "PickError", subclasses := [.ref 37, .ref 49, .ref 61, .ref 73] }, slots := #[some (.ref 15), none, some (vs "PickError" 189), some (vs "PickError" 197), some (.builtin "ValueError.__new__"), some (.bool true)] },
  su 24,
  bi 24,
  bp,
  di [(de P "__module__" 214 (vs "pickfloor.errors" 187)), (de P "__qualname__" 216 (vs "BadWare" 215)), (de P "__firstlineno__" 218 (Value.int 4 217)), (de P "__static_attributes__" 219 (.ref 35))] 4,
  tp,
  nf,
  co "BadWare" 209 "BadWare" 210 211 213 [vi 4, vi 0, vi 0, vi 0, vi 0, .ref 31, .bool false, vi 181, .ref 32, .none, .none, .none, .none, vi 212, vi 4],
  fm 33 3 30 (vs "pickfloor.errors" 187),
  su 37,
  bi 37,
  bp,
  di [(de P "__module__" 230 (vs "pickfloor.errors" 187)), (de P "__qualname__" 232 (vs "BadMake" 231)), (de P "__firstlineno__" 234 (Value.int 6 233)), (de P "__static_attributes__" 235 (.ref 47))] 4,
  tp,
  nf,
  co "BadMake" 225 "BadMake" 226 227 229 [vi 6, vi 0, vi 0, vi 0, vi 0, .ref 43, .bool false, vi 181, .ref 44, .none, .none, .none, .none, vi 228, vi 6],
  fm 45 3 42 (vs "pickfloor.errors" 187),
  su 49,
  bi 49,
  bp,
  di [(de P "__module__" 246 (vs "pickfloor.errors" 187)), (de P "__qualname__" 248 (vs "BadNeed" 247)), (de P "__firstlineno__" 250 (Value.int 8 249)), (de P "__static_attributes__" 251 (.ref 59))] 4,
  tp,
  nf,
  co "BadNeed" 241 "BadNeed" 242 243 245 [vi 8, vi 0, vi 0, vi 0, vi 0, .ref 55, .bool false, vi 181, .ref 56, .none, .none, .none, .none, vi 244, vi 8],
  fm 57 3 54 (vs "pickfloor.errors" 187),
  su 61,
  bi 61,
  bp,
  di [(de P "__module__" 262 (vs "pickfloor.errors" 187)), (de P "__qualname__" 264 (vs "Twice" 263)), (de P "__firstlineno__" 266 (Value.int 10 265)), (de P "__static_attributes__" 267 (.ref 71))] 4,
  tp,
  nf,
  co "Twice" 257 "Twice" 258 259 261 [vi 10, vi 0, vi 0, vi 0, vi 0, .ref 67, .bool false, vi 181, .ref 68, .none, .none, .none, .none, vi 260, vi 10],
  fm 69 3 66 (vs "pickfloor.errors" 187),
  su 73,
  bi 73,
  di [(de P "__name__" 165 (vs "pickfloor.shop" 469)), (de P "__doc__" 166 .none), (de P "__package__" 167 .none), (de P "__loader__" 168 (.builtin "__main__.__loader__#opaque")), (de P "__spec__" 169 .none), (de P "__annotations__" 170 (.ref 6)), (de P "__builtins__" 171 (.ref 4)), (de P "__file__" 173 (vs "/claim/cut.py" 172)), (de P "__cached__" 174 .none), (de P "PickError" 206 (.ref 24)), (de P "BadWare" 222 (.ref 37)), (de P "BadMake" 238 (.ref 49)), (de P "BadNeed" 254 (.ref 61)), (de P "Twice" 270 (.ref 73)), (de P "Full" 286 (.ref 85)), (de P "NoMake" 302 (.ref 97)), (de P "BadWish" 318 (.ref 109)), (de P "LETTERS" 322 (vs "abcdefghijklmnopqrstuvwxyz" 321)), (de P "MOST_LETTERS" 324 (Value.int 8 323)), (de P "MOST_MAKE" 326 (Value.int 999 325)), (de P "is_ware" 332 (.ref 116)), (de P "is_make" 339 (.ref 123)), (de P "is_need" 346 (.ref 130)), (de P "within" 355 (.ref 137)), (de P "MOST_WISHES" 359 (Value.int 8 358)), (de P "need_wish" 365 (.ref 142)), (de P "agenda_of" 377 (.ref 149)), (de P "is_number" 387 (.ref 156)), (de P "is_granted" 396 (.ref 163)), (de P "stretch_of" 409 (.ref 170)), (de P "left_by" 415 (.ref 175)), (de P "sources_for" 423 (.ref 180)), (de P "clash" 436 (.ref 187)), (de P "outside" 452 (.ref 194)), (de P "settled" 458 (.ref 199)), (de P "settle" 468 (.ref 206)), (de P "MOST_WARES" 472 (Value.int 12 471)), (de P "MOST_MAKES" 474 (Value.int 8 473))] 38,
  nl [vi 2, vi 0, .ref 20, vi 4, vi 0, .ref 33, vi 6, vi 0, .ref 45, vi 8, vi 0, .ref 57, vi 10, vi 0, .ref 69, vi 12, vi 0, .ref 81, vi 14, vi 0, .ref 93, vi 16, vi 0, .ref 105, vi 22, vi 0, .ref 115, vi 26, vi 0, .ref 122, vi 28, vi 0, .ref 129, vi 32, vi 0, .ref 136, vi 36, vi 0, .ref 141, vi 39, vi 0, .ref 148, vi 53, vi 0, .ref 155, vi 55, vi 0, .ref 162, vi 57, vi 0, .ref 169, vi 72, vi 0, .ref 174, vi 79, vi 0, .ref 179, vi 86, vi 0, .ref 186, vi 93, vi 0, .ref 193, vi 100, vi 0, .ref 198, vi 121, vi 0, .ref 205],
  bp,
  di [(de P "__module__" 278 (vs "pickfloor.errors" 187)), (de P "__qualname__" 280 (vs "Full" 279)), (de P "__firstlineno__" 282 (Value.int 12 281)), (de P "__static_attributes__" 283 (.ref 83))] 4,
  tp,
  nf,
  co "Full" 273 "Full" 274 275 277 [vi 12, vi 0, vi 0, vi 0, vi 0, .ref 79, .bool false, vi 181, .ref 80, .none, .none, .none, .none, vi 276, vi 12],
  fm 81 3 78 (vs "pickfloor.errors" 187),
  su 85,
  bi 85,
  bp,
  di [(de P "__module__" 294 (vs "pickfloor.errors" 187)), (de P "__qualname__" 296 (vs "NoMake" 295)), (de P "__firstlineno__" 298 (Value.int 14 297)), (de P "__static_attributes__" 299 (.ref 95))] 4,
  tp,
  nf,
  co "NoMake" 289 "NoMake" 290 291 293 [vi 14, vi 0, vi 0, vi 0, vi 0, .ref 91, .bool false, vi 181, .ref 92, .none, .none, .none, .none, vi 292, vi 14],
  fm 93 3 90 (vs "pickfloor.errors" 187),
  su 97,
  bi 97,
  bp,
  di [(de P "__module__" 310 (vs "pickfloor.errors" 187)), (de P "__qualname__" 312 (vs "BadWish" 311)), (de P "__firstlineno__" 314 (Value.int 16 313)), (de P "__static_attributes__" 315 (.ref 107))] 4,
  tp,
  nf,
  co "BadWish" 305 "BadWish" 306 307 309 [vi 16, vi 0, vi 0, vi 0, vi 0, .ref 103, .bool false, vi 181, .ref 104, .none, .none, .none, .none, vi 308, vi 16],
  fm 105 3 102 (vs "pickfloor.errors" 187),
  su 109,
  bi 109,
  nf,
  fz 37 P,
  nf,
  fz 42 P,
  nf,
  fz 47 P,
  nf,
  fz 52 P,
  nf,
  fz 55 P,
  nf,
  fz 60 P,
  nf,
  fz 65 P,
  nf,
  fz 70 P,
  nf,
  fz 75 P,
  nf,
  fz 78 P,
  nf,
  fz 81 P,
  nf,
  fz 86 P,
  nf,
  fz 91 P,
  nf,
  fz 94 P,
  nf,
  fz 99 P,
  nl [vi 2, vi 0, .ref 20, vi 4, vi 0, .ref 33, vi 6, vi 0, .ref 45, vi 8, vi 0, .ref 57, vi 10, vi 0, .ref 69, vi 12, vi 0, .ref 81, vi 14, vi 0, .ref 93, vi 16, vi 0, .ref 105, vi 22, vi 0, .ref 115, vi 26, vi 0, .ref 122, vi 28, vi 0, .ref 129, vi 32, vi 0, .ref 136, vi 36, vi 0, .ref 141, vi 39, vi 0, .ref 148, vi 53, vi 0, .ref 155, vi 55, vi 0, .ref 162, vi 57, vi 0, .ref 169, vi 72, vi 0, .ref 174, vi 79, vi 0, .ref 179, vi 86, vi 0, .ref 186, vi 93, vi 0, .ref 193, vi 100, vi 0, .ref 198, vi 121, vi 0, .ref 205, vi 131, vi 0, .ref 212, vi 139, vi 0, .ref 219, vi 181, vi 0, .ref 282, vi 187, vi 0, .ref 287, vi 200, vi 0, .ref 294, vi 215, vi 0, .ref 299, vi 227, vi 0, .ref 304, vi 241, vi 0, .ref 311, vi 253, vi 0, .ref 318, vi 259, vi 0, .ref 323, vi 269, vi 0, .ref 330, vi 277, vi 0, .ref 337, vi 279, vi 0, .ref 344, vi 283, vi 0, .ref 351, vi 298, vi 0, .ref 356, vi 319, vi 0, .ref 361, vi 334, vi 0, .ref 366, vi 352, vi 0, .ref 371, vi 357, vi 0, .ref 378, vi 365, vi 0, .ref 383, vi 371, vi 0, .ref 390, vi 377, vi 0, .ref 397, vi 388, vi 0, .ref 404, vi 403, vi 0, .ref 409],
  nf,
  fz 104 P,
  tp,
  bp,
  di [(de P "__module__" 494 (vs "pickfloor.shop" 469)), (de P "__qualname__" 496 (vs "Shop" 495)), (de P "__firstlineno__" 498 (Value.int 139 497)), (de P "__init__" 505 (.ref 227)), (de P "has" 514 (.ref 234)), (de P "put" 524 (.ref 241)), (de P "take" 533 (.ref 248)), (de P "makes" 541 (.ref 255)), (de P "needs" 550 (.ref 262)), (de P "wares" 557 (.ref 269)), (de P "__static_attributes__" 559 (.ref 270))] 11,
  tp,
  nl [vi 141, vi 4, .ref 226, vi 144, vi 4, .ref 233, vi 147, vi 4, .ref 240, vi 161, vi 4, .ref 247, vi 168, vi 4, .ref 254, vi 173, vi 4, .ref 261, vi 178, vi 4, .ref 268],
  co "Shop" 489 "Shop" 490 491 493 [vi 139, vi 0, vi 0, vi 0, vi 0, .ref 217, .bool false, vi 181, .ref 218, .none, .none, .none, .none, vi 492, vi 139],
  fm 219 3 216 (vs "pickfloor.shop" 469),
  nf,
  fz 109 P,
  nf,
  fz 114 P,
  nf,
  fz 119 P,
  nf,
  fz 124 P,
  nf,
  fz 129 P,
  nf,
  fz 134 P,
  nf,
  fz 139 P,
  su 272,
  bi 272,
  nf,
  fz 149 P,
  nf,
  fz 152 P,
  nf,
  fz 157 P,
  nf,
  fz 160 P,
  nf,
  fz 163 P,
  nf,
  fz 168 P,
  nf,
  fz 173 P,
  nf,
  fz 176 P,
  nf,
  fz 181 P,
  nf,
  fz 186 P,
  nf,
  fz 191 P,
  nf,
  fz 196 P,
  nf,
  fz 199 P,
  nf,
  fz 202 P,
  nf,
  fz 205 P,
  nf,
  fz 208 P,
  nf,
  fz 213 P,
  nf,
  fz 216 P,
  nf,
  fz 221 P,
  nf,
  fz 226 P,
  nf,
  fz 231 P,
  nf,
  fz 234 P]
noncomputable def x (k : Nat) (P : Params) : Obj := ((xs P)[k]?).getD default
noncomputable def bo (P : Params) : List Obj := [boot_o_0 P, boot_o_1 P, boot_o_2 P, boot_o_3 P, boot_o_4 P, boot_o_5 P, boot_o_6 P, boot_o_7 P, boot_o_8 P, boot_o_9 P, boot_o_10 P]
noncomputable def ob (P : Params) (k : Nat) : Obj := cond (Nat.blt k 1000) (o k P) (cond (Nat.blt k 2000) (x (k - 1000) P) (((bo P)[k - 2000]?).getD default))
noncomputable def up (l : List Nat) : List (Nat × Nat) → List Nat
  | [] => l
  | p :: r => up (l.set p.1 p.2) r
noncomputable def lsa : List Nat := [2000, 2001, 2002, 2003, 2004, 2005, 2006, 2007, 2008, 2009, 2010, 1000, 1001, 1002, 1003]
noncomputable def ls1 : List Nat := up lsa [(3, 1004), (12, 1005)] ++ [2, 1006, 1007, 1008, 1009, 1010, 1011, 3, 4, 1012, 6, 1013, 1014, 7, 1015, 1016, 1017, 1018, 1019, 1020, 8, 9, 10, 1021, 1022, 11, 1023, 1024, 1025, 1026, 1027, 1028, 12, 13, 14, 1029, 1030, 15, 1031, 1032, 1033, 1034, 1035, 1036, 16, 17, 18, 1037, 1038, 19, 1039, 1040, 1041, 1042, 1043, 1044, 20, 21, 22, 1045, 1046]
noncomputable def ls2 : List Nat := up ls1 [(3, 1047), (12, 1048), (24, 5)] ++ [23, 1049, 1050, 1051, 1052, 1053, 1054, 24, 25, 26, 1055, 1056, 27, 1057, 1058, 1059, 1060, 1061, 1062, 28, 29, 30, 1063, 1064, 31, 1065, 1066, 1067, 1068, 1069, 1070, 32, 33, 34, 1071, 1072, 35, 1073, 1074, 36, 37, 38, 1075, 39, 40, 1076, 41, 42, 43, 1077, 44, 45, 1078, 46, 47, 48, 1079, 49, 50, 1080, 51, 52, 53, 1081, 1082, 54, 55, 56, 1083, 57, 58, 1084, 59, 60, 61, 1085, 62, 63, 1086, 64, 65, 66, 1087, 67, 68, 1088, 69, 70, 71, 1089, 72, 73, 1090, 74, 75, 76, 1091, 1092, 77, 78, 79, 1093, 1094, 80, 81, 82, 1095, 83, 84, 1096, 85, 86, 87, 1097, 88, 89, 1098, 90, 91, 92, 1099, 1100, 93, 94, 95, 1101, 96, 97, 1102, 98, 99]
noncomputable def ls3 : List Nat := up ls2 [(3, 1), (12, 1103)] ++ [100, 1104, 101, 102, 1105, 103, 104, 1106, 1107, 1108, 1109, 1110, 1111, 1112, 105, 1113, 106, 107, 1114, 108, 109, 110, 1115, 111, 112, 1116, 113, 114, 115, 1117, 116, 117, 1118, 118, 119, 120, 1119, 121, 122, 1120, 123, 124, 125, 1121, 126, 127, 1122, 128, 129, 130, 1123, 131, 132, 1124, 133, 134, 135, 1125, 136, 137, 1126, 138, 139, 140, 141, 142, 143, 144, 1127, 1128, 145, 1129, 146, 147, 1130, 148, 149, 150, 1131, 1132, 151, 152, 153, 1133, 154, 155, 1134, 156, 157, 158, 1135, 1136, 159, 160, 161, 1137, 1138, 162, 163, 164, 1139, 165, 166, 1140, 167, 168, 169, 1141, 170, 171, 1142, 172, 173, 174, 1143, 1144, 175, 176, 177, 1145, 178, 179, 1146, 180, 181, 182, 1147, 183, 184, 1148, 185, 186, 187, 1149, 188, 189, 1150, 190, 191, 192, 1151, 193, 194, 1152, 195, 196, 197, 1153, 1154, 198, 199, 200, 1155, 1156, 201, 202, 203, 1157, 1158, 204, 205, 206, 1159, 1160, 207, 208, 209, 1161, 210, 211, 1162, 212, 213, 214, 1163, 1164, 215, 216, 217, 1165, 218, 219, 1166, 220, 221, 222, 1167, 223, 224, 1168, 225, 226, 227, 1169, 228, 229, 1170, 230, 231, 232, 1171, 1172, 233, 234]
noncomputable def sa (P : Params) : BT := ofL 400 (lsa.map (ob P))
noncomputable def sb (P : Params) : BT := ofL 400 (lsa.map (ob P))
noncomputable def s1 (P : Params) : BT := ofL 400 (ls1.map (ob P))
noncomputable def s2 (P : Params) : BT := ofL 400 (ls2.map (ob P))
noncomputable def s3 (P : Params) : BT := ofL 400 (ls3.map (ob P))
noncomputable def last (P : Params) : Heap := ⟨⟨ls3.map (ob P)⟩, life⟩
noncomputable def env : Env := { scope := PySem.Challenge.pw_uf010025_09.main.scope, locals := mainNs, globals := mainNs, cells := [], code := Value.ref 13, frame := some 14 }
noncomputable def sts1 : List Stmt := ((behindTheImports PySem.Challenge.pw_uf010025_09).drop 0).take 6
noncomputable def sts2 : List Stmt := ((behindTheImports PySem.Challenge.pw_uf010025_09).drop 6).take 29
noncomputable def sts3 : List Stmt := ((behindTheImports PySem.Challenge.pw_uf010025_09).drop 35).take 26
noncomputable def code : Code := .body (sts1 ++ (sts2 ++ (sts3 ++ ([])))) env
noncomputable def fr : List Frame := [topFrame { line := 0, col := 0, endLine := 0, endCol := 0 }]
theorem pre (w : World) (os : OsState) : topGo treeTable PySem.Challenge.pw_uf010025_09 w 11 (some (Value.ref 6)) 12 ⟨boot_heap w.params, ⟨[]⟩, boot_drawn, boot_toks, os⟩ (topStub PySem.Challenge.pw_uf010025_09) = some (SharedT.abs ⟨sa w.params, 15, life, ⟨[]⟩, drawn, 187, os⟩, ⟨denote treeTable code, code, ({ line := 0, col := 0, endLine := 0, endCol := 0 }), fr⟩) := by kernel_rfl
theorem block (w : World) (os : OsState) : segRunT treeTable PySem.Challenge.pw_uf010025_09 w 11 (some (Value.ref 6)) 1 1 ⟨sa w.params, 15, life, ⟨[]⟩, drawn, 187, os⟩ (blockOf (sts1 ++ (sts2 ++ (sts3 ++ ([])))) env code ({ line := 0, col := 0, endLine := 0, endCol := 0 }) fr) = some (.next, ⟨sb w.params, 15, life, ⟨[]⟩, drawn, 187, os⟩, code, ({ line := 0, col := 0, endLine := 0, endCol := 0 })) := by kernel_rfl
theorem seg1 (w : World) (os : OsState) : segRunT treeTable PySem.Challenge.pw_uf010025_09 w 11 (some (Value.ref 6)) 1 1048 ⟨sb w.params, 15, life, ⟨[]⟩, drawn, 187, os⟩ (piecesOf sts1 env code ({ line := 0, col := 0, endLine := 0, endCol := 0 }) fr) = some (.next, ⟨s1 w.params, 76, life, ⟨[]⟩, drawn, 271, os⟩, code, ({ line := 10, col := 0, endLine := 11, endCol := 8 })) := by kernel_rfl
theorem seg2 (w : World) (os : OsState) : segRunT treeTable PySem.Challenge.pw_uf010025_09 w 11 (some (Value.ref 6)) 1 1193 ⟨s1 w.params, 76, life, ⟨[]⟩, drawn, 271, os⟩ (piecesOf sts2 env code ({ line := 10, col := 0, endLine := 11, endCol := 8 }) fr) = some (.next, ⟨s2 w.params, 207, life, ⟨[]⟩, drawn, 475, os⟩, code, ({ line := 129, col := 0, endLine := 129, endCol := 10 })) := by kernel_rfl
theorem seg3 (w : World) (os : OsState) : segRunT treeTable PySem.Challenge.pw_uf010025_09 w 11 (some (Value.ref 6)) 1 1124 ⟨s2 w.params, 207, life, ⟨[]⟩, drawn, 475, os⟩ (piecesOf sts3 env code ({ line := 129, col := 0, endLine := 129, endCol := 10 }) fr) = some (.next, ⟨s3 w.params, 411, life, ⟨[]⟩, drawn, 761, os⟩, code, ({ line := 403, col := 0, endLine := 430, endCol := 87 })) := by kernel_rfl
theorem fin (w : World) (os : OsState) : topRun treeTable PySem.Challenge.pw_uf010025_09 w 11 (some (Value.ref 6)) 2 (SharedT.abs ⟨s3 w.params, 411, life, ⟨[]⟩, drawn, 761, os⟩) (restOf [] env code ({ line := 403, col := 0, endLine := 430, endCol := 87 }) fr) = some ⟨last w.params, ⟨[]⟩, drawn, 761, os⟩ := by kernel_rfl
theorem run (w : World) (os : OsState) : topRun treeTable PySem.Challenge.pw_uf010025_09 w 11 (some (Value.ref 6)) (12 + (1 + (1048 + (1193 + (1124 + (2)))))) ⟨boot_heap w.params, ⟨[]⟩, boot_drawn, boot_toks, os⟩ (topStub PySem.Challenge.pw_uf010025_09) = some ⟨last w.params, ⟨[]⟩, drawn, 761, os⟩ :=
  go_top (pre w os) (piece_block (segRun_of (block w os)) (piece_app (segRun_of (seg1 w os)) (piece_app (segRun_of (seg2 w os)) (piece_app (segRun_of (seg3 w os)) (fin w os)))))
theorem le : Nat.ble (12 + (1 + (1048 + (1193 + (1124 + (2)))))) 12000 = true := by kernel_rfl
theorem op : opening PySem.Challenge.pw_uf010025_09 = plainProg PySem.Challenge.pw_uf010025_09.main.scope.names := by kernel_rfl
theorem fence (s : Shared) : fenceModules? PySem.Challenge.pw_uf010025_09 s = some s := by kernel_rfl
theorem size (w : World) : ((boot_heap w.params).isNs mainGlobals && (Array.mk ([] : List GenState)).size == 0, (boot_heap w.params).objs.size, (boot_heap w.params).nsMap mainGlobals "__annotations__") = (true, 11, some (Value.ref 6)) := by kernel_rfl
noncomputable def q09 : Program := view PySem.Challenge.pw_uf010025_09 [1, 2, 3, 4, 5, 6, 7, 8, 10, 11, 12, 13, 14, 15, 16, 18, 19, 20, 22, 23, 24, 25, 27, 28, 29, 30, 31, 33, 34, 35, 36, 37, 39, 40, 41, 42, 43, 44, 45, 46, 47, 48, 49, 50, 51, 52, 53, 54, 55, 56, 57, 58, 59, 60]
theorem look1 (w : World) (os : OsState) : (staticsOk (importedModules PySem.Challenge.pw_uf010025_09.main.body) (boot_heap w.params) (last w.params) && namesBound PySem.Challenge.pw_uf010025_09 (last w.params) && gensDone ⟨last w.params, ⟨[]⟩, drawn, 761, os⟩ && laidKept (boot_heap w.params) (last w.params)) = true := by kernel_rfl
theorem look2 (w : World) (os : OsState) : openSeen q09 [] (importedModules PySem.Challenge.pw_uf010025_09.main.body) (fun s => xlAt q09 [] s && recOk (RowW.records (OpenRow.toRowW (OpenLaw.row PySem.Challenge.rw_uf010025_09))) s) true ⟨last w.params, ⟨[]⟩, drawn, 761, os⟩ = openGood q09 [] := by kernel_rfl
noncomputable def hk : Hook := kHook K asL (fun _ => by kernel_rfl)
noncomputable def dk := (defOf q09 (OpenLaw.row PySem.Challenge.rw_uf010025_09).name).get (by kernel_rfl)
noncomputable def xt (s : Shared) : Bool := xlAt q09 [] s && recOk (RowW.records (OpenRow.toRowW (OpenLaw.row PySem.Challenge.rw_uf010025_09))) s
noncomputable def top := fun k1 hw hc => (holds_open (r := (OpenLaw.row PySem.Challenge.rw_uf010025_09)) (q := q09) (loose := []) (Xt := xt) (XP := XL q09 []) (Yf := Hook.obs hk) (Ya := Hook.val hk) (YP := Hook.says hk) (d := dk.1) (kwd := dk.2) (N := 12000) (LeftO.of_pieces (p := PySem.Challenge.pw_uf010025_09) (boot_open op rfl fence) size run le (fun w => funext fun os => looks_pair (look1 w os) (looks_pair (look2 w os) (by kernel_rfl)))) (Hook.of hk) (Hook.keeps hk) (fun s e => xl_of s (Bool.and_eq_true_iff.mp e).1) XL.keeps (by kernel_rfl) (by kernel_rfl) (by kernel_rfl) (fun s e => recFacts_of (Bool.and_eq_true_iff.mp e).2) (by rfl) k1 (by decide +kernel) ⟨rfl, rfl, rfl, rfl, rfl, by decide +kernel⟩ hw hc : (OpenLaw.row PySem.Challenge.rw_uf010025_09).Holds)
end Tp
local macro_rules
  | `(tactic| k_head) => do
    let hw := Lean.mkIdent `hw
    let hc := Lean.mkIdent `hc
    `(tactic| refine Tp.top (by first | assumption | decide +kernel) ?$hw ?$hc)
local macro_rules
  | `(tactic| o_law) => `(tactic| refine holds_law (by decide +kernel) fun said => ?_)
open_top hd09 for PySem.Challenge.rw_uf010025_09
end
open PySem
def auS(a:Array Lean.Syntax):Lean.Syntax:= .node .none `Lean.Parser.Tactic.tacticSeq #[.node .none `Lean.Parser.Tactic.tacticSeq1Indented #[.node .none `null a]]
def auX:Lean.Syntax:= .node .none `Lean.Parser.Tactic.withUnfoldingAll #[.atom .none "with_unfolding_all",auS #[.node .none `Lean.Parser.Tactic.exact #[.atom .none "exact",.ident .none "rfl".toRawSubstring `rfl []]]]
def auR:Lean.Syntax:=auS #[auX]
def auF:Lean.Syntax:=auS #[.node .none `Lean.Parser.Tactic.intro #[.atom .none "intro",.node .none `null #[.node .none `Lean.Parser.Term.hole #[.atom .none "_"]]],.atom .none ";",auX]
section
set_option genSizeOf false in
inductive V where
 |none
 |bool (b:Bool)
 |int (i:Int)
 |str (x:Str)
 |tup (vs:List V)
 |lst (vs:List V)
 |dct (es:List (V×V))
 |rng (lo hi st:Int)
 |slc (l u s:V)
 |ref (a:Addr)
 |type (n:String)
 |bi (n:String)
set_option genSizeOf false in
inductive AO where
 |list (vs:List V)
 |dict (es:List (V×V))
 |inst (c dx:Addr) (fs:List (Str×V))
noncomputable abbrev Gh:=Addr->Option Obj
noncomputable abbrev Sto:=List (Addr×Obj×AO)
noncomputable abbrev Loc:=List (Option V)
noncomputable abbrev y4k(vs:Array Value)(n:Nat):Obj:={cls:= .type "tuple",data:= .seq vs n}
noncomputable abbrev z0p(vs:Array Value)(n:Nat):Obj:={cls:= .type "list",data:= .seq vs n}
noncomputable abbrev z1Z(es:Array DictEntry)(n:Nat):Obj:={cls:= .type "dict",data:= .dict es n}
noncomputable abbrev y0V(c dx:Addr):Obj:={cls:= .ref c,dict:=some dx}
noncomputable def KH(w:World):V->Int->Prop
 | .int i,h=>h=hashInt i
 | .str x,h=>h=hashStr w x
 |_,_=>False
mutual
inductive VR(w:World)(D:Gh):Value->V->Prop
 |none:VR w D .none .none
 |bool (b:Bool):VR w D (.bool b) (.bool b)
 |int (i:Int) (t:Tok):VR w D (.int i t) (.int i)
 |str (x:Str) (t:Tok):VR w D (.str x t) (.str x)
 |ref (a:Addr):VR w D (.ref a) (.ref a)
 |type (n:String):VR w D (.type n) (.type n)
 |bi (n:String):VR w D (.builtin n) (.bi n)
 |tup {a:Addr} {o:Obj} {vs:List Value} {n:Nat} {Vs:List V}:D a=some o->o.cls= .type "tuple"->o.data= .seq vs.toArray n->VRs w D vs Vs->VR w D (.ref a) (.tup Vs)
 |lst {a:Addr} {vs:List Value} {n:Nat} {Vs:List V}:D a=some (z0p vs.toArray n)->VRs w D vs Vs->VR w D (.ref a) (.lst Vs)
 |rng {a:Addr} {x y z:Int} {t u v:Tok}:D a=some {cls:= .type "range",dict:=none,data:= .fields #[.int x t,.int y u,.int z v],slots:= #[]}->VR w D (.ref a) (.rng x y z)
 |slc {a:Addr} {l u st:Value} {L U S:V}:D a=some {cls:= .type "slice",data:= .fields #[l,u,st]}->VR w D l L->VR w D u U->VR w D st S->VR w D (.ref a) (.slc L U S)
 |dct {a:Addr} {es:List DictEntry} {n:Nat} {Es:List (V×V)}:D a=some (z1Z es.toArray n)->VRd w D es Es->VR w D (.ref a) (.dct Es)
inductive VRs(w:World)(D:Gh):List Value->List V->Prop
 |nil:VRs w D [] []
 |cons {v:Value} {x:V} {vs:List Value} {xs:List V}:VR w D v x->VRs w D vs xs->VRs w D (v::vs) (x::xs)
inductive VRd(w:World)(D:Gh):List DictEntry->List (V×V)->Prop
 |nil:VRd w D [] []
 |cons {e:DictEntry} {k x:V} {es:List DictEntry} {xs:List (V×V)}:KH w k e.hash->VR w D e.key k->VR w D e.val x->VRd w D es xs->VRd w D (e::es) ((k,x)::xs)
end
section
variable {w:World} {D:Gh}
noncomputable def VR.I(w:World)(D:Gh)(v:Value):V->Prop
 | .none=>v= .none
 | .bool b=>v= .bool b
 | .int n=>∃t,v= .int n t
 | .str n=>∃t,v= .str n t
 | .ref a=>v= .ref a
 | .type n=>v= .type n
 | .bi n=>v= .builtin n
 | .tup xs=>∃a o vs n,v= .ref a/\D a=some o/\o.cls= .type "tuple"/\o.data= .seq (List.toArray vs) n/\VRs w D vs xs
 | .lst xs=>∃a vs n,v= .ref a/\D a=some (z0p (List.toArray vs) n)/\VRs w D vs xs
 | .rng x y z=>∃a t u r,v= .ref a/\D a=some {cls:= .type "range",dict:=Option.none,data:= .fields #[.int x t,.int y u,.int z r],slots:= #[]}
 | .slc L U S=>∃a l u st,v= .ref a/\D a=some {cls:= .type "slice",data:= .fields #[l,u,st]}/\VR w D l L/\VR w D u U/\VR w D st S
 | .dct xs=>∃a es n,v= .ref a/\D a=some (z1Z (List.toArray es) n)/\VRd w D es xs
theorem VR.inv{v:Value}{x:V}(h:VR w D v x):VR.I w D v x:=
 h.casesOn (motive_1:=λv x _=>VR.I w D v x) rfl (λ_=>rfl) (λ_ t=>⟨t,rfl⟩) (λ_ t=>⟨t,rfl⟩) (λ_=>rfl) (λ_=>rfl) (λ_=>rfl) (λe c q r=>⟨_,_,_,_,rfl,e,c,q,r⟩) (λe r=>⟨_,_,_,rfl,e,r⟩) (λe=>⟨_,_,_,_,rfl,e⟩) (λe a b c=>⟨_,_,_,_,rfl,e,a,b,c⟩) (λe r=>⟨_,_,_,rfl,e,r⟩)
noncomputable def VRs.I(w:World)(D:Gh)(vs:List Value):List V->Prop
 |[]=>vs=[]
 |X::xs=>∃y r,vs=y::r/\VR w D y X/\VRs w D r xs
theorem VRs.inv{vs:List Value}{xs:List V}(h:VRs w D vs xs):VRs.I w D vs xs:=
 h.casesOn (motive_2:=λv x _=>VRs.I w D v x) rfl (λa b=>⟨_,_,rfl,a,b⟩)
noncomputable def VRd.I(w:World)(D:Gh)(es:List DictEntry):List (V×V)->Prop
 |[]=>es=[]
 |p::xs=>∃e r,es=e::r/\KH w p.1 e.hash/\VR w D e.key p.1/\VR w D e.val p.2/\VRd w D r xs
theorem VRd.inv{es:List DictEntry}{xs:List (V×V)}(h:VRd w D es xs):VRd.I w D es xs:=
 h.casesOn (motive_3:=λv x _=>VRd.I w D v x) rfl (λk a b c=>⟨_,_,rfl,k,a,b,c⟩)
variable {v:Value}
theorem VR.noneI(h:VR w D v .none):v= .none:=h.inv
theorem VR.boolI{b:Bool}(h:VR w D v (.bool b)):v= .bool b:=h.inv
theorem VR.biI{n:String}(h:VR w D v (.bi n)):v= .builtin n:=h.inv
theorem VR.typeI{n:String}(h:VR w D v (.type n)):v= .type n:=h.inv
theorem VR.refI{a:Addr}(h:VR w D v (.ref a)):v= .ref a:=h.inv
theorem VR.intI{n:Int}(h:VR w D v (.int n)):∃t,v= .int n t:=h.inv
theorem VR.strI{n:Str}(h:VR w D v (.str n)):∃t,v= .str n t:=h.inv
theorem VRs.nilI{vs:List Value}(h:VRs w D vs []):vs=[]:=h.inv
theorem VRs.consI{vs:List Value}{X:V}{xs:List V}(h:VRs w D vs (X::xs)):∃y r,vs=y::r/\VR w D y X/\VRs w D r xs:=h.inv
theorem VR.tupI{xs:List V}(h:VR w D v (.tup xs)):∃a o vs n,v= .ref a/\D a=some o/\o.cls= .type "tuple"/\o.data= .seq (List.toArray vs) n/\VRs w D vs xs:=h.inv
theorem VR.lstI{xs:List V}(h:VR w D v (.lst xs)):∃a vs n,v= .ref a/\D a=some (z0p (List.toArray vs) n)/\VRs w D vs xs:=h.inv
theorem VRd.nilI{es:List DictEntry}(h:VRd w D es []):es=[]:=h.inv
theorem VRd.consI{es:List DictEntry}{p:V×V}{xs:List (V×V)}(h:VRd w D es (p::xs)):∃e r,es=e::r/\KH w p.1 e.hash/\VR w D e.key p.1/\VR w D e.val p.2/\VRd w D r xs:=h.inv
theorem VR.dctI{xs:List (V×V)}(h:VR w D v (.dct xs)):∃a es n,v= .ref a/\D a=some (z1Z (List.toArray es) n)/\VRd w D es xs:=h.inv
theorem VR.rngI{x y z:Int}(h:VR w D v (.rng x y z)):∃a t u r,v= .ref a/\D a=some {cls:= .type "range",dict:=Option.none,data:= .fields #[.int x t,.int y u,.int z r],slots:= #[]}:=h.inv
theorem VR.slcI{L U S:V}(h:VR w D v (.slc L U S)):∃a l u st,v= .ref a/\D a=some {cls:= .type "slice",data:= .fields #[l,u,st]}/\VR w D l L/\VR w D u U/\VR w D st S:=h.inv
end
theorem z0l{α β:Type}{f:α->β}{l:List α}{y:β}{P:β->Prop}(h:y∈l.map f)(k:∀x,x∈l->P (f x)):P y:=by obtain⟨x,hx,rfl⟩:=List.mem_map.mp h;exact k x hx
theorem z0Z{α β:Type}{f:α->β}{o:Option α}{y:β}{P:β->Prop}(h:o.map f=some y)(k:∀x,o=some x->P (f x)):P y:=by obtain⟨x,hx,rfl⟩:=Option.map_eq_some_iff.mp h;exact k x hx
theorem ff{P:Prop}(h:false=true):P:=nomatch h
theorem tf{P:Prop}(h:true=false):P:=nomatch h
section
variable {w:World} {D:Gh} {v:Value} {vs:List Value} {P:Value->Prop} {Ps:List Value->Prop}
theorem VR.noneE(h:VR w D v .none)(k:P .none):P v:=h.noneI▸k
theorem VR.boolE{b:Bool}(h:VR w D v (.bool b))(k:P (.bool b)):P v:=h.boolI▸k
theorem VR.biE{n:String}(h:VR w D v (.bi n))(k:P (.builtin n)):P v:=h.biI▸k
theorem VR.typeE{n:String}(h:VR w D v (.type n))(k:P (.type n)):P v:=h.typeI▸k
theorem VR.refE{a:Addr}(h:VR w D v (.ref a))(k:P (.ref a)):P v:=h.refI▸k
theorem VR.intE{n:Int}(h:VR w D v (.int n))(k:∀t,P (.int n t)):P v:=by obtain⟨t,e⟩:=h.intI;rw[e];exact k t
theorem VR.strE{n:Str}(h:VR w D v (.str n))(k:∀t,P (.str n t)):P v:=by obtain⟨t,e⟩:=h.strI;rw[e];exact k t
theorem VRs.nilE(h:VRs w D vs [])(k:Ps []):Ps vs:=h.nilI▸k
theorem VRs.consE{X:V}{xs:List V}(h:VRs w D vs (X::xs))(k:∀y r,VR w D y X->VRs w D r xs->Ps (y::r)):Ps vs:=by obtain⟨y,r,e,a,b⟩:=h.consI;rw[e];exact k y r a b
end
noncomputable def Sub(D D':Gh):Prop:=∀a o,D a=some o->D' a=some o
theorem Sub.refl(D:Gh):Sub D D:=λ_ _ e=>e
theorem Sub.trans{D D' D'':Gh}(h:Sub D D')(h':Sub D' D''):Sub D D'':=λa o e=>h' a o (h a o e)
section
variable {w:World} {D D':Gh}
theorem VR.mono(h:Sub D D'){v:Value}{x:V}(r:VR w D v x):VR w D' v x:=
 VR.rec (motive_1:=λv x _=>VR w D' v x) (motive_2:=λv x _=>VRs w D' v x) (motive_3:=λv x _=>VRd w D' v x)
  .none .bool .int .str .ref .type .bi (λe c q _ ih=> .tup (h _ _ e) c q ih) (λe _ ih=> .lst (h _ _ e) ih) (λe=> .rng (h _ _ e)) (λe _ _ _ a b c=> .slc (h _ _ e) a b c) (λe _ ih=> .dct (h _ _ e) ih)
  .nil (λ_ _ a b=> .cons a b) .nil (λk _ _ _ a b c=> .cons k a b c) r
theorem VRs.mono(h:Sub D D'):∀{x:List V} {v:List Value},VRs w D v x->VRs w D' v x:=λ{x}=>by
 induction x with
 |nil=>intro v r;rw[VRs.nilI r];exact .nil
 |cons X xs ih=>intro v r;obtain⟨_,_,rfl,a,b⟩:=VRs.consI r;exact .cons (a.mono h) (ih b)
theorem VRd.mono(h:Sub D D'){v:List DictEntry}{x:List (V×V)}(r:VRd w D v x):VRd w D' v x:=
 VRd.rec (motive_1:=λv x _=>VR w D' v x) (motive_2:=λv x _=>VRs w D' v x) (motive_3:=λv x _=>VRd w D' v x)
  .none .bool .int .str .ref .type .bi (λe c q _ ih=> .tup (h _ _ e) c q ih) (λe _ ih=> .lst (h _ _ e) ih) (λe=> .rng (h _ _ e)) (λe _ _ _ a b c=> .slc (h _ _ e) a b c) (λe _ ih=> .dct (h _ _ e) ih)
  .nil (λ_ _ a b=> .cons a b) .nil (λk _ _ _ a b c=> .cons k a b c) r
theorem VRs.length:∀{x:List V} {v:List Value},VRs w D v x->v.length=x.length:=λ{x}=>by
 induction x with
 |nil=>intro v r;rw[VRs.nilI r];rfl
 |cons X xs ih=>intro v r;obtain⟨_,_,rfl,a,b⟩:=VRs.consI r;exact congrArg (·+1) (ih b)
theorem VRs.append{v v':List Value}{x x':List V}(r:VRs w D v x)(h':VRs w D v' x'):VRs w D (v++v') (x++x'):=by
 induction x generalizing v with
 |nil=>rw[VRs.nilI r];exact h'
 |cons X xs ih=>obtain⟨_,_,rfl,a,b⟩:=VRs.consI r;exact .cons a (ih b)
theorem VRs.get:∀{x:List V} {v:List Value},VRs w D v x->∀{i:Nat} {X:V},x[i]? =some X->∃u,v[i]? =some u/\VR w D u X:=λ{x}=>by
 induction x with
 |nil=>intro v r i X h;cases h
 |cons Y xs ih=>
  intro v r i X h
  obtain⟨u,_,rfl,a,b⟩:=VRs.consI r
  cases i with
  |zero=>cases h;exact⟨u,rfl,a⟩
  |succ i=>exact ih b h
theorem VRs.get':∀{x:List V} {v:List Value},VRs w D v x->∀{i:Nat} {u:Value},v[i]? =some u->∃X,x[i]? =some X/\VR w D u X:=λ{x}=>by
 induction x with
 |nil=>intro v r i u h;rw[VRs.nilI r] at h;cases h
 |cons Y xs ih=>
  intro v r i u h
  obtain⟨_,_,rfl,a,b⟩:=VRs.consI r
  cases i with
  |zero=>cases h;exact⟨Y,rfl,a⟩
  |succ i=>exact ih b h
end
noncomputable def z0F(a:Addr):AO->List Addr
 | .inst _ dx _=>[a,dx]
 |_=>[a]
noncomputable def foot:Sto->List Addr
 |[]=>[]
 |(a,_,o)::r=>z0F a o++foot r
theorem z1A{σ:Sto}{a:Addr}{ob:Obj}{o:AO}(h:(a,ob,o)∈σ):∀b∈z0F a o,b∈foot σ:=by
 induction σ with
 |nil=>cases h
 |cons p r ih=>
  intro b hb
  obtain⟨c,q,z⟩:=p
  rcases List.mem_cons.mp h with e|h
  ·cases e;exact List.mem_append_left _ hb
  ·exact List.mem_append_right _ (ih h b hb)
theorem z0u(a:Addr)(o:AO):a∈z0F a o:=by cases o<;>simp[z0F]
theorem z1J{σ:Sto}{a:Addr}{ob:Obj}{o:AO}(h:(a,ob,o)∈σ):a∈foot σ:=z1A h a (z0u a o)
noncomputable def FR(w:World)(D:Gh):List DictEntry->List (Str×V)->Prop
 |[],[]=>True
 |e::es,(n,x)::fs=>(∃t,e.key= .str n t)/\e.hash=hashStr w n/\VR w D e.val x/\FR w D es fs
 |_,_=>False
theorem FR.mono{w:World}{D D':Gh}(h:Sub D D'):∀{es:List DictEntry} {fs:List (Str×V)},FR w D es fs->FR w D' es fs
 |[],[],_=>trivial
 |e::es,(n,x)::fs,⟨a,b,c,d⟩=>⟨a,b,VR.mono h c,FR.mono h d⟩
 |[],_::_,h=>h.elim
 |_::_,[],h=>h.elim
noncomputable def HR(w:World)(D:Gh)(o:Obj):AO->Prop
 | .list xs=>∃vs n,o=z0p vs n/\VRs w D vs.toList xs
 | .dict xs=>∃es n,o=z1Z es n/\VRd w D es.toList xs
 | .inst _ _ fs=>∃es n,o=z1Z es n/\FR w D es.toList fs
theorem HR.mono{w:World}{D D':Gh}{o:Obj}(hs:Sub D D'):∀{x:AO},HR w D o x->HR w D' o x
 | .list _,⟨vs,n,e,r⟩=>⟨vs,n,e,r.mono hs⟩
 | .dict _,⟨vs,n,e,r⟩=>⟨vs,n,e,r.mono hs⟩
 | .inst _ _ _,⟨vs,n,e,r⟩=>⟨vs,n,e,FR.mono hs r⟩
noncomputable def PR(h:Heap)(a:Addr)(o:Obj):AO->Prop
 | .inst c dx _=>h.get? a=some (y0V c dx)/\h.get? dx=some o
 |_=>h.get? a=some o
theorem PR.at{h h':Heap}{a:Addr}{o:Obj}:∀{x:AO},(∀b∈z0F a x,∀ob,h.get? b=some ob->h'.get? b=some ob)->PR h a o x->PR h' a o x
 | .list _,k,e=>k a (by simp[z0F]) _ e
 | .dict _,k,e=>k a (by simp[z0F]) _ e
 | .inst _ _ _,k,⟨e,e'⟩=>⟨k _ (by simp[z0F]) _ e,k _ (by simp[z0F]) _ e'⟩
theorem PR.lives{h:Heap}{a:Addr}{o:Obj}:∀{x:AO},PR h a o x->∀b∈z0F a x,∃ob,h.get? b=some ob
 | .list _,e,b,hb=>by simp[z0F] at hb;subst hb;exact⟨_,e⟩
 | .dict _,e,b,hb=>by simp[z0F] at hb;subst hb;exact⟨_,e⟩
 | .inst _ _ _,⟨e,e'⟩,b,hb=>by
  simp[z0F] at hb
  rcases hb with rfl|rfl
  ·exact⟨_,e⟩
  ·exact⟨_,e'⟩
structure Cx where
 prog:Program
 w:World
 base:Heap
 s₀:Shared
 mg:Str->Option Value
 mb:Str->Option Value
 hg:base.Ns mainGlobals mg
 hb:base.Ns builtinsNs mb
 lim:base.NoLimit
 hm:Option (Option Addr)
 fs:Option (List Env)
class HM (C:Cx):Prop where
 h:C.hm=some Option.none
class NF (C:Cx):Prop where
 h:C.fs=Option.none
noncomputable abbrev Cx.M(C:Cx):Model:=model C.prog C.w
noncomputable def frk(o:Obj):Prop:=o.cls= .type "#frame"
noncomputable def mkF(o:Obj):Obj:={o with cls:= .type "#frame"}
noncomputable def Eqs(o o':Obj):Prop:=o'.data=o.data/\(¬frk o->o'=o)
theorem Eqs.refl(o:Obj):Eqs o o:=⟨rfl,λ_=>rfl⟩
theorem Eqs.mk(o:Obj):Eqs (mkF o) o:=⟨rfl,λn=>absurd rfl n⟩
theorem Eqs.trans{o o' o'':Obj}(h:Eqs o o')(h':Eqs o' o''):Eqs o o'':=⟨h'.1.trans h.1,λn=>(h'.2 (h.2 n▸n)).trans (h.2 n)⟩
theorem Eqs.eq{o o':Obj}(h:Eqs o o')(n:¬frk o):o'=o:=h.2 n
theorem frN{n:String}(h:(n=="#frame")=false):Value.type n≠ .type "#frame":=λe=>by
 injection e with e
 rw[e] at h;exact nomatch h
theorem nfC{o:Obj}(h:o.cls≠ .type "#frame"):¬frk o:=λq=>h q
structure RelC(C:Cx)(G D:Gh)(σ:Sto)(s:Shared):Prop where
 same:∃h tk,s={C.s₀ with heap:=h,toks:=tk}
 bs:∀a o,C.base.get? a=some o->s.heap.get? a=some o
 g:∀a o,G a=some o->∃o',s.heap.get? a=some o'/\Eqs o o'
 d:∀a o,D a=some o->s.heap.get? a=some o
 base:∀a o,C.base.get? a=some o->G a=some o
 nd:(foot σ).Nodup
 offG:∀a∈foot σ,G a=none
 offD:∀a∈foot σ,D a=none
 pl:∀p∈σ,PR s.heap p.1 p.2.1 p.2.2
 sto:∀p∈σ,HR C.w D p.2.1 p.2.2
theorem RelC.ge{C:Cx}{G D:Gh}{σ:Sto}{s:Shared}(R:RelC C G D σ s){a:Addr}{o:Obj}(h:G a=some o)(n:¬frk o):s.heap.get? a=some o:=by
 obtain⟨o',h1,h2⟩:=R.g a o h
 rw[h1,h2.eq n]
theorem RelC.g'{C:Cx}{G D:Gh}{σ:Sto}{s:Shared}(R:RelC C G D σ s){h':Heap}{a:Addr}{o:Obj}(e:G a=some o)(k:∀o',s.heap.get? a=some o'->h'.get? a=some o'):∃o',h'.get? a=some o'/\Eqs o o':=by
 obtain⟨o',h1,h2⟩:=R.g a o e
 exact⟨o',k o' h1,h2⟩
theorem RelC.noG{C:Cx}{G D:Gh}{σ:Sto}{s:Shared}(R:RelC C G D σ s){a:Addr}(h:∀o,s.heap.get? a≠some o):G a=Option.none:=Option.eq_none_iff_forall_not_mem.mpr λo e=>by
 obtain⟨o',h1,_⟩:=R.g a o e
 exact h o' h1
structure DX(G D D':Gh):Prop where
 sub:Sub D D'
 off:∀a,D a=none->G a≠none->D' a=none
theorem DX.refl(G D:Gh):DX G D D:=⟨Sub.refl D,λ_ h _=>h⟩
theorem DX.trans{G D D' D'':Gh}(h:DX G D D')(h':DX G D' D''):DX G D D'':=⟨h.sub.trans h'.sub,λa e g=>h'.off a (h.off a e g) g⟩
theorem DX.less{G G' D D':Gh}(h:DX G' D D')(hg:∀a,G a≠none->G' a≠none):DX G D D':=⟨h.sub,λa e g=>h.off a e (hg a g)⟩
structure AOk(C:Cx)(A:Around)(d:Nat):Prop where
 h:∀x,C.hm=some x->A.handled=x.map .ref
 fr:∀l,C.fs=some l->A.frames=some l
 depth:A.depth+d<1000
 units:A.units+8*d<9000
theorem AOk.hh{C:Cx}[HM C]{A:Around}{d:Nat}(h:AOk C A d):A.handled= .none:=h.h _ HM.h
inductive PostC(C:Cx)(G D:Gh)(Q:V->Sto->Prop)(v:Value)(s':Shared):Prop
 |mk (x:V) (D':Gh) (σ':Sto):DX G D D'->VR C.w D' v x->RelC C G D' σ' s'->Q x σ'->PostC C G D Q v s'
noncomputable def CW(C:Cx)(d:Nat)(f:Value)(xs:List V)(σ:Sto)(Q:V->Sto->Prop):Prop:=
 ∀A G D s vs,AOk C A d->RelC C G D σ s->VRs C.w D vs xs->
  codeAny C.M A (.call f ⟨vs,[]⟩) (λr s'=>match r with| .ok (.ret v)=>PostC C G D Q v s'|_=>False) s
noncomputable def z0f(C:Cx)(x:Str)(X:V):Prop:=∃v,VR C.w (λ_=> .none) v X/\(C.mg x=some v∨(C.mg x= .none/\C.mb x=some v))
structure FmOk(C:Cx)(env:Env)(vars:List Str)(gl:List (Str×V))(own:Bool):Prop where
 fn:env.scope.kind= .function
 nd:vars.Nodup
 vk:∀x∈vars,(x==("__debug__":Str))=false/\(env.kindOf x=some .local∨(env.kindOf x=some .cell/\∃c,env.cells.lookup x=some c))
 ap:env.cells.Pairwise λx y=>x.2≠y.2
 gk:∀p∈gl,(p.1==("__debug__":Str))=false/\env.kindOf p.1=some .globalImplicit/\z0f C p.1 p.2
 gg:env.globals=mainGlobals
 gb:env.builtins=builtinsNs
structure RelF(C:Cx)(env:Env)(vars:List Str)(gl:List (Str×V))(own:Bool)(G D:Gh)(m:Loc)(σ:Sto)(s:Shared):Prop extends RelC C G D σ s where
 ok:FmOk C env vars gl own
 offL:G env.locals=none/\D env.locals=none/\env.locals∉foot σ
 ns:∃mm,s.heap.Ns env.locals mm/\∀(i:Nat) x X,vars[i]? =some x->env.kindOf x=some .local->m[i]? =some (some X)->∃v,mm x=some v/\VR C.w D v X
 cl:∀(i:Nat) x c,vars[i]? =some x->env.kindOf x=some .cell->env.cells.lookup x=some c->
  c≠env.locals/\(∃ov,s.heap.IsCell c ov/\∀X,m[i]? =some (some X)->∃v,ov=some v/\VR C.w D v X)/\
  (if own then G c=none/\D c=none/\c∉foot σ else∃o,G c=some o)
noncomputable def z2j(env:Env)(vars:List Str)(a:Addr):Prop:=a=env.locals∨∃(i:Nat) (x:Str),vars[i]? =some x/\env.kindOf x=some .cell/\env.cells.lookup x=some a
open Classical in
noncomputable def z2c(env:Env)(vars:List Str)(G:Gh)(s:Shared):Gh:=λa=>if a=env.locals then(s.heap.get? a).map mkF else if z2j env vars a then s.heap.get? a else G a
section
variable {C:Cx} {env:Env} {vars:List Str} {gl:List (Str×V)} {own:Bool} {G D D':Gh} {m:Loc} {σ σ':Sto} {s s':Shared}
theorem lift_loc:z2c env vars G s env.locals=(s.heap.get? env.locals).map mkF:=by unfold z2c;rw[if_pos rfl]
theorem z1q{a:Addr}(h:z2j env vars a)(n:a≠env.locals):z2c env vars G s a=s.heap.get? a:=by unfold z2c;rw[if_neg n,if_pos h]
theorem z1S{a:Addr}(h:¬z2j env vars a):z2c env vars G s a=G a:=by unfold z2c;rw[if_neg λe=>h (Or.inl e),if_neg h]
theorem z3S{a:Addr}{o:Obj}(h:z2j env vars a)(e:s.heap.get? a=some o):∃o',z2c env vars G s a=some o'/\Eqs o' o:=by
 by_cases n:a=env.locals
 ·subst n;rw[lift_loc,e];exact⟨_,rfl,.mk o⟩
 ·rw[z1q h n,e];exact⟨_,rfl,.refl o⟩
theorem RelF.over(R:RelF C env vars gl own G D m σ s){a:Addr}{o:Obj}(h:G a=some o):∃o',z2c env vars G s a=some o'/\Eqs o o':=by
 by_cases hm:z2j env vars a
 ·have n:a≠env.locals:=λe=>by rw[e,R.offL.1] at h;cases h
  rw[z1q hm n];exact R.g a o h
 ·rw[z1S hm];exact⟨o,h,.refl o⟩
theorem RelF.overN(R:RelF C env vars gl own G D m σ s){a:Addr}(h:z2c env vars G s a=none):G a=none:=by
 cases e:G a with
 |none=>rfl
 |some o=>obtain⟨o',h',_⟩:=R.over e;rw[h] at h';cases h'
theorem RelF.mineFoot(R:RelF C env vars gl own G D m σ s){a:Addr}(h:z2j env vars a):a∉foot σ:=by
 rcases h with rfl|⟨i,x,h1,h2,h3⟩
 ·exact R.offL.2.2
 ·have:=(R.cl i x a h1 h2 h3).2.2
  cases own with
  |true=>exact this.2.2
  |false=>
   obtain⟨o,ho⟩:=this
   intro hf
   rw[R.offG a hf] at ho;cases ho
theorem RelF.mineLives(R:RelF C env vars gl own G D m σ s){a:Addr}(h:z2j env vars a):∃o,s.heap.get? a=some o:=by
 rcases h with rfl|⟨i,x,h1,h2,h3⟩
 ·obtain⟨mm,⟨o,_,_,ho,_⟩,_⟩:=R.ns;exact⟨o,ho⟩
 ·obtain⟨_,⟨ov,⟨o,ho,_⟩,_⟩,_⟩:=R.cl i x a h1 h2 h3;exact⟨o,ho⟩
theorem RelF.lifted(R:RelF C env vars gl own G D m σ s):RelC C (z2c env vars G s) D σ s where
 same:=R.same
 bs:=R.bs
 g:=λa o h=>by
  by_cases hm:z2j env vars a
  ·by_cases n:a=env.locals
   ·rw[n,lift_loc] at h
    obtain⟨x,hx,e⟩:=Option.map_eq_some_iff.mp h
    rw[n,<-e];exact⟨x,hx,.mk x⟩
   ·rw[z1q hm n] at h;exact⟨o,h,.refl o⟩
  ·rw[z1S hm] at h;exact R.g a o h
 d:=R.d
 base:=λa o h=>by
  have n:a≠env.locals:=λe=>by have:=R.base a o h;rw[e,R.offL.1] at this;cases this
  by_cases hm:z2j env vars a
  ·rw[z1q hm n];exact R.bs a o h
  ·rw[z1S hm];exact R.base a o h
 nd:=R.nd
 offG:=λa h=>by
  by_cases hm:z2j env vars a
  ·exact absurd h (R.mineFoot hm)
  ·rw[z1S hm];exact R.offG a h
 offD:=R.offD
 pl:=R.pl
 sto:=R.sto
theorem RelF.dx(R:RelF C env vars gl own G D m σ s)(h:DX (z2c env vars G s) D D'):DX G D D':=
 h.less λa g=>by
  cases e:G a with
  |none=>exact absurd e g
  |some o=>obtain⟨o',h',_⟩:=R.over e;rw[h'];exact nofun
theorem RelF.mineD(R:RelF C env vars gl own G D m σ s)(h:DX (z2c env vars G s) D D'){a:Addr}(hm:z2j env vars a)(hd:D a=none):D' a=none:=
 h.off a hd (by obtain⟨o,ho⟩:=R.mineLives hm;obtain⟨o',h',_⟩:=z3S (G:=G) hm ho;rw[h'];exact nofun)
theorem RelF.back(R:RelF C env vars gl own G D m σ s)(R':RelC C (z2c env vars G s) D' σ' s')(h:DX (z2c env vars G s) D D'):RelF C env vars gl own G D' m σ' s' where
 same:=R'.same
 bs:=R'.bs
 g:=λa o e=>by
  obtain⟨o1,h1,q1⟩:=R.over e
  obtain⟨o2,h2,q2⟩:=R'.g a o1 h1
  exact⟨o2,h2,q1.trans q2⟩
 d:=R'.d
 base:=R.base
 nd:=R'.nd
 offG:=λa hf=>R.overN (R'.offG a hf)
 offD:=R'.offD
 pl:=R'.pl
 sto:=R'.sto
 ok:=R.ok
 offL:=⟨R.offL.1,R.mineD h (Or.inl rfl) R.offL.2.1,λhf=>by
  obtain⟨o,ho⟩:=R.mineLives (Or.inl rfl)
  obtain⟨o',h',_⟩:=z3S (G:=G) (Or.inl rfl) ho
  exact nomatch (R'.offG _ hf).symm.trans h'⟩
 ns:=by
  obtain⟨mm,⟨o,es,ep,ho,r⟩,hv⟩:=R.ns
  obtain⟨o1,h1,q1⟩:=z3S (G:=G) (Or.inl rfl) ho
  obtain⟨o',ho',q2⟩:=R'.g _ _ h1
  refine⟨mm,⟨o',es,ep,ho',(q2.1.trans q1.1.symm).trans r.1,r.2⟩,λi x X h1 h2 h3=> ?_⟩
  obtain⟨v,e,q⟩:=hv i x X h1 h2 h3
  exact⟨v,e,q.mono h.sub⟩
 cl:=λi x c h1 h2 h3=>by
  have hm:z2j env vars c:=Or.inr ⟨i,x,h1,h2,h3⟩
  obtain⟨hne,⟨ov,⟨o,ho,hd⟩,hx⟩,hw⟩:=R.cl i x c h1 h2 h3
  obtain⟨o',ho',q⟩:=R'.g _ _ ((z1q hm hne).trans ho)
  refine⟨hne,⟨ov,⟨o',ho',q.1.trans hd⟩,λX e=> ?_⟩,?_⟩
  ·obtain⟨v,e1,q⟩:=hx X e
   exact⟨v,e1,q.mono h.sub⟩
  ·cases own with
   |true=>
    refine⟨hw.1,R.mineD h hm hw.2.1,λhf=> ?_⟩
    have:=R'.offG _ hf
    rw[z1q hm hne,ho] at this;cases this
   |false=>exact hw
end
inductive PostE(C:Cx)(env:Env)(vars:List Str)(gl:List (Str×V))(own:Bool)(G D:Gh)(m:Loc)(Q:V->Sto->Prop)(v:Value)(s':Shared):Prop
 |mk (x:V) (D':Gh) (σ':Sto):DX G D D'->VR C.w D' v x->RelF C env vars gl own G D' m σ' s'->Q x σ'->PostE C env vars gl own G D m Q v s'
noncomputable def AT(C:Cx)(env:Env)(vars:List Str)(gl:List (Str×V))(own:Bool)(d:Nat)(t:Sem Value)(m:Loc)(σ:Sto)(Q:V->Sto->Prop):Prop:=
 ∀A G D s,AOk C A d->RelF C env vars gl own G D m σ s->wpAny C.M A t (PostE C env vars gl own G D m Q) (λ_ _=>False) s
section
variable {C:Cx} {env:Env} {vars:List Str} {gl:List (Str×V)} {own:Bool} {d:Nat} {m:Loc} {σ:Sto} {Q Q':V->Sto->Prop}
theorem AT.mono{t:Sem Value}(h:AT C env vars gl own d t m σ Q)(hQ:∀x σ',Q x σ'->Q' x σ'):AT C env vars gl own d t m σ Q':=
 λA G D s hA R=>wpAny_mono (h A G D s hA R) (λ_ _ hpp=>by obtain⟨x,D',σ',a,b,c,e⟩:=hpp;exact⟨x,D',σ',a,b,c,hQ _ _ e⟩) λ_ _ e=>e
end
end
section
inductive Lk:List Str->Loc->Str->V->Prop
 |head {x:Str} {ns:List Str} {X:V} {m:Loc}:Lk (x::ns) (some X::m) x X
 |tail {x y:Str} {ns:List Str} {X:V} {o:Option V} {m:Loc}:Lk ns m x X->Lk (y::ns) (o::m) x X
theorem Lk.get{ns:List Str}{m:Loc}{x:Str}{X:V}(h:Lk ns m x X):∃i:Nat,ns[i]? =some x/\m[i]? =some (some X):=by
 induction h with
 |head=>exact⟨0,rfl,rfl⟩
 |tail _ ih=>obtain⟨i,a,b⟩:=ih;exact⟨i+1,by simpa using a,by simpa using b⟩
inductive Put:List Str->Loc->Str->V->Loc->Prop
 |head {x:Str} {ns:List Str} {X:V} {o:Option V} {m:Loc}:Put (x::ns) (o::m) x X (some X::m)
 |tail {x y:Str} {ns:List Str} {X:V} {o:Option V} {m m':Loc}:Put ns m x X m'->Put (y::ns) (o::m) x X (o::m')
theorem Put.get{ns:List Str}{m m':Loc}{x:Str}{X:V}(h:Put ns m x X m'):∃i:Nat,ns[i]? =some x/\m'=m.set i (some X):=by
 induction h with
 |head=>exact⟨0,rfl,rfl⟩
 |tail _ ih=>obtain⟨i,a,b⟩:=ih;exact⟨i+1,by simpa using a,by simp[b]⟩
section
variable {C:Cx} {env:Env} {vars:List Str} {gl:List (Str×V)} {own:Bool} {d:Nat} {m:Loc} {σ:Sto} {Q Q':V->Sto->Prop}
variable {A:Around} {G D D₁:Gh} {s:Shared}
theorem AT.run{t:Sem Value}(h:AT C env vars gl own d t m σ Q)(hA:AOk C A d)(R:RelF C env vars gl own G D m σ s){K:Value->Shared->Prop}
  (k:∀v s' x D' σ',DX G D D'->VR C.w D' v x->RelF C env vars gl own G D' m σ' s'->Q x σ'->K v s'):wpAny C.M A t K (λ_ _=>False) s:=
 wpAny_mono (h A G D s hA R) (λv s' hpp=>by obtain⟨x,D',σ',a,b,c,e⟩:=hpp;exact k v s' x D' σ' a b c e) λ_ _ e=>e
theorem PostE.weak{v:Value}{s':Shared}(h:DX G D D₁)(p:PostE C env vars gl own G D₁ m Q v s'):PostE C env vars gl own G D m Q v s':=
 by obtain⟨x,D',σ',a,b,c,e⟩:=p;exact⟨x,D',σ',h.trans a,b,c,e⟩
theorem z0V{t:Sem Value}(h:DX G D D₁)(p:wpAny C.M A t (PostE C env vars gl own G D₁ m Q) (λ_ _=>False) s):wpAny C.M A t (PostE C env vars gl own G D m Q) (λ_ _=>False) s:=
 wpAny_mono p (λ_ _ q=>q.weak h) λ_ _ e=>e
theorem RelC.tok(R:RelC C G D σ s)(t:Nat):RelC C G D σ {s with toks:=t}:=
 ⟨let⟨h,_,e⟩:=R.same;⟨h,t,by rw[e]⟩,R.bs,R.g,R.d,R.base,R.nd,R.offG,R.offD,R.pl,R.sto⟩
theorem RelF.tok(R:RelF C env vars gl own G D m σ s)(t:Nat):RelF C env vars gl own G D m σ {s with toks:=t}:=
 {R.toRelC.tok t with ok:=R.ok,offL:=R.offL,ns:=R.ns,cl:=R.cl}
theorem PostE.now{v:Value}{x:V}(R:RelF C env vars gl own G D m σ s)(hv:VR C.w D v x)(q:Q x σ):PostE C env vars gl own G D m Q v s:=⟨x,D,σ,DX.refl _ _,hv,R,q⟩
theorem PostC.now{v:Value}{x:V}(R:RelC C G D σ s)(hv:VR C.w D v x)(q:Q x σ):PostC C G D Q v s:=⟨x,D,σ,DX.refl _ _,hv,R,q⟩
theorem z7u{x:Str}{p:Pos}{X:V}(h:Lk vars m x X)(q:Q X σ):AT C env vars gl own d (eval (.Name x p) env) m σ Q:=λA G D s hA R=>by
 obtain⟨i,h1,h2⟩:=h.get
 have hv:=R.ok.vk x (List.mem_of_getElem? h1)
 rcases hv.2 with hl|⟨hc,c,hcc⟩
 ·obtain⟨mm,hn,hmm⟩:=R.ns
  obtain⟨v,e,r⟩:=hmm i x X h1 hl h2
  exact wpAny_Name (wpAny_loadName_local R.ok.fn hl hn e (PostE.now R r q)) hv.1
 ·obtain⟨_,⟨ov,hcell,hx⟩,_⟩:=R.cl i x c h1 hc hcc
  obtain⟨v,rfl,r⟩:=hx X h2
  exact wpAny_Name (wpAny_loadName_cell R.ok.fn hc hcc hcell (PostE.now R r q)) hv.1
theorem VR.any{w:World}{v:Value}{x:V}(h:VR w (λ_=>Option.none) v x)(D:Gh):VR w D v x:=h.mono λ_ _ e=>by cases e
theorem z1z{x:Str}{p:Pos}{X:V}(h:(x,X)∈gl)(q:Q X σ):AT C env vars gl own d (eval (.Name x p) env) m σ Q:=λA G D s hA R=>by
 obtain⟨h1,h2,v,hv,h3⟩:=R.ok.gk _ h
 have keep:∀b o,C.base.get? b=some o->s.heap.get? b=some o:=R.bs
 have ng:s.heap.Ns env.globals C.mg:=by rw[R.ok.gg];exact C.hg.keeps keep
 have nb:s.heap.Ns env.builtins C.mb:=by rw[R.ok.gb];exact C.hb.keeps keep
 have fin:PostE C env vars gl own G D m Q v s:=PostE.now R (hv.any D) q
 refine Calls.Name_function_global R.ok.fn h2 ?_ h1
 rcases h3 with h3|⟨h3,h4⟩
 ·exact Calls.loadGlobal_global ng h3 fin
 ·exact Calls.loadGlobal_builtin ng h3 nb h4 fin
theorem z0O{i:Int}{k:Nat}{p:Pos}(q:Q (.int i) σ):AT C env vars gl own d (eval (.Constant (.int i) k p) env) m σ Q:=λA G D s hA R=>
 wpAny_Constant_int (PostE.now (R.tok _) (.int i _) q)
theorem z52{x:Str}{k:Nat}{p:Pos}(q:Q (.str x) σ):AT C env vars gl own d (eval (.Constant (.str x) k p) env) m σ Q:=λA G D s hA R=>
 wpAny_Constant_str (PostE.now (R.tok _) (.str x _) q)
theorem z8U{b:Bool}{k:Nat}{p:Pos}(q:Q (.bool b) σ):AT C env vars gl own d (eval (.Constant (.bool b) k p) env) m σ Q:=λA G D s hA R=>
 wpAny_Constant_bool (PostE.now R (.bool b) q)
theorem y1x{k:Nat}{p:Pos}(q:Q .none σ):AT C env vars gl own d (eval (.Constant .none k p) env) m σ Q:=λA G D s hA R=>
 wpAny_Constant_none (PostE.now R .none q)
end
noncomputable def AC1(C:Cx)(d:Nat)(f:Value->Sem Value)(x:V)(σ:Sto)(Q:V->Sto->Prop):Prop:=
 ∀A G D s v,AOk C A d->RelC C G D σ s->VR C.w D v x->wpAny C.M A (f v) (PostC C G D Q) (λ_ _=>False) s
noncomputable def AC2(C:Cx)(d:Nat)(f:Value->Value->Sem Value)(x y:V)(σ:Sto)(Q:V->Sto->Prop):Prop:=
 ∀A G D s v u,AOk C A d->RelC C G D σ s->VR C.w D v x->VR C.w D u y->wpAny C.M A (f v u) (PostC C G D Q) (λ_ _=>False) s
noncomputable def TR(C:Cx)(d:Nat)(x:V)(σ:Sto)(b:Bool):Prop:=
 ∀A G D s v,AOk C A d->RelC C G D σ s->VR C.w D v x->∀(K:Bool->Shared->Prop),(∀tk,K b {s with toks:=tk})->wpAny C.M A (truthy v) K (λ_ _=>False) s
section
variable {C:Cx} {env:Env} {vars:List Str} {gl:List (Str×V)} {own:Bool} {d:Nat} {m:Loc} {σ:Sto} {Q Q':V->Sto->Prop}
variable {A:Around} {G D D₁:Gh} {s:Shared}
theorem AC1.inF{f:Value->Sem Value}{x:V}(h:AC1 C d f x σ Q){v:Value}(hA:AOk C A d)(R:RelF C env vars gl own G D m σ s)(hv:VR C.w D v x):
  wpAny C.M A (f v) (PostE C env vars gl own G D m Q) (λ_ _=>False) s:=
 wpAny_mono (h A _ D s v hA R.lifted hv) (λ_ _ hpp=>by obtain⟨x,D',σ',a,b,c,e⟩:=hpp;exact⟨x,D',σ',R.dx a,b,R.back c a,e⟩) λ_ _ e=>e
theorem AC2.inF{f:Value->Value->Sem Value}{x y:V}(h:AC2 C d f x y σ Q){v u:Value}(hA:AOk C A d)(R:RelF C env vars gl own G D m σ s)(hv:VR C.w D v x)(hu:VR C.w D u y):
  wpAny C.M A (f v u) (PostE C env vars gl own G D m Q) (λ_ _=>False) s:=
 wpAny_mono (h A _ D s v u hA R.lifted hv hu) (λ_ _ hpp=>by obtain⟨x,D',σ',a,b,c,e⟩:=hpp;exact⟨x,D',σ',R.dx a,b,R.back c a,e⟩) λ_ _ e=>e
theorem z1D{l r:Expr}{op:Operator}{p:Pos}(h:AT C env vars gl own d (eval l env) m σ λX σ₁=>AT C env vars gl own d (eval r env) m σ₁ λY σ₂=>AC2 C d (binaryOp op) X Y σ₂ Q):
  AT C env vars gl own d (eval (.BinOp l op r p) env) m σ Q:=λA G D s hA R=>
 wpAny_BinOp (h.run hA R λv s₁ X D₁ σ₁ a b c e=>wpAny_mono (wpAny_mono (e A G D₁ s₁ hA c) (λu s₂ hpp=>by obtain⟨Y,D₂,σ₂,a',b',c',e'⟩:=hpp;exact z0V (a.trans a') (e'.inF hA c' (b.mono a'.sub) b')) λ_ _ x=>x) (λ_ _ x=>x) λ_ _ x=>x)
theorem z6c{l r:Expr}{op:CmpOp}{p:Pos}(h:AT C env vars gl own d (eval l env) m σ λX σ₁=>AT C env vars gl own d (eval r env) m σ₁ λY σ₂=>AC2 C d (compareOp op) X Y σ₂ Q)
  (hm:autoParam (behindInMarks op r=false) auR):
  AT C env vars gl own d (eval (.Compare l [op] [r] p) env) m σ Q:=λA G D s hA R=>
 wpAny_Compare1 (h.run hA R λv s₁ X D₁ σ₁ a b c e=>wpAny_mono (e A G D₁ s₁ hA c) (λu s₂ hpp=>by obtain⟨Y,D₂,σ₂,a',b',c',e'⟩:=hpp;exact z0V (a.trans a') (e'.inF hA c' (b.mono a'.sub) b')) λ_ _ x=>x) hm
theorem z6O{x:Expr}{op:UnaryOp}{p:Pos}(h:AT C env vars gl own d (eval x env) m σ λX σ₁=>AC1 C d (unaryOp op) X σ₁ Q):AT C env vars gl own d (eval (.UnaryOp op x p) env) m σ Q:=λA G D s hA R=>
 wpAny_UnaryOp (h.run hA R λv s₁ X D₁ σ₁ a b c e=>z0V a (e.inF hA c b))
theorem z4k{X:V}{b:Bool}(t:TR C d X σ b)(q:Q (.bool (!b)) σ):AC1 C d (unaryOp .Not) X σ Q:=λA G D s v hA R hv=>
 not_value (t A G D s v hA R hv _ λtk=>PostC.now (R.tok tk) (.bool _) q)
inductive PostB(C:Cx)(env:Env)(vars:List Str)(gl:List (Str×V))(own:Bool)(G D:Gh)(m:Loc)(Q:Bool->Sto->Prop)(b:Bool)(s':Shared):Prop
 |mk (D':Gh) (σ':Sto):DX G D D'->RelF C env vars gl own G D' m σ' s'->Q b σ'->PostB C env vars gl own G D m Q b s'
noncomputable def AB(C:Cx)(env:Env)(vars:List Str)(gl:List (Str×V))(own:Bool)(d:Nat)(t:Sem Bool)(m:Loc)(σ:Sto)(Q:Bool->Sto->Prop):Prop:=
 ∀A G D s,AOk C A d->RelF C env vars gl own G D m σ s->wpAny C.M A t (PostB C env vars gl own G D m Q) (λ_ _=>False) s
variable {P:Bool->Sto->Prop}
theorem PostB.weak{b:Bool}{s':Shared}(h:DX G D D₁)(p:PostB C env vars gl own G D₁ m P b s'):PostB C env vars gl own G D m P b s':=
 by obtain⟨D',σ',a,c,e⟩:=p;exact⟨D',σ',h.trans a,c,e⟩
theorem z7K{t:Sem Bool}(h:DX G D D₁)(p:wpAny C.M A t (PostB C env vars gl own G D₁ m P) (λ_ _=>False) s):wpAny C.M A t (PostB C env vars gl own G D m P) (λ_ _=>False) s:=
 wpAny_mono p (λ_ _ q=>q.weak h) λ_ _ e=>e
theorem AB.run{t:Sem Bool}(h:AB C env vars gl own d t m σ P)(hA:AOk C A d)(R:RelF C env vars gl own G D m σ s){K:Bool->Shared->Prop}
  (k:∀b s' D' σ',DX G D D'->RelF C env vars gl own G D' m σ' s'->P b σ'->K b s'):wpAny C.M A t K (λ_ _=>False) s:=
 wpAny_mono (h A G D s hA R) (λv s' hpp=>by obtain⟨D',σ',a,c,e⟩:=hpp;exact k v s' D' σ' a c e) λ_ _ e=>e
theorem TR.inF{x:V}{b:Bool}(t:TR C d x σ b){v:Value}(hA:AOk C A d)(R:RelF C env vars gl own G D m σ s)(hv:VR C.w D v x){K:Bool->Shared->Prop}(k:∀tk,K b {s with toks:=tk}):
  wpAny C.M A (truthy v) K (λ_ _=>False) s:=t A _ D s v hA R.lifted hv K k
noncomputable def TRX(C:Cx)(d:Nat)(x:V)(σ:Sto)(P:Bool->Sto->Prop):Prop:=∃b,TR C d x σ b/\P b σ
theorem z9D{e:Expr}(h:AT C env vars gl own d (eval e env) m σ λX σ₁=>TRX C d X σ₁ P)
  (he:∀whole,isTrue e env whole=(do let v <-whole;standAt e.pos;holding [v] (truthy v)):=by intro;with_unfolding_all exact rfl):AB C env vars gl own d (isTrue e env (eval e env)) m σ P:=λA G D s hA R=>
 wpAny_isTrue_value (h.run hA R λv s₁ X D₁ σ₁ a b c hpp=>by obtain⟨t,ht,hp⟩:=hpp;exact ht.inF hA c b λtk=>⟨D₁,σ₁,a,c.tok tk,hp⟩) (he _)
theorem y3K{x:Expr}{p:Pos}{whole:Sem Value}(h:AB C env vars gl own d (isTrue x env (eval x env)) m σ λb σ₁=>P (!b) σ₁):AB C env vars gl own d (isTrue (.UnaryOp .Not x p) env whole) m σ P:=λA G D s hA R=>
 wpAny_isTrue_Not (h.run hA R λb s₁ D₁ σ₁ a c e=>⟨D₁,σ₁,a,c,e⟩)
theorem z1x{l r:Expr}{op:CmpOp}{p:Pos}{whole:Sem Value}(h:AT C env vars gl own d (eval l env) m σ λX σ₁=>AT C env vars gl own d (eval r env) m σ₁ λY σ₂=>AC2 C d (compareOp op) X Y σ₂ λZ σ₃=>TRX C d Z σ₃ P)
  (hm:autoParam (behindInMarks op r=false) auR):AB C env vars gl own d (isTrue (.Compare l [op] [r] p) env whole) m σ P:=λA G D s hA R=>
 wpAny_isTrue_Compare1 (h.run hA R λv s₁ X D₁ σ₁ a b c e=>wpAny_mono (e A G D₁ s₁ hA c) (λu s₂ hpp=>by obtain⟨Y,D₂,σ₂,a',b',c',e'⟩:=hpp;exact wpAny_mono (e'.inF hA c' (b.mono a'.sub) b') (λz s₃ hpp=>by obtain⟨Z,D₃,σ₃,a'',b'',c'',t,ht,hp⟩:=hpp;exact ht.inF hA c'' b'' λtk=>⟨D₃,σ₃,(a.trans a').trans a'',c''.tok tk,hp⟩) λ_ _ x=>x) λ_ _ x=>x) hm
theorem z8X{op:BoolOp}{vs:List Expr}{p:Pos}{whole:Sem Value}(h:AB C env vars gl own d (allTrue op vs env) m σ P):AB C env vars gl own d (isTrue (.BoolOp op vs p) env whole) m σ P:=λA G D s hA R=>
 wpAny_isTrue_BoolOp (h A G D s hA R)
theorem z88(q:P true σ):AB C env vars gl own d (allTrue .And [] env) m σ P:=λA G D s hA R=>wpAny_allTrue_And_nil ⟨D,σ,DX.refl _ _,R,q⟩
theorem z98(q:P false σ):AB C env vars gl own d (allTrue .Or [] env) m σ P:=λA G D s hA R=>wpAny_allTrue_Or_nil ⟨D,σ,DX.refl _ _,R,q⟩
theorem y22{x:Expr}{rest:List Expr}(h:AB C env vars gl own d (isTrue x env (eval x env)) m σ λb σ₁=>(b=true->AB C env vars gl own d (allTrue .And rest env) m σ₁ P)/\(b=false->P false σ₁)):
  AB C env vars gl own d (allTrue .And (x::rest) env) m σ P:=λA G D s hA R=>
 wpAny_allTrue_And_cons (h.run hA R λb s₁ D₁ σ₁ a c e=>by
  cases b with
  |true=>exact z7K a (e.1 rfl A G D₁ s₁ hA c)
  |false=>exact⟨D₁,σ₁,a,c,e.2 rfl⟩)
theorem y3X{x:Expr}{rest:List Expr}(h:AB C env vars gl own d (isTrue x env (eval x env)) m σ λb σ₁=>(b=true->P true σ₁)/\(b=false->AB C env vars gl own d (allTrue .Or rest env) m σ₁ P)):
  AB C env vars gl own d (allTrue .Or (x::rest) env) m σ P:=λA G D s hA R=>
 wpAny_allTrue_Or_cons (h.run hA R λb s₁ D₁ σ₁ a c e=>by
  cases b with
  |false=>exact z7K a (e.2 rfl A G D₁ s₁ hA c)
  |true=>exact⟨D₁,σ₁,a,c,e.1 rfl⟩)
theorem y0w{t b o:Expr}{p:Pos}(h:AB C env vars gl own d (isTrue t env (eval t env)) m σ λc σ₁=>(c=true->AT C env vars gl own d (eval b env) m σ₁ Q)/\(c=false->AT C env vars gl own d (eval o env) m σ₁ Q)):
  AT C env vars gl own d (eval (.IfExp t b o p) env) m σ Q:=λA G D s hA R=>
 wpAny_IfExp (h.run hA R λb s₁ D₁ σ₁ a c e=>by
  cases b with
  |true=>exact z0V a (e.1 rfl A G D₁ s₁ hA c)
  |false=>exact z0V a (e.2 rfl A G D₁ s₁ hA c))
theorem y3n{x y:Sem Value}{r:List (Sem Value)}{p:Pos}(h:AT C env vars gl own d x m σ λX σ₁=>∃b,TR C d X σ₁ b/\(b=true->AT C env vars gl own d (boolOp p .And (y::r)) m σ₁ Q)/\(b=false->Q X σ₁)):
  AT C env vars gl own d (boolOp p .And (x::y::r)) m σ Q:=λA G D s hA R=>by
 show wpAny C.M A (do
  let v <-x
  standAt p
  let t <-holding [v] (truthy v)
  match BoolOp.And,t with
  | .And,false| .Or,true=>pure v
  |_,_=>boolOp p .And (y::r)) _ _ s
 refine wpAny_bind (h.run hA R λv s₁ X D₁ σ₁ a b c hpp=> ?_)
 obtain⟨t,ht,h1,h2⟩:=hpp
 refine wpAny_bind (wpAny_standAt (wpAny_bind (wpAny_holding (ht.inF hA c b λtk=> ?_))))
 cases t with
 |false=>exact wpAny_pure ⟨X,D₁,σ₁,a,b,c.tok tk,h2 rfl⟩
 |true=>exact z0V a (h1 rfl A G D₁ _ hA (c.tok tk))
theorem y4a{x y:Sem Value}{r:List (Sem Value)}{p:Pos}(h:AT C env vars gl own d x m σ λX σ₁=>∃b,TR C d X σ₁ b/\(b=true->Q X σ₁)/\(b=false->AT C env vars gl own d (boolOp p .Or (y::r)) m σ₁ Q)):
  AT C env vars gl own d (boolOp p .Or (x::y::r)) m σ Q:=λA G D s hA R=>by
 show wpAny C.M A (do
  let v <-x
  standAt p
  let t <-holding [v] (truthy v)
  match BoolOp.Or,t with
  | .And,false| .Or,true=>pure v
  |_,_=>boolOp p .Or (y::r)) _ _ s
 refine wpAny_bind (h.run hA R λv s₁ X D₁ σ₁ a b c hpp=> ?_)
 obtain⟨t,ht,h1,h2⟩:=hpp
 refine wpAny_bind (wpAny_standAt (wpAny_bind (wpAny_holding (ht.inF hA c b λtk=> ?_))))
 cases t with
 |true=>exact wpAny_pure ⟨X,D₁,σ₁,a,b,c.tok tk,h1 rfl⟩
 |false=>exact z0V a (h2 rfl A G D₁ _ hA (c.tok tk))
theorem z9a{op:BoolOp}{vs:List Expr}{p:Pos}(h:AT C env vars gl own d (boolOp p op (evalEach vs env)) m σ Q):AT C env vars gl own d (eval (.BoolOp op vs p) env) m σ Q:=λA G D s hA R=>by
 rw[arm_eval_BoolOp]
 exact h A G D s hA R
end
end
section
section
variable {C:Cx} {env:Env} {vars:List Str} {gl:List (Str×V)} {own:Bool} {d:Nat} {m:Loc} {σ σ':Sto}
variable {A:Around} {G D D₁:Gh} {s:Shared}
theorem RelC.footLives(R:RelC C G D σ s){a:Addr}(h:a∈foot σ):∃o,s.heap.get? a=some o:=by
 have key:∀(τ:Sto),(∀p∈τ,PR s.heap p.1 p.2.1 p.2.2)->a∈foot τ->∃o,s.heap.get? a=some o:=by
  intro τ
  induction τ with
  |nil=>intro _ h;simp[foot] at h
  |cons p r ih=>
   obtain⟨b,o,x⟩:=p
   intro hp h
   rcases List.mem_append.mp h with h|h
   ·exact(hp _ (.head _)).lives a h
   ·exact ih (λq hq=>hp q (.tail _ hq)) h
 exact key σ R.pl h
theorem RelC.footLt(R:RelC C G D σ s){a:Addr}(h:a∈foot σ):a<s.heap.objs.size:=let⟨_,e⟩:=R.footLives h;Heap.lt_size e
theorem RelC.new_notFoot(R:RelC C G D σ s):s.heap.objs.size∉foot σ:=λh=>Nat.lt_irrefl _ (R.footLt h)
theorem RelC.new_G(R:RelC C G D σ s):G s.heap.objs.size=none:=by
 cases e:G s.heap.objs.size with
 |none=>rfl
 |some o=>obtain⟨_,h,_⟩:=R.g _ _ e;exact absurd (Heap.lt_size h) (Nat.lt_irrefl _)
theorem RelC.new_D(R:RelC C G D σ s):D s.heap.objs.size=none:=by
 cases e:D s.heap.objs.size with
 |none=>rfl
 |some o=>exact absurd (Heap.lt_size (R.d _ _ e)) (Nat.lt_irrefl _)
theorem RelC.keep(R:RelC C G D σ s){h':Heap}(t:Nat)(k:∀b o,s.heap.get? b=some o->h'.get? b=some o):RelC C G D σ {s with heap:=h',toks:=t} where
 same:=let⟨h,_,e⟩:=R.same;⟨h',t,by rw[e]⟩
 bs:=λa o e=>k _ _ (R.bs a o e)
 g:=λa o e=>R.g' e λ_=>k _ _
 d:=λa o e=>k _ _ (R.d a o e)
 base:=R.base
 nd:=R.nd
 offG:=R.offG
 offD:=R.offD
 pl:=λp hp=>(R.pl p hp).at λb _ ob e=>k _ _ e
 sto:=R.sto
theorem RelC.keepBut(R:RelC C G D σ s){h':Heap}(t:Nat)(wr:List Addr)(hw:∀a∈wr,G a=none/\D a=none/\a∉foot σ)(k:∀b o,b∉wr->s.heap.get? b=some o->h'.get? b=some o):
  RelC C G D σ {s with heap:=h',toks:=t} where
 same:=let⟨h,_,e⟩:=R.same;⟨h',t,by rw[e]⟩
 bs:=λa o e=>k _ _ (λm=>nomatch (hw a m).1.symm.trans (R.base a o e)) (R.bs a o e)
 g:=λa o e=>R.g' e λ_=>k _ _ (λm=>nomatch (hw a m).1.symm.trans e)
 d:=λa o e=>k _ _ (λm=>by rw[(hw a m).2.1] at e;cases e) (R.d a o e)
 base:=R.base
 nd:=R.nd
 offG:=R.offG
 offD:=R.offD
 pl:=λp hp=>(R.pl p hp).at λb hb ob e=>k _ _ (λm=>(hw b m).2.2 (z1A (ob:=p.2.1) hp b hb)) e
 sto:=R.sto
theorem RelC.push(R:RelC C G D σ s)(o:Obj):RelC C G D σ {s with heap:=s.heap.push o}:=by
 have:=R.keep (h':=s.heap.push o) s.toks λb x e=>Heap.get?_push_of_some _ e
 exact this
noncomputable def z15(D:Gh)(a:Addr)(o:Obj):Gh:=λb=>if b=a then some o else D b
theorem z0T(D:Gh)(a:Addr)(o:Obj):z15 D a o a=some o:=by simp[z15]
theorem z1a{D:Gh}{a b:Addr}(o:Obj)(h:b≠a):z15 D a o b=D b:=by simp[z15,h]
theorem z3v{D:Gh}{a:Addr}(o:Obj)(h:D a=none):Sub D (z15 D a o):=λb x e=>by
 rw[z1a];exact e
 rintro rfl;rw[h] at e;cases e
theorem RelC.newF(R:RelC C G D σ s)(o:Obj)(hf:autoParam (o.isFreed=false) auR):RelC C G (z15 D s.heap.objs.size o) σ {s with heap:=s.heap.push o}/\DX G D (z15 D s.heap.objs.size o):=by
 have R':=R.push o
 refine⟨⟨R'.same,R'.bs,R'.g,λa x e=> ?_,R'.base,R'.nd,R'.offG,λa ha=> ?_,R'.pl,λp hp=>(R'.sto p hp).mono (z3v o R.new_D)⟩,z3v o R.new_D,λa e g=> ?_⟩
 ·by_cases h:a=s.heap.objs.size
  ·subst h;rw[z0T] at e;cases e;exact Heap.get?_push_size _ hf
  ·rw[z1a o h] at e;exact R'.d a x e
 ·rw[z1a];exact R.offD a ha
  rintro rfl;exact R.new_notFoot ha
 ·rw[z1a];exact e
  rintro rfl;exact g R.new_G
theorem RelC.newM(R:RelC C G D σ s)(o:Obj)(x:AO)(hr:HR C.w D o x)(hx:z0F s.heap.objs.size x=[s.heap.objs.size])(hp:∀h a,PR h a o x=(h.get? a=some o))(hf:autoParam (o.isFreed=false) auR):
  RelC C G D ((s.heap.objs.size,o,x)::σ) {s with heap:=s.heap.push o}:=by
 have R':=R.push o
 refine⟨R'.same,R'.bs,R'.g,R'.d,R'.base,?_,λa ha=> ?_,λa ha=> ?_,λp hp'=> ?_,λp hp'=> ?_⟩
 ·show(z0F _ _++foot σ).Nodup
  rw[hx]
  exact List.nodup_cons.mpr ⟨R.new_notFoot,R.nd⟩
 ·have:a∈z0F s.heap.objs.size x++foot σ:=ha
  rw[hx] at this
  rcases List.mem_cons.mp this with rfl|h
  ·exact R.new_G
  ·exact R.offG a h
 ·have:a∈z0F s.heap.objs.size x++foot σ:=ha
  rw[hx] at this
  rcases List.mem_cons.mp this with rfl|h
  ·exact R.new_D
  ·exact R.offD a h
 ·rcases List.mem_cons.mp hp' with rfl|h
  ·show PR _ _ _ _
   rw[hp];exact Heap.get?_push_size _ hf
  ·exact R'.pl p h
 ·rcases List.mem_cons.mp hp' with rfl|h
  ·exact hr
  ·exact R'.sto p h
inductive Upd(a:Addr)(o:Obj)(x:AO)(o':Obj)(x':AO):Sto->Sto->Prop
 |head {r:Sto}:Upd a o x o' x' ((a,o,x)::r) ((a,o',x')::r)
 |tail {p:Addr×Obj×AO} {r r':Sto}:Upd a o x o' x' r r'->Upd a o x o' x' (p::r) (p::r')
theorem z1f(σ τ:Sto):foot (σ++τ)=foot σ++foot τ:=by
 induction σ with
 |nil=>rfl
 |cons p r ih=>obtain⟨a,o,x⟩:=p;show z0F a x++foot (r++τ)=z0F a x++foot r++foot τ;rw[ih,List.append_assoc]
theorem Upd.app{a:Addr}{o o':Obj}{x x':AO}{r r':Sto}(τ:Sto)(h:Upd a o x o' x' r r'):Upd a o x o' x' (τ++r) (τ++r'):=by
 induction τ with
 |nil=>exact h
 |cons p t ih=>exact .tail ih
theorem Upd.split{a:Addr}{o o':Obj}{x x':AO}{r r':Sto}(h:Upd a o x o' x' r r'):∃u v,r=u++(a,o,x)::v/\r'=u++(a,o',x')::v:=by
 induction h with
 |head=>exact⟨[],_,rfl,rfl⟩
 |tail _ ih=>obtain⟨u,v,rfl,rfl⟩:=ih;exact⟨_::u,v,rfl,rfl⟩
theorem Upd.mem{a:Addr}{o o':Obj}{x x':AO}{r r':Sto}(h:Upd a o x o' x' r r'):(a,o,x)∈r:=by
 obtain⟨u,v,rfl,rfl⟩:=h.split;simp
theorem RelC.upd(R:RelC C G D σ s){a b:Addr}{o o':Obj}{x x':AO}(U:Upd a o x o' x' σ σ'){h':Heap}(t:Nat)(hb:b∈z0F a x)(hs:Heap.SameBut b s.heap h')(hx:z0F a x'=z0F a x)
  (hp:PR h' a o' x') (hr:HR C.w D o' x'):RelC C G D σ' {s with heap:=h',toks:=t}:=by
 obtain⟨u,v,rfl,rfl⟩:=U.split
 have hmem:(a,o,x)∈u++(a,o,x)::v:=by simp
 have hbf:b∈foot (u++(a,o,x)::v):=z1A hmem b hb
 have ft:foot (u++(a,o',x')::v)=foot (u++(a,o,x)::v):=by rw[z1f,z1f];show foot u++(z0F a x'++foot v)=foot u++(z0F a x++foot v);rw[hx]
 have nd:=R.nd
 rw[z1f] at nd
 have nd':(foot u++(z0F a x++foot v)).Nodup:=nd
 have off:∀q,q∈u∨q∈v->b∉z0F q.1 q.2.2:=by
  intro q hq hbq
  have h1:=List.nodup_append.mp nd'
  rcases hq with hq|hq
  ·exact h1.2.2 b (z1A (a:=q.1) (ob:=q.2.1) (o:=q.2.2) hq b hbq) b (List.mem_append_left _ hb) rfl
  ·exact(List.nodup_append.mp h1.2.1).2.2 b hb b (z1A (a:=q.1) (ob:=q.2.1) (o:=q.2.2) hq b hbq) rfl
 refine⟨let⟨h,_,e⟩:=R.same;⟨h',t,by rw[e]⟩,λc oc e=>hs.extBut c oc (by rintro rfl;exact nomatch (R.offG _ hbf).symm.trans (R.base _ _ e)) (R.bs c oc e),λc oc e=>R.g' e λo'=>hs.extBut c o' (by rintro rfl;exact nomatch (R.offG _ hbf).symm.trans e),λc oc e=> ?_,R.base,by rw[ft];exact R.nd,λc hc=>R.offG c (by rw[ft] at hc;exact hc),λc hc=>R.offD c (by rw[ft] at hc;exact hc),λq hq=> ?_,λq hq=> ?_⟩
 ·exact hs.extBut c oc (by rintro rfl;rw[R.offD _ hbf] at e;cases e) (R.d c oc e)
 ·have keep:(q∈u∨q∈v)->PR h' q.1 q.2.1 q.2.2:=λhq'=>(R.pl q (by rcases hq' with h|h<;>simp[h])).at λc hc ob e=>hs.extBut c ob (by rintro rfl;exact off q hq' hc) e
  rcases List.mem_append.mp hq with h|h
  ·exact keep (.inl h)
  ·rcases List.mem_cons.mp h with rfl|h
   ·exact hp
   ·exact keep (.inr h)
 ·rcases List.mem_append.mp hq with h|h
  ·exact R.sto q (by simp[h])
  ·rcases List.mem_cons.mp h with rfl|h
   ·exact hr
   ·exact R.sto q (by simp[h])
theorem RelC.drop(R:RelC C G D σ s){τ:Sto}(hs:τ.Sublist σ):RelC C G D τ s:=by
 have fs:(foot τ).Sublist (foot σ):=by
  have key:∀{a b:Sto},a.Sublist b->(foot a).Sublist (foot b):=by
   intro a b h
   induction h with
   |slnil=>exact .slnil
   |cons p _ ih=>obtain⟨c,o,x⟩:=p;exact ih.trans (List.sublist_append_right _ _)
   |cons_cons p _ ih=>obtain⟨c,o,x⟩:=p;exact List.Sublist.append (List.Sublist.refl _) ih
  exact key hs
 exact⟨R.same,R.bs,R.g,R.d,R.base,fs.nodup R.nd,λa h=>R.offG a (fs.subset h),λa h=>R.offD a (fs.subset h),λp h=>R.pl p (hs.subset h),λp h=>R.sto p (hs.subset h)⟩
theorem RelC.freezeL(R:RelC C G D σ s){a:Addr}{o:Obj}{xs:List V}{u v:Sto}(e:σ=u++(a,o,.list xs)::v):
  RelC C G (z15 D a o) (u++v) s/\DX G D (z15 D a o)/\VR C.w (z15 D a o) (.ref a) (.lst xs):=by
 have hmem:(a,o,AO.list xs)∈σ:=by rw[e];simp
 have haf:a∈foot σ:=z1J hmem
 have hD:=R.offD a haf
 have hsub:=z3v o hD
 have R':=R.drop (τ:=u++v) (by rw[e];exact List.Sublist.append (List.Sublist.refl _) (List.sublist_cons_self _ _))
 have hno:a∉foot (u++v):=by
  have nd:=R.nd
  rw[e,z1f] at nd
  have nd':(foot u++(a::foot v)).Nodup:=nd
  rw[z1f]
  intro h
  have h1:=List.nodup_append.mp nd'
  rcases List.mem_append.mp h with h|h
  ·exact h1.2.2 a h a (.head _) rfl
  ·exact(List.nodup_cons.mp h1.2.1).1 h
 have hpl:s.heap.get? a=some o:=R.pl _ hmem
 obtain⟨vs,n,ho,hr⟩:=R.sto _ hmem
 refine⟨⟨R'.same,R'.bs,R'.g,λb x eb=> ?_,R'.base,R'.nd,R'.offG,λb hb=> ?_,R'.pl,λp hp=>(R'.sto p hp).mono hsub⟩,⟨hsub,λb eb g=> ?_⟩,?_⟩
 ·by_cases h:b=a
  ·subst h;rw[z0T] at eb;cases eb;exact hpl
  ·rw[z1a o h] at eb;exact R'.d b x eb
 ·rw[z1a];exact R'.offD b hb
  rintro rfl;exact hno hb
 ·rw[z1a];exact eb
  rintro rfl;exact g (R.offG _ haf)
 ·have ho':o=z0p vs n:=ho
  refine VR.lst (vs:=vs.toList) (n:=n) ?_ (hr.mono hsub)
  rw[z0T,ho']
end
end
section
section
variable {C:Cx} {env:Env} {vars:List Str} {gl:List (Str×V)} {own:Bool} {d:Nat} {m m':Loc} {σ σ':Sto}
variable {A:Around} {G D D₁:Gh} {s:Shared}
theorem y2l{m:Loc}{i j:Nat}{X Y:V}(h:(m.set i (some X))[j]? =some (some Y)):(j=i/\Y=X)∨(j≠i/\m[j]? =some (some Y)):=by
 rw[List.getElem?_set] at h
 by_cases e:i=j
 ·subst e
  rw[if_pos rfl] at h
  split at h
  ·simp at h;exact .inl ⟨rfl,h.symm⟩
  ·cases h
 ·rw[if_neg e] at h;exact .inr ⟨λq=>e q.symm,h⟩
theorem z5p{l:List Str}(hn:l.Nodup){i j:Nat}{x:Str}(h1:l[i]? =some x)(h2:l[j]? =some x):i=j:=by
 have hi:=(List.getElem?_eq_some_iff.mp h1)
 have hj:=(List.getElem?_eq_some_iff.mp h2)
 exact(List.getElem_inj (h₀:=hi.1) (h₁:=hj.1) hn).mp (hi.2.trans hj.2.symm)
theorem z9M{l:List Str}{m:Loc}{i j:Nat}{x y:Str}{X Y:V}{Z:Str->V->Prop}(nd:l.Nodup)(h1:l[i]? =some x)(e1:l[j]? =some y)(e3:(m.set i (some X))[j]? =some (some Y))(hx:Z x X)(hy:y≠x->m[j]? =some (some Y)->Z y Y):Z y Y:=by
 rcases y2l e3 with⟨e,rfl⟩|⟨hne,e⟩
 ·rw[e,h1] at e1
  exact Option.some.inj e1▸hx
 ·exact hy (λq=>hne (z5p nd (q▸e1) h1)) e
theorem RelF.storeL{s':Shared}{i:Nat}{x:Str}{X:V}{v:Value}{mm:Str->Option Value}(R:RelF C env vars gl own G D m σ s)(RC:RelC C G D σ s')(h1:vars[i]? =some x)(hl:env.kindOf x=some .local)(hv:VR C.w D v X)(hn':s'.heap.Ns env.locals (λy=>if y=x then some v else mm y))
  (hmm:∀(i:Nat) x X,vars[i]? =some x->env.kindOf x=some .local->m[i]? =some (some X)->∃v,mm x=some v/\VR C.w D v X) (hs:Heap.SameBut env.locals s.heap s'.heap):RelF C env vars gl own G D (m.set i (some X)) σ s' where
 toRelC:=RC
 ok:=R.ok
 offL:=R.offL
 ns:=⟨_,hn',λj y Y e1 e2 e3=>z9M (Z:=λy Y=>∃u,(if y=x then some v else mm y)=some u/\VR C.w D u Y) R.ok.nd h1 e1 e3 ⟨v,if_pos rfl,hv⟩ λhne e3=>by rw[if_neg hne];exact hmm j y Y e1 e2 e3⟩
 cl:=λj y c e1 e2 e3=>by
  obtain⟨q1,⟨ov,q2,q3⟩,q4⟩:=R.cl j y c e1 e2 e3
  exact⟨q1,⟨ov,q2.sameBut hs q1,λY e=>z9M (Z:=λy Y=>env.kindOf y=some .cell->∃v,ov=some v/\VR C.w D v Y) R.ok.nd h1 e1 e (λe2=>nomatch hl.symm.trans e2) (λ_ e _=>q3 Y e) e2⟩,q4⟩
theorem RelF.storeC{s':Shared}{i:Nat}{x:Str}{X:V}{v:Value}{c:Addr}(R:RelF C env vars gl own G D m σ s)(RC:RelC C G D σ s')(h1:vars[i]? =some x)(hc:env.kindOf x=some .cell)(hcc:env.cells.lookup x=some c)(hv:VR C.w D v X)(hne:c≠env.locals)(hn':s'.heap.IsCell c (some v))
  (hs:Heap.SameBut c s.heap s'.heap):RelF C env vars gl own G D (m.set i (some X)) σ s' where
 toRelC:=RC
 ok:=R.ok
 offL:=R.offL
 ns:=by
  obtain⟨mm,hn,hmm⟩:=R.ns
  exact⟨mm,hn.sameBut hs (Ne.symm hne),λj y Y e1 e2 e3=>z9M (Z:=λy Y=>env.kindOf y=some .local->∃u,mm y=some u/\VR C.w D u Y) R.ok.nd h1 e1 e3 (λe2=>nomatch hc.symm.trans e2) (λ_ e3 e2=>hmm j y Y e1 e2 e3) e2⟩
 cl:=λj y c₂ e1 e2 e3=>by
  obtain⟨p1,⟨ov,p2,p3⟩,p4⟩:=R.cl j y c₂ e1 e2 e3
  by_cases hy:y=x
  ·subst hy
   obtain rfl:=Option.some.inj (hcc.symm.trans e3)
   exact⟨p1,⟨_,hn',λY e=>z9M (Z:=λ_ Y=>∃u,some v=some u/\VR C.w D u Y) R.ok.nd h1 e1 e ⟨v,rfl,hv⟩ λhne _=>absurd rfl hne⟩,p4⟩
  ·exact⟨p1,⟨ov,p2.sameBut hs λe=>hy (name_of_addr R.ok.ap (mem_of_lookup e3) (e▸mem_of_lookup hcc)),λY e=>z9M (Z:=λz Y=>z=y->∃u,ov=some u/\VR C.w D u Y) R.ok.nd h1 e1 e (λe=>absurd e.symm hy) (λ_ e _=>p3 Y e) rfl⟩,p4⟩
theorem RelF.store(R:RelF C env vars gl own G D m σ s){x:Str}{X:V}{v:Value}(hP:Put vars m x X m')(hv:VR C.w D v X)(hk:own=true∨env.kindOf x=some .local){K:Unit->Shared->Prop}
  (k:∀s',RelF C env vars gl own G D m' σ s'->K () s'):wpAny C.M A (storeName env x v) K (λ_ _=>False) s:=by
 obtain⟨i,h1,rfl⟩:=hP.get
 rcases(R.ok.vk x (List.mem_of_getElem? h1)).2 with hl|⟨hc,c,hcc⟩
 ·obtain⟨mm,hn,hmm⟩:=R.ns
  exact wpAny_storeName_local hl hn (λh' hn' hs'=>k _ (R.storeL (R.toRelC.keepBut _ [env.locals] (λa ha=>List.mem_singleton.mp ha▸R.offL) λb o hb e=>hs'.extBut b o (λq=>hb (List.mem_singleton.mpr q)) e) h1 hl hv hn' hmm hs')) (by rw[R.ok.fn];rfl)
 ·have hown:own=true:=hk.resolve_right (by rw[hc];exactλe=>nomatch e)
  subst hown
  obtain⟨q1,⟨ov,q2,q3⟩,q4⟩:=R.cl i x c h1 hc hcc
  exact wpAny_storeName_cell R.ok.fn hc hcc q2 λh' hc' hs'=>k _ (R.storeC (R.toRelC.keepBut s.toks [c] (λa ha=>List.mem_singleton.mp ha▸q4) λb o hb e=>hs'.extBut b o (λq=>hb (List.mem_singleton.mpr q)) e) h1 hc hcc hv q1 hc' hs')
inductive PostU(C:Cx)(env:Env)(vars:List Str)(gl:List (Str×V))(own:Bool)(G D:Gh)(K:Loc->Sto->Prop)(u:Unit)(s':Shared):Prop
 |mk (m':Loc) (D':Gh) (σ':Sto):DX G D D'->RelF C env vars gl own G D' m' σ' s'->K m' σ'->PostU C env vars gl own G D K u s'
noncomputable def AA(C:Cx)(env:Env)(vars:List Str)(gl:List (Str×V))(own:Bool)(d:Nat)(t:Value->Sem Unit)(x:V)(m:Loc)(σ:Sto)(K:Loc->Sto->Prop):Prop:=
 ∀A G D s v,AOk C A d->RelF C env vars gl own G D m σ s->VR C.w D v x->wpAny C.M A (t v) (PostU C env vars gl own G D K) (λ_ _=>False) s
variable {K:Loc->Sto->Prop}
theorem PostU.weak{u:Unit}{s':Shared}(h:DX G D D₁)(p:PostU C env vars gl own G D₁ K u s'):PostU C env vars gl own G D K u s':=
 by obtain⟨m',D',σ',a,c,e⟩:=p;exact⟨m',D',σ',h.trans a,c,e⟩
theorem z0v{x:Str}{p:Pos}{X:V}(hP:Put vars m x X m')(k:K m' σ)(hk:own=true∨env.kindOf x=some .local:=by exact .inl rfl):AA C env vars gl own d (assign (.Name x p) env) X m σ K:=λA G D s v hA R hv=>by
 show wpAny C.M A (do standAt p;bindName env x v) _ _ s
 exact wpAny_bind (wpAny_standAt (wpAny_bindName (R.store hP hv hk λs' R'=>⟨m',D,σ,DX.refl _ _,R',k⟩)))
inductive Fl where
 |next
 |brk
 |cont
 |ret (x:V)
noncomputable def FlR(w:World)(D:Gh):Flow->Fl->Prop
 | .next,.next=>True
 | .brk,.brk=>True
 | .cont,.cont=>True
 | .ret v,.ret x=>VR w D v x
 |_,_=>False
inductive PostS(C:Cx)(env:Env)(vars:List Str)(gl:List (Str×V))(own:Bool)(G D:Gh)(Q:Fl->Loc->Sto->Prop)(f:Flow)(s':Shared):Prop
 |mk (fl:Fl) (m':Loc) (D':Gh) (σ':Sto):DX G D D'->FlR C.w D' f fl->RelF C env vars gl own G D' m' σ' s'->Q fl m' σ'->PostS C env vars gl own G D Q f s'
noncomputable def AS(C:Cx)(env:Env)(vars:List Str)(gl:List (Str×V))(own:Bool)(d:Nat)(t:Sem Flow)(m:Loc)(σ:Sto)(Q:Fl->Loc->Sto->Prop):Prop:=
 ∀A G D s,AOk C A d->RelF C env vars gl own G D m σ s->wpAny C.M A t (PostS C env vars gl own G D Q) (λ_ _=>False) s
variable {Q:Fl->Loc->Sto->Prop}
theorem PostS.weak{u:Flow}{s':Shared}(h:DX G D D₁)(p:PostS C env vars gl own G D₁ Q u s'):PostS C env vars gl own G D Q u s':=
 by obtain⟨fl,m',D',σ',a,b,c,e⟩:=p;exact⟨fl,m',D',σ',h.trans a,b,c,e⟩
theorem z4C{t:Sem Flow}(h:DX G D D₁)(p:wpAny C.M A t (PostS C env vars gl own G D₁ Q) (λ_ _=>False) s):wpAny C.M A t (PostS C env vars gl own G D Q) (λ_ _=>False) s:=
 wpAny_mono p (λ_ _ q=>q.weak h) λ_ _ e=>e
theorem AS.run{t:Sem Flow}(h:AS C env vars gl own d t m σ Q)(hA:AOk C A d)(R:RelF C env vars gl own G D m σ s){K:Flow->Shared->Prop}
  (k:∀f s' fl m' D' σ',DX G D D'->FlR C.w D' f fl->RelF C env vars gl own G D' m' σ' s'->Q fl m' σ'->K f s'):wpAny C.M A t K (λ_ _=>False) s:=
 wpAny_mono (h A G D s hA R) (λv s' hpp=>by obtain⟨fl,m',D',σ',a,b,c,e⟩:=hpp;exact k v s' fl m' D' σ' a b c e) λ_ _ e=>e
theorem AS.mono{t:Sem Flow}{Q':Fl->Loc->Sto->Prop}(h:AS C env vars gl own d t m σ Q)(hQ:∀f m σ,Q f m σ->Q' f m σ):AS C env vars gl own d t m σ Q':=λA G D s hA R=>
 h.run hA R λf s' fl m' D' σ' a b c e=>⟨fl,m',D',σ',a,b,c,hQ _ _ _ e⟩
theorem y34(q:Q .next m σ):AS C env vars gl own d (execs [] env) m σ Q:=λA G D s hA R=>wpAny_execs_nil ⟨.next,m,D,σ,DX.refl _ _,trivial,R,q⟩
noncomputable def y36(C:Cx)(env:Env)(vars:List Str)(gl:List (Str×V))(own:Bool)(d:Nat)(rest:List Stmt)(Q:Fl->Loc->Sto->Prop):Fl->Loc->Sto->Prop
 | .next,m,σ=>AS C env vars gl own d (execs rest env) m σ Q
 |f,m,σ=>Q f m σ
theorem z76{st:Stmt}{rest:List Stmt}(h:AS C env vars gl own d (exec st env) m σ (y36 C env vars gl own d rest Q)):AS C env vars gl own d (execs (st::rest) env) m σ Q:=λA G D s hA R=>by
 refine wpAny_execs_cons (h.run hA R λf s' fl m' D' σ' a b c e=> ?_)
 cases f<;>cases fl<;>first|exact b.elim|skip
 ·exact z4C a (e A G D' s' hA c)
 ·exact⟨.brk,m',D',σ',a,b,c,e⟩
 ·exact⟨.cont,m',D',σ',a,b,c,e⟩
 ·exact⟨.ret _,m',D',σ',a,b,c,e⟩
theorem z14{x:Str}{p' p:Pos}{e:Expr}(h:AT C env vars gl own d (eval e env) m σ λX σ₁=>∃m',Put vars m x X m'/\Q .next m' σ₁)
  (hk:autoParam (own=true) auR) (hs:autoParam (swapsWith e (some (.Name x p')) p.line env=pure false) auR):AS C env vars gl own d (exec (.Assign [.Name x p'] e p) env) m σ Q:=λA G D s hA R=>
 wpAny_Assign_Name (h.run hA R λv s₁ X D₁ σ₁ a b c hpp=>by obtain⟨m',hP,q⟩:=hpp;exact c.store hP b (.inl hk) λs' R'=>⟨.next,m',D₁,σ₁,a,trivial,R',q⟩) hs
theorem y07{e:Expr}{p:Pos}(h:AT C env vars gl own d (eval e env) m σ λX σ₁=>Q (.ret X) m σ₁):AS C env vars gl own d (exec (.Return (some e) p) env) m σ Q:=λA G D s hA R=>
 wpAny_Return_some (h.run hA R λv s₁ X D₁ σ₁ a b c q=>⟨.ret X,m,D₁,σ₁,a,b,c,q⟩)
theorem z5r{p:Pos}(q:Q (.ret .none) m σ):AS C env vars gl own d (exec (.Return none p) env) m σ Q:=λA G D s hA R=>
 wpAny_Return_none ⟨.ret .none,m,D,σ,DX.refl _ _,VR.none,R,q⟩
theorem y4G{t:Expr}{b o:List Stmt}{p:Pos}(h:AB C env vars gl own d (isTrue t env (eval t env)) m σ λc σ₁=>(c=true->AS C env vars gl own d (execs b env) m σ₁ Q)/\(c=false->AS C env vars gl own d (execs o env) m σ₁ Q)):
  AS C env vars gl own d (exec (.If t b o p) env) m σ Q:=λA G D s hA R=>
 wpAny_If (h.run hA R λb s₁ D₁ σ₁ a c e=>by
  cases b with
  |true=>exact z4C a (e.1 rfl A G D₁ s₁ hA c)
  |false=>exact z4C a (e.2 rfl A G D₁ s₁ hA c))
theorem y3E{e:Expr}{p:Pos}(h:AT C env vars gl own d (eval e env) m σ λ_ σ₁=>Q .next m σ₁)
  (hs:autoParam (swapsWith e none p.line env=pure false) auR):AS C env vars gl own d (exec (.Expr e p) env) m σ Q:=λA G D s hA R=>by
 have hi:interactive env=false:=by unfold interactive;rw[R.ok.fn];rfl
 rw[exec_Expr env e p hi hs]
 refine wpAny_bind (wpAny_standAt (wpAny_bind (h.run hA R λv s₁ X D₁ σ₁ a b c q=> ?_)))
 have fin:PostS C env vars gl own G D Q .next s₁:=⟨.next,m,D₁,σ₁,a,trivial,c,q⟩
 exact wpAny_dropValue fin
inductive PostL(C:Cx)(env:Env)(vars:List Str)(gl:List (Str×V))(own:Bool)(G D:Gh)(m:Loc)(Q:List V->Sto->Prop)(v:List Value)(s':Shared):Prop
 |mk (x:List V) (D':Gh) (σ':Sto):DX G D D'->VRs C.w D' v x->RelF C env vars gl own G D' m σ' s'->Q x σ'->PostL C env vars gl own G D m Q v s'
noncomputable def AL(C:Cx)(env:Env)(vars:List Str)(gl:List (Str×V))(own:Bool)(d:Nat)(t:Sem (List Value))(m:Loc)(σ:Sto)(Q:List V->Sto->Prop):Prop:=
 ∀A G D s,AOk C A d->RelF C env vars gl own G D m σ s->wpAny C.M A t (PostL C env vars gl own G D m Q) (λ_ _=>False) s
variable {L:List V->Sto->Prop}
theorem AL.run{t:Sem (List Value)}(h:AL C env vars gl own d t m σ L)(hA:AOk C A d)(R:RelF C env vars gl own G D m σ s){K:List Value->Shared->Prop}
  (k:∀v s' x D' σ',DX G D D'->VRs C.w D' v x->RelF C env vars gl own G D' m σ' s'->L x σ'->K v s'):wpAny C.M A t K (λ_ _=>False) s:=
 wpAny_mono (h A G D s hA R) (λv s' hpp=>by obtain⟨x,D',σ',a,b,c,e⟩:=hpp;exact k v s' x D' σ' a b c e) λ_ _ e=>e
theorem z0r{p:Pos}(q:L [] σ):AL C env vars gl own d (spliced (backTo p (starEach [] env))) m σ L:=λA G D s hA R=>wpAny_items_nil ⟨[],D,σ,DX.refl _ _,.nil,R,q⟩
theorem z0s{p:Pos}{e:Expr}{rest:List Expr}(h:AT C env vars gl own d (eval e env) m σ λX σ₁=>AL C env vars gl own d (spliced (backTo p (starEach rest env))) m σ₁ λXs σ₂=>L (X::Xs) σ₂)
  (he:autoParam (starEach (e::rest) env=(false,eval e env)::starEach rest env) auR):AL C env vars gl own d (spliced (backTo p (starEach (e::rest) env))) m σ L:=λA G D s hA R=>
 wpAny_items_cons (h.run hA R λv s₁ X D₁ σ₁ a b c e=>e.run hA c λvs s₂ Xs D₂ σ₂ a' b' c' q=>⟨X::Xs,D₂,σ₂,a.trans a',.cons (b.mono a'.sub) b',c',q⟩) he
variable {P:V->Sto->Prop}
theorem RelF.newF(R:RelF C env vars gl own G D m σ s)(o:Obj)(hf:autoParam (o.isFreed=false) auR):
  RelF C env vars gl own G (z15 D s.heap.objs.size o) m σ {s with heap:=s.heap.push o}/\DX G D (z15 D s.heap.objs.size o):=by
 obtain⟨a,b⟩:=R.lifted.newF o hf
 exact⟨R.back a b,R.dx b⟩
theorem z3l{es:List Expr}{k:Nat}{p:Pos}(h:AL C env vars gl own d (spliced (backTo p (starEach es env))) m σ λXs σ₁=>Xs.length<=sizeLine/\P (.tup Xs) σ₁):
  AT C env vars gl own d (eval (.Tuple es k p) env) m σ P:=λA G D s hA R=>
 wpAny_Tuple (h.run hA R λvs s₁ Xs D₁ σ₁ a b c hpp=>by obtain⟨hl,q⟩:=hpp;exact⟨by rw[b.length];exact hl,by
  obtain⟨R',dx⟩:=c.newF (y4k vs.toArray 0)
  exact⟨.tup Xs,_,σ₁,a.trans dx,.tup (z0T ..) rfl rfl (b.mono dx.sub),R',q⟩⟩)
theorem z3G{es:List Expr}{p:Pos}(h:AL C env vars gl own d (spliced (backTo p (starEach es env))) m σ λXs σ₁=>Xs.length<=sizeLine/\P (.lst Xs) σ₁):
  AT C env vars gl own d (eval (.List es p) env) m σ P:=λA G D s hA R=>
 wpAny_List (h.run hA R λvs s₁ Xs D₁ σ₁ a b c hpp=>by obtain⟨hl,q⟩:=hpp;exact⟨by rw[b.length];exact hl,by
  obtain⟨R',dx⟩:=c.newF (z0p vs.toArray 0)
  exact⟨.lst Xs,_,σ₁,a.trans dx,.lst (z0T ..) (b.mono dx.sub),R',q⟩⟩)
theorem RelF.newL(R:RelF C env vars gl own G D m σ s){vs:List Value}{xs:List V}(h:VRs C.w D vs xs):
  RelF C env vars gl own G D m ((s.heap.objs.size,z0p vs.toArray 0,.list xs)::σ) {s with heap:=s.heap.push (z0p vs.toArray 0)}:=
 R.back (R.lifted.newM (z0p vs.toArray 0) (.list xs) ⟨vs.toArray,0,rfl,by simpa using h⟩ rfl (λ_ _=>rfl)) (DX.refl _ _)
noncomputable def SubR(C:Cx)(d:Nat)(x i:V)(σ:Sto)(P:V->Sto->Prop):Prop:=
 ∀A G D s o v,AOk C A d->RelC C G D σ s->VR C.w D o x->VR C.w D v i->∃T id,s.TypeIs o T/\typeLookup (.type T) "__getitem__"=pure (some (.builtin id))/\wpAny C.M A (getItem o v) (PostC C G D P) (λ_ _=>False) s
set_option tactic.hygienic true in
theorem z4Y(slice:Expr)(o i:Value):∃ops,subscripted slice false o i=operate ops (getItem o i):=by
 cases slice<;>first|exact⟨_,rfl⟩|(rename_i a b c p;cases c<;>exact⟨_,rfl⟩)
theorem z0W{e i:Expr}{p:Pos}(h:AT C env vars gl own d (eval e env) m σ λX σ₁=>AT C env vars gl own d (eval i env) m σ₁ λI σ₂=>SubR C d X I σ₂ P):
  AT C env vars gl own d (eval (.Subscript e i p) env) m σ P:=λA G D s hA R=>
 PyProof.Rows.Subscript_ (h.run hA R λv s₁ X D₁ σ₁ a b c e₁=>e₁.run hA c λu s₂ I D₂ σ₂ a' b' c' q=>by
  obtain⟨T,id,hT,hl,hw⟩:=q A _ D₂ s₂ v u hA c'.lifted (b.mono a'.sub) b'
  obtain⟨ops,ho⟩:=z4Y i v u
  exact PyProof.Rows.tail_any hT hl (wpAny_mono hw (λ_ _ hpp=>by obtain⟨x,D',σ',a₂,b₂,c₂,q₂⟩:=hpp;exact⟨x,D',σ',(a.trans a').trans (c'.dx a₂),b₂,c'.back c₂ a₂,q₂⟩) λ_ _ x=>x) ho)
end
end
section
section
variable {C:Cx} {env:Env} {vars:List Str} {gl:List (Str×V)} {own:Bool} {d:Nat} {m m':Loc} {σ σ':Sto}
variable {A:Around} {G D D₁:Gh} {s:Shared} {P:V->Sto->Prop}
noncomputable def KW(C:Cx)(d:Nat)(f:V)(xs:List V)(σ:Sto)(P:V->Sto->Prop):Prop:=
 ∀A G D s v vs,AOk C A d->RelC C G D σ s->VR C.w D v f->VRs C.w D vs xs->wpAny C.M A (call v vs) (PostC C G D P) (λ_ _=>False) s
theorem KW.mono{P':V->Sto->Prop}{f:V}{xs:List V}(h:KW C d f xs σ P)(hp:∀x σ,P x σ->P' x σ):KW C d f xs σ P':=λA G D s v vs hA R hv hs=>
 wpAny_mono (h A G D s v vs hA R hv hs) (λ_ _ hpp=>by obtain⟨x,D',σ',a,b,c,e⟩:=hpp;exact⟨x,D',σ',a,b,c,hp _ _ e⟩) λ_ _ e=>e
theorem z4F{a:Addr}{xs:List V}(h:CW C d (.ref a) xs σ P):KW C d (.ref a) xs σ P:=λA G D s v vs hA R hv hs=>by
 apply VR.refE hv
 exact wpAny_call (codeAny_mono (h A G D s vs hA R hs) λr s' q=>by
  cases r with
  |error e=>exact q.elim
  |ok f=>cases f<;>exact q)
noncomputable def z0i(C:Cx):V->Prop
 | .bi _=>True
 | .type _=>True
 | .ref a=>∃o fd,C.base.get? a=some o/\o.data= .func fd
 |_=>False
theorem z1c{F:V}(hF:z0i C F){f:Value}{pos:Pos}{first:List Value}{args:List (Bool×Sem Value)}{K:Value->Shared->Prop}{E:Value->Shared->Prop}(hf:VR C.w D f F)(hplain:args.any (·.1)=false)
  (h:wpAny C.M A (evalArgs f true args []) (λx s₁=>(∀b o,C.base.get? b=some o->s₁.heap.get? b=some o)/\wpAny C.M A (call f (first++x.pos) x.kw) K E s₁) E s):
  wpAny C.M A (callWith pos f first args []) K E s:=by
 cases hf with
 |bi n=>exact Calls.callWith_builtin hplain (wpAny_mono h (λ_ _ x=>x.2) λ_ _ x=>x)
 |type n=>exact callWith_type hplain (wpAny_mono h (λ_ _ x=>x.2) λ_ _ x=>x)
 |ref a=>
  obtain⟨o,fd,ho,hd⟩:=hF
  exact Calls.callWith_function (wpAny_mono h (λ_ _ x=>⟨⟨x.1 _ _ ho,hd⟩,x.2⟩) λ_ _ x=>x)
 |_=>exact hF.elim
theorem RelC.baseIn(R:RelC C G D σ s):∀b o,C.base.get? b=some o->s.heap.get? b=some o:=R.bs
theorem KW.inF{f:V}{xs:List V}(h:KW C d f xs σ P){v:Value}{vs:List Value}(hA:AOk C A d)(R:RelF C env vars gl own G D m σ s)(hv:VR C.w D v f)(hs:VRs C.w D vs xs):
  wpAny C.M A (call v vs) (PostE C env vars gl own G D m P) (λ_ _=>False) s:=
 wpAny_mono (h A _ D s v vs hA R.lifted hv hs) (λ_ _ hpp=>by obtain⟨x,D',σ',a,b,c,e⟩:=hpp;exact⟨x,D',σ',R.dx a,b,R.back c a,e⟩) λ_ _ e=>e
theorem y0K{x:Str}{np p:Pos}(h:AT C env vars gl own d (eval (.Name x np) env) m σ λF σ₁=>z0i C F/\KW C d F [] σ₁ P):
  AT C env vars gl own d (eval (.Call (.Name x np) [] [] p) env) m σ P:=λA G D s hA R=>
 wpAny_Call_ofName (h.run hA R λv s₁ F D₁ σ₁ a b c hpp=>by obtain⟨hF,hk⟩:=hpp;exact z1c hF b rfl (evalArgs_none ⟨c.toRelC.baseIn,z0V a (hk.inF hA c b .nil)⟩))
theorem z0I{x:Str}{np p:Pos}{e:Expr}{rest:List Expr}(h:AT C env vars gl own d (eval (.Name x np) env) m σ λF σ₁=>z0i C F/\AL C env vars gl own d (spliced (backTo p (starEach (e::rest) env))) m σ₁ λXs σ₂=>KW C d F Xs σ₂ P)
  (he:autoParam (starEach (e::rest) env=(false,eval e env)::starEach rest env) auR) (hplain:autoParam ((backTo p (starEach rest env)).any (·.1)=false) auR):
  AT C env vars gl own d (eval (.Call (.Name x np) (e::rest) [] p) env) m σ P:=λA G D s hA R=>
 wpAny_Call_ofName (h.run hA R λv s₁ F D₁ σ₁ a b c hpp=>by obtain⟨hF,hk⟩:=hpp;exact z1c hF b (by rw[he];exact hplain) (by
  rw[he] at hk⊢
  exact Calls.evalArgs_plain (AL.run hk hA c λvs s₂ Xs D₂ σ₂ a' b' c' q=>⟨c'.toRelC.baseIn,z0V (a.trans a') (q.inF hA c' (b.mono a'.sub) b')⟩)))
noncomputable def y4b(Q:V->Sto->Prop):Fl->Loc->Sto->Prop
 | .ret x,_,σ=>Q x σ
 | .next,_,σ=>Q .none σ
 |_,_,_=>False
noncomputable def nodupB:List Str->Bool
 |[]=>true
 |x::r=> !r.contains x&&nodupB r
theorem nodupB_ok:∀{l:List Str},nodupB l=true->l.Nodup
 |[],_=> .nil
 |x::r,h=>by
  simp only[nodupB,Bool.and_eq_true,Bool.not_eq_true'] at h
  exact List.nodup_cons.mpr ⟨λhm=>by have:=List.contains_iff_mem.mpr hm;rw[this] at h;exact absurd h.1 (by decide),nodupB_ok h.2⟩
noncomputable def z4s(sc:Scope)(vars:List Str)(gl:List Str):Bool:=
 sc.kind== .function&& !sc.isCoroutine&& !sc.isGenerator&&nodupB vars&&
 vars.all (λx=> !(x==("__debug__":Str))&&(sc.names.lookup x==some .local||sc.names.lookup x==some .cell))&&
 gl.all λx=> !(x==("__debug__":Str))&&sc.names.lookup x==some .globalImplicit
theorem z1y{x:Str}:∀(names:List (Str×NameKind)) (n:Nat) (acc:List (Str×Addr)),names.lookup x=some .cell∨(∃c,acc.lookup x=some c)->∃c,(cellsFrom n names acc).lookup x=some c
 |[],_,_,h=>h.elim (λe=>by cases e) id
 |(y,k)::r,n,acc,h=>by
  unfold cellsFrom
  by_cases hk:(k== .cell)=true
  ·rw[if_pos hk]
   refine z1y r (n+1) ((y,n)::acc) ?_
   by_cases hy:(x==y)=true
   ·exact .inr ⟨n,by rw[List.lookup_cons,hy]⟩
   ·refine h.imp (λe=> ?_) λ⟨c,e⟩=>⟨c,?_⟩
    ·rw[List.lookup_cons] at e;simpa only[hy] using e
    ·rw[List.lookup_cons];simpa only[hy] using e
  ·rw[if_neg hk]
   refine z1y r n acc ?_
   by_cases hy:(x==y)=true
   ·refine .inr (h.elim (λe=> ?_) id)
    rw[List.lookup_cons,hy] at e
    exact absurd (by rw[Option.some.inj e];rfl) hk
   ·refine h.imp (λe=> ?_) id
    rw[List.lookup_cons] at e;simpa only[hy] using e
theorem z5D{kf:Str->Option NameKind}{x:Str}:∀{b:List (Str×Value)} {mm:Str->Option Value},x∉b.map (·.1)->bindL kf b mm x=mm x
 |[],_,_=>rfl
 |(n,v)::r,mm,h=>by
  simp only[List.map_cons,List.mem_cons,not_or] at h
  unfold bindL
  rw[z5D h.2]
  split
  ·simp[h.1]
  ·rfl
theorem z5s{kf:Str->Option NameKind}{x:Str}:∀{b:List (Str×Value)} {mm:Str->Option Value},x∉b.map (·.1)->bindC kf b mm x=mm x
 |[],_,_=>rfl
 |(n,v)::r,mm,h=>by
  simp only[List.map_cons,List.mem_cons,not_or] at h
  unfold bindC
  rw[z5s h.2]
  split
  ·rfl
  ·simp[h.1]
theorem z7c{kf:Str->Option NameKind}{x:Str}{v:Value}:∀{b:List (Str×Value)} {mm:Str->Option Value},(b.map (·.1)).Nodup->(x,v)∈b->kf x=some .local->bindL kf b mm x=some v
 |(n,u)::r,mm,hn,hm,hk=>by
  have hn':=List.nodup_cons.mp hn
  unfold bindL
  rcases List.mem_cons.mp hm with e|hm
  ·cases e
   rw[z5D hn'.1,if_pos hk];simp
  ·exact z7c hn'.2 hm hk
theorem z7b{kf:Str->Option NameKind}{x:Str}{v:Value}:∀{b:List (Str×Value)} {mm:Str->Option Value},(b.map (·.1)).Nodup->(x,v)∈b->kf x≠some .local->bindC kf b mm x=some v
 |(n,u)::r,mm,hn,hm,hk=>by
  have hn':=List.nodup_cons.mp hn
  unfold bindC
  rcases List.mem_cons.mp hm with e|hm
  ·cases e
   rw[z5s hn'.1,if_neg hk];simp
  ·exact z7b hn'.2 hm hk
theorem AOk.deeper{C:Cx}[NF C]{A:Around}{d:Nat}{env:Env}(h:AOk C A (d+1)):AOk C (A.deeper env) d:=
 ⟨h.h,λl e=>(nomatch (NF.h (C:=C)).symm.trans e),by have:=h.depth;show A.depth+1+d<1000;lia,by have:=h.units;show A.units+3+8*d<9000;lia⟩
structure FnIs(C:Cx)(a:Addr)(fd:FuncData)(body:List Stmt)(params:List Str):Prop where
 ob:∃o,C.base.get? a=some o/\o.data= .func fd
 body:fd.body= .stmts body
 clo:fd.closure=[]
 code:C.base.CodeRec fd.code fd.qualname
 gl:fd.globals=mainGlobals
 bi:fd.builtins=builtinsNs
 bind:∀vs:List Value,vs.length=params.length->bindArgs fd ⟨vs,[]⟩=pure (params.zip vs)
theorem z8v{α β:Type}:∀{l:List α} {r:List β} {i:Nat} {x:α} {y:β},l[i]? =some x->r[i]? =some y->(x,y)∈l.zip r
 |a::l,b::r,0,x,y,h1,h2=>by simp at h1 h2;subst h1 h2;simp
 |a::l,b::r,i+1,x,y,h1,h2=>by
  have:=z8v (l:=l) (r:=r) (i:=i) (by simpa using h1) (by simpa using h2)
  simp[this]
 |[],_,i,_,_,h1,_=>by simp at h1
 |_::_,[],i,_,_,_,h2=>by simp at h2
open Classical in
theorem y3N{a:Addr}{fd:FuncData}{body:List Stmt}{params others:List Str}{gl:List (Str×V)}{xs:List V}{A:Around}{G D:Gh}{s:Shared}{vs:List Value}{RR:Result->Shared->Prop}(F:FnIs C a fd body params)(hlen:xs.length=params.length)
  (hst:z4s fd.scope (params++others) (gl.map (·.1))=true) (hgl:∀p∈gl,z0f C p.1 p.2) (hA:AOk C A (d+1)) (R:RelC C G D σ s) (hv:VRs C.w D vs xs)
  (h:∀(E:Env) (Gc:Gh) (s₁:Shared),E.scope=fd.scope->E.frame=some E.locals->s.heap.objs.size<=E.locals->(∀b o,G b=some o->frk o->Gc b=some o)->(∀b o,G b=some o->∃o',Gc b=some o'/\Eqs o o')->RelF C E (params++others) gl true Gc D (xs.map some++others.map λ_=>none) σ s₁->
   wpAny C.M (A.deeper E) (execs body E) (λf s'=>RR (.ok (.ret (match f with| .ret v=>v|_=> .none))) s') (λe s'=>wpAny C.M (A.deeper E) (leaving E e) (λ_ s''=>RR (.error e) s'') (λe' s''=>RR (.error e') s'') s') s₁):
  codeAny C.M A (.call (.ref a) ⟨vs,[]⟩) RR s:=by
 obtain⟨o,ho,hd⟩:=F.ob
 have hvl:vs.length=params.length:=hv.length.trans hlen
 have keepB:=R.baseIn
 simp only[z4s,Bool.and_eq_true,Bool.not_eq_true',beq_iff_eq] at hst
 obtain⟨⟨⟨⟨⟨k1,k2⟩,k3⟩,k4⟩,k5⟩,k6⟩:=hst
 have nd:(params++others).Nodup:=nodupB_ok k4
 have vk:∀x∈params++others,(x==("__debug__":Str))=false/\(fd.scope.names.lookup x=some .local∨fd.scope.names.lookup x=some .cell):=λx hx=>by
  have:=List.all_eq_true.mp k5 x hx
  simp only[Bool.and_eq_true,Bool.not_eq_true',Bool.or_eq_true,beq_iff_eq] at this
  exact this
 have zn:(params.zip vs).map (·.1)=params:=by
  rw[List.map_fst_zip];lia
 refine codeAny_call_cells (fd:=fd) (by have:=hA.depth;show A.depth<1000;lia) (keepB _ _ ho) hd (C.lim.keeps keepB) (F.code.keeps keepB) F.body (F.bind vs hvl) F.clo (λx hx=> ?_) (λs₁ x=> ?_) k2 k3 k1
 ·have hm:x.1∈params:=zn▸List.mem_map_of_mem hx
  rcases(vk x.1 (List.mem_append_left _ hm)).2 with e|e
  ·exact .inl e
  ·obtain⟨c,hc⟩:=z1y (x:=x.1) fd.scope.names (s.heap.objs.size+1) [] (.inl e)
   exact .inr ⟨e,by rw[hc];rfl⟩
 ·generalize hE:callEnvC fd s.heap.objs.size a=E at x⊢
  have eL:E.locals=s.heap.objs.size:=by rw[<-hE];rfl
  have eK:∀y,E.kindOf y=fd.scope.names.lookup y:=λy=>by rw[<-hE];rfl
  have eC:E.cells=cellsFrom (s.heap.objs.size+1) fd.scope.names []:=by rw[<-hE];rfl
  obtain⟨h₁,tk,hs₁,kp⟩:=x.done
  let Gc:Gh:=λb=>if b∈foot σ then none else if∃o,G b=some o/\frk o then G b else s.heap.get? b
  have gcI:∀{b},b∈foot σ->Gc b=none:=λ{b} hb=>if_pos hb
  have gcF:∀b o,G b=some o->frk o->Gc b=some o:=λb o e n=>by
   show(if b∈foot σ then none else if∃o,G b=some o/\frk o then G b else s.heap.get? b)=some o
   rw[if_neg λhb=>(nomatch (R.offG b hb).symm.trans e),if_pos ⟨o,e,n⟩];exact e
  have gcH:∀b,b∉foot σ->(¬∃o,G b=some o/\frk o)->Gc b=s.heap.get? b:=λb hb hn=>by
   show(if b∈foot σ then none else if∃o,G b=some o/\frk o then G b else s.heap.get? b)=_
   rw[if_neg hb,if_neg hn]
  have gc1:∀b o,Gc b=some o->∃o',s.heap.get? b=some o'/\Eqs o o':=λb o e=>by
   by_cases hb:b∈foot σ
   ·exact nomatch (gcI hb).symm.trans e
   ·by_cases hn:∃o,G b=some o/\frk o
    ·obtain⟨o2,h1,h2⟩:=hn
     rw[gcF b o2 h1 h2] at e
     rw[<-Option.some.inj e];exact R.g b o2 h1
    ·rw[gcH b hb hn] at e;exact⟨o,e,.refl o⟩
  have gG:∀b o,G b=some o->∃o',Gc b=some o'/\Eqs o o':=λb o e=>by
   by_cases n:frk o
   ·exact⟨o,gcF b o e n,.refl o⟩
   ·obtain⟨o',h1,h2⟩:=R.g b o e
    refine⟨o',(gcH b (λhb=>nomatch (R.offG b hb).symm.trans e) λhn=> ?_).trans h1,h2⟩
    obtain⟨o2,k1,k2⟩:=hn
    rw[e] at k1;exact n (Option.some.inj k1▸k2)
  have new:∀c,s.heap.objs.size<=c->Gc c=none/\D c=none/\c∉foot σ:=λc hc=>⟨by
    cases e:Gc c with
    |none=>rfl
    |some o=>obtain⟨o',h',_⟩:=gc1 c o e;exact absurd (Heap.lt_size h') (Nat.not_lt.mpr hc),by
    cases e:D c with
    |none=>rfl
    |some o=>exact absurd (Heap.lt_size (R.d c o e)) (Nat.not_lt.mpr hc),λhf=>absurd (R.footLt hf) (Nat.not_lt.mpr hc)⟩
  have hkeep:∀b o,s.heap.get? b=some o->s₁.heap.get? b=some o:=by rw[hs₁];exact kp
  have RC:RelC C Gc D σ s₁:=by
   refine⟨?_,λb o e=>hkeep b o (R.bs b o e),(λb o e=>by obtain⟨o',h1,h2⟩:=gc1 b o e;exact⟨o',hkeep b o' h1,h2⟩),λb o e=>hkeep b o (R.d b o e),(λb o e=>by
    by_cases n:frk o
    ·exact gcF b o (R.base b o e) n
    ·refine(gcH b (λhb=>nomatch (R.offG b hb).symm.trans (R.base b o e)) λhn=> ?_).trans (R.bs b o e)
     obtain⟨o2,k1,k2⟩:=hn
     rw[R.base b o e] at k1;exact n (Option.some.inj k1▸k2)),R.nd,λb hb=> ?_,R.offD,λp hp=>(R.pl p hp).at λb _ ob e=>hkeep _ _ e,R.sto⟩
   ·obtain⟨h₂,t₂,e⟩:=R.same
    exact⟨h₁,tk,by rw[hs₁,e]⟩
   ·exact gcI hb
  have ndz:((params.zip vs).map (·.1)).Nodup:=by rw[zn];exact(List.nodup_append.mp nd).1
  have locs:∀(i:Nat) y X,(params++others)[i]? =some y->(xs.map some++others.map λ_=>none)[i]? =some (some X)->∃v,(y,v)∈params.zip vs/\VR C.w D v X:=by
   intro i y X e1 e2
   rw[List.getElem?_append] at e1 e2
   rw[List.length_map] at e2
   by_cases hi:i<xs.length
   ·rw[if_pos hi] at e2
    rw[if_pos (by lia)] at e1
    rw[List.getElem?_map] at e2
    obtain⟨Y,hY,e3⟩:=Option.map_eq_some_iff.mp e2
    cases e3
    obtain⟨u,hu,ru⟩:=hv.get hY
    exact⟨u,z8v e1 hu,ru⟩
   ·rw[if_neg hi] at e2
    rw[List.getElem?_map] at e2
    obtain⟨Y,hY,e3⟩:=Option.map_eq_some_iff.mp e2
    cases e3
  have RF:RelF C E (params++others) gl true Gc D (xs.map some++others.map λ_=>none) σ s₁:=
   {RC with
    ok:=⟨by rw[<-hE];exact k1,nd,λy hy=>⟨(vk y hy).1,(vk y hy).2.imp (λe=>by rw[eK];exact e) λe=>⟨by rw[eK];exact e,by rw[eC];exact z1y _ _ _ (.inl e)⟩⟩,x.apart,
     λp hp=>by
      have:=List.all_eq_true.mp k6 p.1 (List.mem_map_of_mem hp)
      simp only[Bool.and_eq_true,Bool.not_eq_true',beq_iff_eq] at this
      exact⟨this.1,by rw[eK];exact this.2,hgl p hp⟩,
     by rw[<-hE];exact F.gl,by rw[<-hE];exact F.bi⟩
    offL:=by rw[eL];exact new _ (Nat.le_refl _)
    ns:=⟨_,x.toInCall.ns,λi y X e1 e2 e3=>by
     obtain⟨v,hv1,hv2⟩:=locs i y X e1 e3
     exact⟨v,z7c ndz hv1 e2,hv2⟩⟩
    cl:=λi y c e1 e2 e3=>by
     have hab:=x.above y c (mem_of_lookup e3)
     rw[eL] at hab
     refine⟨by rw[eL];exact Nat.ne_of_gt hab,⟨_,x.cell y c e3,λX e4=> ?_⟩,new c (Nat.le_of_lt hab)⟩
     obtain⟨v,hv1,hv2⟩:=locs i y X e1 e4
     exact⟨v,z7b ndz hv1 (by rw[e2];intro q;cases q),hv2⟩}
  exact h E Gc s₁ (by rw[<-hE];rfl) (by rw[<-hE];rfl) (eL▸Nat.le_refl _) gcF gG RF
theorem y4h [NF C]{a:Addr}{fd:FuncData}{body:List Stmt}{params others:List Str}{gl:List (Str×V)}{xs:List V}(F:FnIs C a fd body params)(hlen:xs.length=params.length)
  (hst:z4s fd.scope (params++others) (gl.map (·.1))=true) (hgl:∀p∈gl,z0f C p.1 p.2)
  (h:∀env,env.scope=fd.scope->AS C env (params++others) gl true d (execs body env) (xs.map some++others.map λ_=>none) σ (y4b P)):CW C (d+1) (.ref a) xs σ P:=by
 intro A G D s vs hA R hv
 refine y3N F hlen hst hgl hA R hv λE Gc s₁ hsc _ _ _ gG RF=> ?_
 refine wpAny_mono ((h E hsc).run hA.deeper RF λf s' fl m' D' σ' a b c q=> ?_) (λ_ _ e=>e) (λ_ _ e=>e.elim)
 have dx:DX G D D':=a.less λb hb=>by
  cases e:G b with
  |none=>exact absurd e hb
  |some o=>obtain⟨o',h1,_⟩:=gG b o e;rw[h1];exact nofun
 have RC':RelC C G D' σ' s':=⟨c.same,c.bs,(λb o e=>by
   obtain⟨o',h1,h2⟩:=gG b o e
   obtain⟨o2,h3,h4⟩:=c.g b o' h1
   exact⟨o2,h3,h2.trans h4⟩),c.d,R.base,c.nd,(λb hb=>by
   cases e:G b with
   |none=>rfl
   |some o=>obtain⟨o',h1,_⟩:=gG b o e;exact nomatch (c.offG b hb).symm.trans h1),c.offD,c.pl,c.sto⟩
 cases f<;>cases fl<;>first|exact b.elim|exact q.elim|skip
 ·exact⟨.none,D',σ',dx,.none,RC',q⟩
 ·exact⟨_,D',σ',dx,b,RC',q⟩
end
end
section
noncomputable def y2s(w:World)(D:Gh)(h h':Heap)(v:Value)(X:V):Prop:=
 VR w D v X∨∃T o vals n Xs,v= .ref T/\X= .tup Xs/\VRs w D vals Xs/\h.objs.size<=T/\h'.get? T=some o/\o.cls= .type "tuple"/\o.data= .seq vals.toArray n
noncomputable def z4p(wr:List Addr)(h h':Heap):Prop:=∀b o,b∉wr->h.get? b=some o->h'.get? b=some o
structure IW(C:Cx)(A:Around)(tgt:Expr)(I:Addr)(fp wr:List Addr)(D:Gh)(xs:List V)(St:Nat->Heap->Prop):Prop where
 live:∀i h,St i h->∀a∈wr,∃o,h.get? a=some o/\¬frk o
 sub:∀b∈wr,b∈fp
 old:∀b∈fp,b∉wr->∀h:Heap,St 0 h->h.get? b=none->False
 frame:∀i h h',St i h->(∀b∈fp,∀o,h.get? b=some o->h'.get? b=some o)->St i h'
 item:∀(i:Nat) X (s:Shared) (K:Option Value->Shared->Prop),xs[i]? =some X->St i s.heap->
  (∀v s₁,(∀Q':Unit->Shared->Prop,(∀h' tk,y2s C.w D s.heap h' v X->St (i+1) h'->z4p wr s.heap h'->Q' () {s with heap:=h',toks:=tk})->
   wpAny C.M A (letOwnedTupleGo tgt (.ref I) v) Q' (λ_ _=>False) s₁)->K (some v) s₁)->wpAny C.M A (pyNext (.ref I)) K (λ_ _=>False) s
 self:∀(i:Nat) (s:Shared) (K:Value->Shared->Prop),St i s.heap->K (.ref I) s->wpAny C.M A (pyIter (.ref I)) K (λ_ _=>False) s
 done:∀(s:Shared) (K:Option Value->Shared->Prop),St xs.length s.heap->(∀h' tk,z4p wr s.heap h'->K none {s with heap:=h',toks:=tk})->wpAny C.M A (pyNext (.ref I)) K (λ_ _=>False) s
section
variable {C:Cx} {env:Env} {vars:List Str} {gl:List (Str×V)} {own:Bool} {d:Nat} {m m':Loc} {σ σ':Sto}
variable {A:Around} {G D D₀ D₁:Gh} {s:Shared}
noncomputable def Off(env:Env)(vars:List Str)(G D:Gh)(σ:Sto)(wr:List Addr):Prop:=∀a∈wr,G a=none/\D a=none/\a∉foot σ/\¬z2j env vars a
theorem RelF.keepBut(R:RelF C env vars gl own G D m σ s){h':Heap}(t:Nat){wr:List Addr}(hw:Off env vars G D σ wr)(k:z4p wr s.heap h'):RelF C env vars gl own G D m σ {s with heap:=h',toks:=t}:=by
 have R':=R.lifted.keepBut (h':=h') t wr (λa ha=>⟨by rw[z1S (hw a ha).2.2.2];exact(hw a ha).1,(hw a ha).2.1,(hw a ha).2.2.1⟩) k
 exact R.back R' (DX.refl _ _)
theorem z99{s':Shared}(R:RelF C env vars gl own G D m σ s)(R₁:RelF C env vars gl own G D m σ s'){T:Addr}{o:Obj}(nT:∀ob,s.heap.get? T≠some ob)(ho:s'.heap.get? T=some o):D T=none/\DX G D (z15 D T o)/\RelF C env vars gl own G (z15 D T o) m σ s':=by
 have no:∀{x:Option Obj},(∀ob,x=some ob->s.heap.get? T=some ob)->x=none:=λ{x} h=>Option.eq_none_iff_forall_not_mem.mpr λob e=>nT ob (h ob e)
 have hD:D T=none:=no (R.d T)
 have hf:∀b∈foot σ,b≠T:=λb h q=>by obtain⟨ob,e⟩:=R.toRelC.footLives h;exact nT ob (q▸e)
 have hl:z2c env vars G s' T=none:=by
  by_cases hm:z2j env vars T
  ·obtain⟨ob,e⟩:=R.mineLives hm;exact absurd e (nT ob)
  ·rw[z1S hm];exact R.noG nT
 have hsub:=z3v o hD
 have RC:=R₁.lifted
 have dx:DX (z2c env vars G s') D (z15 D T o):=⟨hsub,λb eb g=>by rw[z1a];exact eb;rintro rfl;exact g hl⟩
 refine⟨hD,R₁.dx dx,R₁.back {RC with d:=λb ob e=> ?_,offD:=λb hb=> ?_,sto:=λp hp=>(RC.sto p hp).mono hsub} dx⟩
 ·by_cases hb:b=T
  ·rw[hb,z0T] at e;rw[hb];exact ho.trans e
  ·rw[z1a o hb] at e;exact RC.d b ob e
 ·rw[z1a o (hf b hb)];exact RC.offD b hb
theorem z8r(R:RelF C env vars gl own G D m σ s)(hs:Sub D₀ D){h':Heap}{t:Nat}{wr:List Addr}(hw:Off env vars G D σ wr)(k:z4p wr s.heap h'){v:Value}{X:V}(hi:y2s C.w D₀ s.heap h' v X):
  ∃D',DX G D D'/\RelF C env vars gl own G D' m σ {s with heap:=h',toks:=t}/\VR C.w D' v X/\∀w2:List Addr,(∀a∈w2,∃o,s.heap.get? a=some o)->Off env vars G D σ w2->Off env vars G D' σ w2:=by
 have R₁:=R.keepBut t hw k
 rcases hi with hv|⟨T,o,vals,n,Xs,rfl,rfl,hvs,hT,ho,hc,hd⟩
 ·exact⟨D,DX.refl _ _,R₁,hv.mono hs,λ_ _ h=>h⟩
 ·have nT:∀ob,s.heap.get? T≠some ob:=λob e=>absurd (Heap.lt_size e) (Nat.not_lt.mpr hT)
  obtain⟨hD,dx,R₂⟩:=z99 R R₁ nT ho
  refine⟨z15 D T o,dx,R₂,.tup (z0T ..) hc hd ((hvs.mono hs).mono dx.sub),λw2 hl2 hw2 a ha=>⟨(hw2 a ha).1,?_,(hw2 a ha).2.2⟩⟩
  obtain⟨ob,e⟩:=hl2 a ha
  rw[z1a o (show a≠T fromλq=>nT ob (q▸e))];exact(hw2 a ha).2.1
noncomputable def z47(C:Cx)(env:Env)(vars:List Str)(gl:List (Str×V))(own:Bool)(d:Nat)(tgt:Expr)(body:List Stmt)(P:Sto->Prop)(Q:Fl->Loc->Sto->Prop):List V->Loc->Sto->Prop
 |[],m,σ=>Q .next m σ
 |X::xs,m,σ=>AA C env vars gl own d (assign tgt env) X m σ λm₁ σ₁=>AS C env vars gl own d (execs body env) m₁ σ₁ λfl m₂ σ₂=>match fl with
  | .next=>P σ₂/\z47 C env vars gl own d tgt body P Q xs m₂ σ₂
  | .cont=>P σ₂/\z47 C env vars gl own d tgt body P Q xs m₂ σ₂
  | .brk=>Q .next m₂ σ₂
  | .ret v=>Q (.ret v) m₂ σ₂
noncomputable def y0Y(C:Cx)(D:Gh)(P:Sto->Prop)(h:Heap)(fp wr:List Addr):Prop:=
 ∀G' D' σ' (s':Shared),RelC C G' D' σ' s'->Sub D D'->P σ'->∀b∈fp,b∉wr->∀o,h.get? b=some o->s'.heap.get? b=some o
inductive Ready(C:Cx)(A:Around)(env:Env)(vars:List Str)(gl:List (Str×V))(own:Bool)(tgt:Expr)(G D:Gh)(m:Loc)(σ:Sto)(it:Value)(s:Shared)(xs:List V)(P:Sto->Prop):Prop
 |mk (I:Addr) (fp wr:List Addr) (St:Nat->Heap->Prop):it= .ref I->IW C A tgt I fp wr D xs St->St 0 s.heap->RelF C env vars gl own G D m σ s->Off env vars G D σ wr->P σ->y0Y C D P s.heap fp wr->Ready C A env vars gl own tgt G D m σ it s xs P
inductive PostI(C:Cx)(A:Around)(env:Env)(vars:List Str)(gl:List (Str×V))(own:Bool)(tgt:Expr)(G D:Gh)(m:Loc)(Q:List V->(Sto->Prop)->Sto->Prop)(it:Value)(s₂:Shared):Prop
 |mk (D':Gh) (σ':Sto) (xs:List V) (P:Sto->Prop):DX G D D'->Ready C A env vars gl own tgt G D' m σ' it s₂ xs P->Q xs P σ'->PostI C A env vars gl own tgt G D m Q it s₂
noncomputable def AI(C:Cx)(env:Env)(vars:List Str)(gl:List (Str×V))(own:Bool)(d:Nat)(iter tgt:Expr)(m:Loc)(σ:Sto)(Q:List V->(Sto->Prop)->Sto->Prop):Prop:=
 ∀A G D s,AOk C A d->RelF C env vars gl own G D m σ s->wpAny C.M A (eval iter env) (λx s₁=>wpAny C.M A (pyIter x) (PostI C A env vars gl own tgt G D m Q) (λ_ _=>False) s₁) (λ_ _=>False) s
open Classical in
noncomputable def z5k(G:Gh)(wr:List Addr)(h:Heap):Gh:=λa=>if a∈wr then h.get? a else G a
theorem z1T{wr:List Addr}{h:Heap}{a:Addr}(e:a∈wr):z5k G wr h a=h.get? a:=by unfold z5k;rw[if_pos e]
theorem z1t{wr:List Addr}{h:Heap}{a:Addr}(e:a∉wr):z5k G wr h a=G a:=by unfold z5k;rw[if_neg e]
theorem RelF.withW(R:RelF C env vars gl own G D m σ s){wr:List Addr}(hw:Off env vars G D σ wr):RelF C env vars gl own (z5k G wr s.heap) D m σ s where
 same:=R.same
 bs:=R.bs
 g:=λa o e=>by
  by_cases h:a∈wr
  ·rw[z1T h] at e;exact⟨o,e,.refl o⟩
  ·rw[z1t h] at e;exact R.g a o e
 d:=R.d
 base:=λa o e=>by
  by_cases h:a∈wr
  ·have:=R.base a o e;rw[(hw a h).1] at this;cases this
  ·rw[z1t h];exact R.base a o e
 nd:=R.nd
 offG:=λa ha=>by
  by_cases h:a∈wr
  ·exact absurd ha (hw a h).2.2.1
  ·rw[z1t h];exact R.offG a ha
 offD:=R.offD
 pl:=R.pl
 sto:=R.sto
 ok:=R.ok
 offL:=⟨by
  by_cases h:env.locals∈wr
  ·exact absurd (Or.inl rfl) (hw _ h).2.2.2
  ·rw[z1t h];exact R.offL.1,R.offL.2⟩
 ns:=R.ns
 cl:=λi x c h1 h2 h3=>by
  obtain⟨q1,q2,q3⟩:=R.cl i x c h1 h2 h3
  refine⟨q1,q2,?_⟩
  have hc:c∉wr:=λh=>(hw _ h).2.2.2 (Or.inr ⟨i,x,h1,h2,h3⟩)
  rw[z1t hc];exact q3
theorem RelF.lessW{wr:List Addr}{h:Heap}{σ₀:Sto}{D₀:Gh}(R:RelF C env vars gl own (Mine.z5k G wr h) D m σ s)(hw:Off env vars G D₀ σ₀ wr)(hb:∀a o,C.base.get? a=some o->G a=some o)(hdx:DX (Mine.z5k G wr h) D₀ D)
  (hlive:∀a∈wr,∃o,h.get? a=some o):RelF C env vars gl own G D m σ s/\DX G D₀ D/\Off env vars G D σ wr:=by
 have up:∀a o,G a=some o->Mine.z5k G wr h a=some o:=λa o e=>by
  by_cases h':a∈wr
  ·rw[(hw a h').1] at e;cases e
  ·rw[z1t h'];exact e
 have none_of:∀a,Mine.z5k G wr h a=none->G a=none:=λa e=>by
  cases q:G a with
  |none=>rfl
  |some o=>rw[up a o q] at e;cases e
 refine⟨⟨⟨R.same,R.bs,λa o e=>R.g a o (up a o e),R.d,hb,R.nd,λa ha=>none_of a (R.offG a ha),R.offD,R.pl,R.sto⟩,R.ok,⟨none_of _ R.offL.1,R.offL.2⟩,R.ns,λi x c h1 h2 h3=> ?_⟩,hdx.less λa g=> ?_,λa ha=> ?_⟩
 ·obtain⟨q1,q2,q3⟩:=R.cl i x c h1 h2 h3
  refine⟨q1,q2,?_⟩
  have hc:c∉wr:=λh=>(hw _ h).2.2.2 (Or.inr ⟨i,x,h1,h2,h3⟩)
  rw[z1t hc] at q3;exact q3
 ·cases q:G a with
  |none=>exact absurd q g
  |some o=>rw[up a o q];exact nofun
 ·obtain⟨o,ho⟩:=hlive a ha
  have hg:Mine.z5k G wr h a=some o:=by rw[z1T ha];exact ho
  refine⟨(hw a ha).1,hdx.off a (hw a ha).2.1 (by rw[hg];exact nofun),λhf=> ?_,(hw a ha).2.2.2⟩
  have:=R.offG a hf;rw[hg] at this;cases this
inductive LoopI(C:Cx)(env:Env)(vars:List Str)(gl:List (Str×V))(own:Bool)(d:Nat)(tgt:Expr)(body:List Stmt)(P:Sto->Prop)(Q:Fl->Loc->Sto->Prop)(G D₁:Gh)(St:Nat->Heap->Prop)(wr:List Addr)(xs:List V)(k:Nat)(s':Shared):Prop
 |mk (i:Nat) (m':Loc) (D':Gh) (σ':Sto):k=xs.length-i->i<=xs.length->DX G D₁ D'->St i s'.heap->RelF C env vars gl own G D' m' σ' s'->Off env vars G D' σ' wr->P σ'->z47 C env vars gl own d tgt body P Q (xs.drop i) m' σ'->LoopI C env vars gl own d tgt body P Q G D₁ St wr xs k s'
theorem IW.lives{tgt:Expr}{I:Addr}{fp wr:List Addr}{D₀:Gh}{xs:List V}{St:Nat->Heap->Prop}(W:IW C A tgt I fp wr D₀ xs St){i:Nat}{h:Heap}(st:St i h):∀a∈wr,∃o,h.get? a=some o:=λa ha=>by
 obtain⟨o,h,_⟩:=W.live i h st a ha
 exact⟨o,h⟩
theorem IW.nf{tgt:Expr}{I:Addr}{fp wr:List Addr}{D₀:Gh}{xs:List V}{St:Nat->Heap->Prop}(W:IW C A tgt I fp wr D₀ xs St){i:Nat}{h:Heap}(st:St i h){a:Addr}{o:Obj}(ha:a∈wr)(e:h.get? a=some o):¬frk o:=by
 obtain⟨o',h',n⟩:=W.live i h st a ha
 rw[e] at h'
 rw[Option.some.inj h'];exact n
theorem IW.go{tgt:Expr}{I:Addr}{fp wr:List Addr}{D₀:Gh}{xs:List V}{St:Nat->Heap->Prop}(W:IW C A tgt I fp wr D₀ xs St){i:Nat}{h₀:Heap}{s₂ s₄:Shared}{P:Sto->Prop}{G₂ D₂ G₄ D₄:Gh}{σ₂ σ₄:Sto}(st₂:St i s₂.heap)(st₀:St 0 h₀)(stay:y0Y C D₀ P h₀ fp wr)(R₂:RelC C G₂ D₂ σ₂ s₂)(h₂:Sub D₀ D₂)(p₂:P σ₂)(R₄:RelC C G₄ D₄ σ₄ s₄)(h₄:Sub D₀ D₄)(p₄:P σ₄)(hw:∀b o,b∈wr->s₂.heap.get? b=some o->s₄.heap.get? b=some o):St i s₄.heap:=by
 refine W.frame _ _ _ st₂ λb hb o e=> ?_
 by_cases hbw:b∈wr
 ·exact hw b o hbw e
 ·cases q:h₀.get? b with
  |none=>exact(W.old b hb hbw _ st₀ q).elim
  |some o0=>exact stay _ _ _ _ R₄ h₄ p₄ b hb hbw o (q.trans ((stay _ _ _ _ R₂ h₂ p₂ b hb hbw o0 q).symm.trans e))
theorem z4e{tgt iter:Expr}{body:List Stmt}{p:Pos}{Q:Fl->Loc->Sto->Prop}(h:AI C env vars gl own d iter tgt m σ λxs P σ₁=>z47 C env vars gl own d tgt body P Q xs m σ₁)
  (hs:autoParam (∀x,foldedSetIterable iter env x=pure x) auF):AS C env vars gl own d (exec (.For tgt iter body [] p) env) m σ Q:=λA G D s hA R=>by
 refine wpAny_For (wpAny_mono (h A G D s hA R) (λx s₁ h₁=>wpAny_mono h₁ (λit s₂ h₂=> ?_) λ_ _ e=>e) λ_ _ e=>e) hs
 obtain⟨D₁,σ₁,xs,P,dx₁,⟨I,fp,wr,St,rfl,W,st₀,R₁,off₁,hP₁,stay⟩,hL⟩:=h₂
 have hb:=R.base
 refine codeAny_forLoop_any (LoopI C env vars gl own d tgt body P Q G D₁ St wr xs) ?_ (xs.length-0) ⟨0,m,D₁,σ₁,rfl,Nat.zero_le _,DX.refl _ _,st₀,R₁,off₁,hP₁,hL⟩
 rintro k s' ⟨i,m',D',σ',rfl,hi,dx',st',R',off',hP',hL'⟩
 by_cases hlt:i<xs.length
 ·have hX:xs[i]? =some xs[i]:=List.getElem?_eq_getElem hlt
  rw[List.drop_eq_getElem_cons hlt] at hL'
  refine wpAny_mono (W.item i _ s' _ hX st' λv s₁ hgo=> ?_) (λ_ _ e=>e) λ_ _ e=>e.elim
  refine wpAny_mono (hgo _ λh' tk hitem st₂ kept=> ?_) (λ_ _ e=>e) λ_ _ e=>e.elim
  obtain⟨D₂,dx₂,R₂,hv,offS⟩:=z8r (t:=tk) R' dx'.sub off' kept hitem
  have off₂:=offS wr (W.lives st') off'
  have R₃:=R₂.withW off₂
  refine wpAny_mono (hL' A _ D₂ _ v hA R₃ hv) (λ_ s₃ q₃=> ?_) λ_ _ e=>e.elim
  obtain⟨m₃,D₃,σ₃,dx₃,R₄,hbody⟩:=q₃
  refine wpAny_mono (hbody.run hA R₄ λf s₄ fl m₄ D₄ σ₄ dx₄ hfl R₅ q=> ?_) (λ_ _ e=>e) λ_ _ e=>e.elim
  obtain⟨R₆,dx₆,off₆⟩:=R₅.lessW off₂ hb (dx₃.trans dx₄) (W.lives st₂)
  have cont:(P σ₄/\z47 C env vars gl own d tgt body P Q (xs.drop (i+1)) m₄ σ₄)->∃k',k'<xs.length-i/\LoopI C env vars gl own d tgt body P Q G D₁ St wr xs k' s₄:=λh=>⟨xs.length-(i+1),Nat.sub_lt_sub_left hlt (Nat.lt_succ_self i),i+1,m₄,D₄,σ₄,rfl,hlt,(dx'.trans dx₂).trans dx₆,W.go st₂ st₀ stay R₂.toRelC (dx'.trans dx₂).sub hP' R₆.toRelC ((dx'.trans dx₂).trans dx₆).sub h.1 λb o hb e=>R₅.ge ((z1T hb).trans e) (W.nf st₂ hb e),R₆,off₆,h.1,h.2⟩
  cases f<;>cases fl<;>first|exact hfl.elim|skip
  ·exact cont q
  ·exact⟨.next,m₄,D₄,σ₄,((dx₁.trans dx').trans dx₂).trans dx₆,trivial,R₆,q⟩
  ·exact cont q
  ·exact⟨.ret _,m₄,D₄,σ₄,((dx₁.trans dx').trans dx₂).trans dx₆,hfl,R₆,q⟩
 ·have hie:i=xs.length:=Nat.le_antisymm hi (Nat.not_lt.mp hlt)
  subst hie
  rw[List.drop_length] at hL'
  refine wpAny_mono (W.done s' _ st' λh' tk kept=> ?_) (λ_ _ e=>e) λ_ _ e=>e.elim
  exact wpAny_execs_nil ⟨.next,m',D',σ',dx₁.trans dx',trivial,R'.keepBut tk off' kept,hL'⟩
end
end
section
noncomputable def ownerNames:List String:=["enumerate","zip","dict_itemiterator","dict_reverseitemiterator","odict_iterator","itertools.zip_longest","itertools.pairwise"]
theorem z4R{M:Model}{A:Around}{E:Value->Shared->Prop}{s:Shared}{tgt:Expr}{I:Addr}{v:Value}{o:Obj}{n:String}{Q:Unit->Shared->Prop}
  (ho:s.heap.get? I=some o) (hc:o.cls= .type n) (hn:ownerNames.contains n=false) (h:Q () s):wpAny M A (letOwnedTupleGo tgt (.ref I) v) Q E s:=by
 unfold letOwnedTupleGo
 have key:wpAny M A (match v with
   | .ref a=>(do
    let o <-load I
    match o.cls,o.data with
    | .type n,.fields vs=>
     if(ownerNames.contains n&&vs[0]? ==some (rawInt a))=true then do
      rule "for.unpacks-the-owned-tuple"
      updateField I 0 .none
     else pure ()
    |_,_=>pure ():Sem Unit)
   |_=>pure ()) Q E s:=by
  cases v with
  |ref a=>
   refine wpAny_bind (wpAny_load ho ?_)
   rw[hc]
   cases o.data<;>dsimp only<;>first|exact wpAny_pure h|(rw[hn];exact wpAny_pure h)
  |_=>exact wpAny_pure h
 cases tgt<;>first|exact wpAny_pure h|(cases v<;>first|exact wpAny_pure h|exact key)
section
variable {C:Cx} {env:Env} {vars:List Str} {gl:List (Str×V)} {own:Bool} {d:Nat} {m m':Loc} {σ σ':Sto}
variable {A:Around} {G D D₀ D₁:Gh} {s:Shared} {Q:List V->(Sto->Prop)->Sto->Prop}
theorem IW.ofWalks{tgt:Expr}{I:Addr}{fp wr:List Addr}{n:Nat}{Pw:Nat->Value->Prop}{St:Nat->Heap->Prop}{xs:List V}(W:Walks C.prog C.w A I fp wr n Pw St)(hn:n=xs.length)
  (hx:∀(i:Nat) v X,Pw i v->xs[i]? =some X->VR C.w D v X) (hl:∀i h,St i h->∀a∈wr,∃o,h.get? a=some o/\¬frk o)
  (hold:∀b∈fp,b∉wr->∀h:Heap,St 0 h->h.get? b=none->False)
  (hc:∀i h,St i h->∃o n,h.get? I=some o/\o.cls= .type n/\ownerNames.contains n=false):IW C A tgt I fp wr D xs St where
 live:=hl
 sub:=W.sub
 old:=hold
 frame:=W.frame
 item:=λi X s K hX st h=>W.item i s K _ (by rw[hn];exact(List.getElem?_eq_some_iff.mp hX).1) st λv h' tk hP st' hk=>h v _ λQ' q=>by
  obtain⟨o,nm,ho,hcl,hno⟩:=hc _ _ st'
  exact z4R ho hcl hno (q h' tk (.inl (hx i v X hP hX)) st' hk)
 self:=λi s K st h=>W.self i s K _ st h
 done:=λs K st h=>W.done s K _ (by rw[hn];exact st) λh' tk hk=>h h' tk hk
inductive Has(σ:Sto):V->AO->(Sto->Prop)->Prop
 |lst (xs:List V):Has σ (.lst xs) (.list xs) (λ_=>True)
 |dct (es:List (V×V)):Has σ (.dct es) (.dict es) (λ_=>True)
 |refL {a:Addr} {o:Obj} {xs:List V}:(a,o,AO.list xs)∈σ->Has σ (.ref a) (.list xs) (λσ'=>(a,o,AO.list xs)∈σ')
 |refD {a:Addr} {o:Obj} {es:List (V×V)}:(a,o,AO.dict es)∈σ->Has σ (.ref a) (.dict es) (λσ'=>(a,o,AO.dict es)∈σ')
theorem Has.run{x:V}{ao:AO}{P:Sto->Prop}(h:Has σ x ao P)(R:RelC C G D σ s){v:Value}(hv:VR C.w D v x):
  ∃a o,v= .ref a/\s.heap.get? a=some o/\HR C.w D o ao/\P σ/\∀G' D' σ' (s':Shared),RelC C G' D' σ' s'->Sub D D'->P σ'->s'.heap.get? a=some o:=by
 cases h with
 |lst xs=>obtain⟨_,_,_,rfl,e,r⟩:=VR.lstI hv;exact⟨_,_,rfl,R.d _ _ e,⟨_,_,rfl,by simpa using r⟩,trivial,λG' D' σ' s' R' hs _=>R'.d _ _ (hs _ _ e)⟩
 |dct xs=>obtain⟨_,_,_,rfl,e,r⟩:=VR.dctI hv;exact⟨_,_,rfl,R.d _ _ e,⟨_,_,rfl,by simpa using r⟩,trivial,λG' D' σ' s' R' hs _=>R'.d _ _ (hs _ _ e)⟩
 |refL hm=>apply VR.refE hv;exact⟨_,_,rfl,R.pl _ hm,R.sto _ hm,hm,λG' D' σ' s' R' hs hm'=>R'.pl _ hm'⟩
 |refD hm=>apply VR.refE hv;exact⟨_,_,rfl,R.pl _ hm,R.sto _ hm,hm,λG' D' σ' s' R' hs hm'=>R'.pl _ hm'⟩
theorem Has.isList{x:V}{xs:List V}{P:Sto->Prop}(h:Has σ x (.list xs) P)(R:RelC C G D σ s){v:Value}(hv:VR C.w D v x):
  ∃a vs n,v= .ref a/\s.heap.get? a=some (z0p vs n)/\VRs C.w D vs.toList xs:=by
 obtain⟨a,o,rfl,ho,⟨vs,n,rfl,hr⟩,_⟩:=h.run R hv
 exact⟨a,vs,n,rfl,ho,hr⟩
theorem Has.runLE{x:V}{xs:List V}{P:Sto->Prop}{Z:Value->Prop}(h:Has σ x (.list xs) P)(R:RelC C G D σ s){v:Value}(hv:VR C.w D v x)
  (k:∀a vs n,s.heap.get? a=some (z0p vs n)->VRs C.w D vs.toList xs->P σ->(∀G' D' σ' (s':Shared),RelC C G' D' σ' s'->Sub D D'->P σ'->s'.heap.get? a=some (z0p vs n))->Z (.ref a)):Z v:=by
 obtain⟨a,o,rfl,ho,⟨vs,n,rfl,hr⟩,hP,hst⟩:=h.run R hv
 exact k a vs n ho hr hP hst
theorem Has.isListE{x:V}{xs:List V}{P:Sto->Prop}{Z:Value->Prop}(h:Has σ x (.list xs) P)(R:RelC C G D σ s){v:Value}(hv:VR C.w D v x)(k:∀a vs n,s.heap.get? a=some (z0p vs n)->VRs C.w D vs.toList xs->Z (.ref a)):Z v:=by
 obtain⟨a,vs,n,rfl,ho,hr⟩:=h.isList R hv
 exact k a vs n ho hr
theorem Has.isDictE{x:V}{xs:List (V×V)}{P:Sto->Prop}{Z:Value->Prop}(h:Has σ x (.dict xs) P)(R:RelC C G D σ s){v:Value}(hv:VR C.w D v x)(k:∀a vs n,s.heap.get? a=some (z1Z vs n)->Z (.ref a)):Z v:=by
 obtain⟨a,o,rfl,ho,⟨vs,n,rfl,hr⟩,_⟩:=h.run R hv
 exact k a vs n ho
theorem RelF.offNew(R:RelF C env vars gl own G D m σ s)(o:Obj):Off env vars G D σ [s.heap.objs.size]:=λa ha=>by
 simp at ha;subst ha
 refine⟨?_,R.toRelC.new_D,R.toRelC.new_notFoot,λhm=> ?_⟩
 ·exact R.toRelC.new_G
 ·obtain⟨o,e⟩:=R.mineLives hm;exact Nat.lt_irrefl _ (Heap.lt_size e)
theorem RelF.push(R:RelF C env vars gl own G D m σ s)(o:Obj):RelF C env vars gl own G D m σ {s with heap:=s.heap.push o}:=R.back (R.lifted.push o) (DX.refl _ _)
theorem IW.two{tgt:Expr}{I ax:Addr}{n:Nat}{Pw:Nat->Value->Prop}{St:Nat->Heap->Prop}{xs:List V}(W:Walks C.prog C.w A I [I,ax] [I] n Pw St)(hn:n=xs.length)(hx:∀(i:Nat) v X,Pw i v->xs[i]? =some X->VR C.w D v X)
  (hI:∀i h,St i h->∃o n,h.get? I=some o/\o.cls= .type n/\(ownerNames.contains n||n=="#frame")=false) (ha:∀h:Heap,St 0 h->∃o,h.get? ax=some o):IW C A tgt I [I,ax] [I] D xs St:=
 IW.ofWalks W hn hx (λi h st a ha=>by rw[List.mem_singleton.mp ha];obtain⟨o,n,ho,hc,hn⟩:=hI i h st;exact⟨o,ho,nfC (hc▸frN (Bool.or_eq_false_iff.mp hn).2)⟩) (λb hb hbw h st e=>by
  rcases List.mem_cons.mp hb with rfl|hb
  ·exact hbw (.head _)
  ·rw[List.mem_singleton.mp hb] at e;obtain⟨o,ho⟩:=ha h st;rw[ho] at e;cases e) λi h st=>by obtain⟨o,n,a,b,c⟩:=hI i h st;exact⟨o,n,a,b,(Bool.or_eq_false_iff.mp c).1⟩
theorem z8A{P:Sto->Prop}{ax I:Addr}{o x:Obj}(ho:s.heap.get? ax=some o)(hst:∀G' D' σ' (s':Shared),RelC C G' D' σ' s'->Sub D D'->P σ'->s'.heap.get? ax=some o):
  ∀G' D' σ' (s':Shared),RelC C G' D' σ' s'->Sub D D'->P σ'->∀b∈[I,ax],b∉[I]->∀o',(s.heap.push x).get? b=some o'->s'.heap.get? b=some o':=λG' D' σ' s' R' hs hP b hb hbw o' e=>by
 rcases List.mem_cons.mp hb with rfl|hb
 ·exact absurd (.head _) hbw
 ·rw[List.mem_singleton.mp hb] at e⊢
  rw[Heap.get?_push_of_some _ ho] at e;cases e;exact hst G' D' σ' s' R' hs hP
theorem z0J [HM C]{iter tgt:Expr}(h:AT C env vars gl own d (eval iter env) m σ λX σ₁=>∃xs P,Has σ₁ X (.list xs) P/\Q xs P σ₁):AI C env vars gl own d iter tgt m σ Q:=λA G D s hA R=>
 h.run hA R λv s₁ X D₁ σ₁ a b c hpp=>by
  obtain⟨xs,P,hH,q⟩:=hpp
  apply Has.runLE hH c.toRelC b;intro ax vs n ho hr hP hst
  have hl:s₁.heap.IsList ax vs:=⟨_,ho,rfl,n,rfl⟩
  have hne:ax≠s₁.heap.objs.size:=Nat.ne_of_lt (Heap.lt_size ho)
  refine wpAny_pyIter_list hl ⟨D₁,σ₁,xs,P,a,⟨s₁.heap.objs.size,_,_,_,rfl,IW.two (Walks.list hA.hh s₁.heap.objs.size ax hne vs) (by rw[<-hr.length];simp) ?_ (λi h st=>by obtain⟨⟨o,ho,hc,_⟩,_⟩:=st;exact⟨o,_,ho,hc,by decide⟩) (λh st=>by obtain⟨_,o,ho,_⟩:=st;exact⟨o,ho⟩),⟨⟨_,Heap.get?_push_size _ rfl,rfl,rfl⟩,hl.push _⟩,c.push _,c.offNew (z0p #[] 0),hP,z8A ho hst⟩,q⟩
  ·intro i u X e hX
   obtain⟨u',e',r⟩:=hr.get hX
   rw[Array.getElem?_toList,e] at e';cases e';exact r
theorem y1m [HM C]{iter tgt:Expr}(h:AT C env vars gl own d (eval iter env) m σ λX σ₁=>∃xs,X= .tup xs/\Q xs (λ_=>True) σ₁):AI C env vars gl own d iter tgt m σ Q:=λA G D s hA R=>
 h.run hA R λv s₁ X D₁ σ₁ a b c hpp=>by
  obtain⟨xs,hX,q⟩:=hpp
  subst hX
  obtain⟨ax,o,vs,n,rfl,e,hc,hd,hr⟩:=VR.tupI b
  ·skip
   have ho:=c.d _ _ e
   have ht:s₁.heap.IsTuple ax vs.toArray:=⟨_,ho,hc,n,hd⟩
   have hne:ax≠s₁.heap.objs.size:=Nat.ne_of_lt (Heap.lt_size ho)
   refine wpAny_pyIter_tuple ht ⟨D₁,σ₁,xs,λ_=>True,a,⟨s₁.heap.objs.size,_,_,_,rfl,IW.two (Walks.tuple hA.hh s₁.heap.objs.size ax hne vs.toArray) (by rw[<-hr.length];simp) ?_ (λi h st=>by obtain⟨⟨o,ho,hc,_⟩,_⟩:=st;exact⟨o,_,ho,hc,by decide⟩) (λh st=>by obtain⟨_,o,ho,_⟩:=st;exact⟨o,ho⟩),⟨⟨_,Heap.get?_push_size _ rfl,rfl,rfl⟩,ht.at λo e=>Heap.get?_push_of_some _ e⟩,c.push _,c.offNew (z0p #[] 0),trivial,z8A ho (λG' D' σ' s' R' hs _=>R'.d _ _ (hs _ _ e))⟩,q⟩
   ·intro i u X e hX
    obtain⟨u',e',r⟩:=hr.get hX
    have e2:vs[i]? =some u:=by simpa using e
    rw[e2] at e';cases e';exact r
noncomputable def z1j(a c:Int)(n:Nat):List V:=(List.range n).map λ(i:Nat)=>V.int (a+(i:Int)*c)
theorem z2p [HM C]{iter tgt:Expr}(h:AT C env vars gl own d (eval iter env) m σ λX σ₁=>∃(a b c:Int) (n:Nat),X= .rng a b c/\Builtin.Range.small a b c=true/\Builtin.Range.rangeSize a b c=(n:Int)/\Q (z1j a c n) (λ_=>True) σ₁):
  AI C env vars gl own d iter tgt m σ Q:=λA G D s hA R=>
 h.run hA R λv s₁ X D₁ σ₁ dx b c hpp=>by
  obtain⟨x,y,z,n,hX,hsm,hsz,q⟩:=hpp
  subst hX
  obtain⟨_,_,_,_,rfl,e⟩:=VR.rngI b
  ·skip
   have ho:=c.d _ _ e
   refine wpAny_pyIter_range ho hsm ⟨D₁,σ₁,_,λ_=>True,dx,⟨s₁.heap.objs.size,_,_,_,rfl,IW.ofWalks (Walks.range hA.hh s₁.heap.objs.size x z n) (by simp[z1j]) ?_ ?_ ?_ ?_,?_,c.push _,c.offNew (z0p #[] 0),trivial,?_⟩,q⟩
   ·rintro i u X ⟨t,rfl⟩ hX
    have hlt:i<n:=by simpa[z1j] using(List.getElem?_eq_some_iff.mp hX).1
    simp[z1j,hlt] at hX
    subst hX
    exact .int _ _
   ·rintro i h st a ha;simp at ha;subst ha;exact⟨_,st,nfC (frN (by decide))⟩
   ·rintro b hb hbw h _ e;exact hbw hb
   ·rintro i h st;exact⟨_,_,st,rfl,by decide⟩
   ·show IsRangeIter _ _ _ _ _
    rw[hsz];simpa using Heap.get?_push_size _ rfl
   ·intro G' D' σ' s' R' hs hP' b hb hbw o' e'
    exact absurd hb hbw
end
end
section
noncomputable def z2I(env:Env):List (Str×NameKind)->List (Str×Addr)->List (Str×Addr)
 |[],acc=>acc
 |(n,k)::r,acc=>if k== .free then(match env.cells.lookup n with
   |some c=>z2I env r ((n,c)::acc)
   |none=>z2I env r acc) else z2I env r acc
theorem z5d{sc:Scope}{env:Env}(h:∀x∈sc.names,x.2= .free->∃c,env.cells.lookup x.1=some c):closureFor sc env=pure (z2I env sc.names []):=by
 have key:∀(names:List (Str×NameKind)) (acc:List (Str×Addr)) (f:Str×NameKind->List (Str×Addr)->Sem (ForInStep (List (Str×Addr)))),
   (∀n k a,f (n,k) a=if k== .free then(do let c <-cellOf env n;pure (.yield ((n,c)::a))) else pure (.yield a))->(∀x∈names,x.2= .free->∃c,env.cells.lookup x.1=some c)->
   forIn names acc f=pure (z2I env names acc):=by
  intro names
  induction names with
  |nil=>intro acc f _ _;rw[List.forIn_nil];rfl
  |cons p r ih=>
   obtain⟨n,k⟩:=p
   intro acc f hf hx
   rw[List.forIn_cons,hf]
   unfold z2I
   cases hk:(k==NameKind.free) with
   |false=>
    simp only[Bool.false_eq_true,if_false,pure_bind]
    exact ih acc f hf λx h=>hx x (.tail _ h)
   |true=>
    obtain⟨c,hc⟩:=hx (n,k) (.head _) (beq_iff_eq.mp hk)
    simp only[if_true,cellOf,hc,pure_bind]
    exact ih _ f hf λx h=>hx x (.tail _ h)
 unfold closureFor
 show(forIn sc.names ([]:List (Str×Addr)) _>>=λcs=>pure cs)=_
 rw[key sc.names [] _ (λn k a=>by cases hk:(k==NameKind.free)<;>simp[hk]) h]
 rfl
theorem z3g{env:Env}{n:Str}{c:Addr}:∀{names:List (Str×NameKind)} {acc:List (Str×Addr)},(n,c)∈z2I env names acc->(n,c)∈acc∨((n,NameKind.free)∈names/\env.cells.lookup n=some c)
 |[],_,h=> .inl h
 |(y,k)::r,acc,h=>by
  unfold z2I at h
  cases hk:(k==NameKind.free) with
  |false=>
   rw[hk] at h
   simp only[Bool.false_eq_true,if_false] at h
   exact(z3g h).imp id λq=>⟨.tail _ q.1,q.2⟩
  |true=>
   rw[hk] at h
   simp only[if_true] at h
   cases hc:env.cells.lookup y with
   |none=>rw[hc] at h;exact(z3g h).imp id λq=>⟨.tail _ q.1,q.2⟩
   |some c'=>
    rw[hc] at h
    rcases z3g h with q|q
    ·rcases List.mem_cons.mp q with e|q
     ·cases e;rw[<-beq_iff_eq.mp hk];exact .inr ⟨.head _,hc⟩
     ·exact .inl q
    ·exact .inr ⟨.tail _ q.1,q.2⟩
theorem z2M{env:Env}:∀{names:List (Str×NameKind)} {acc:List (Str×Addr)},(names.map (·.1)).Nodup->(acc.map (·.1)).Nodup->(∀n∈acc.map (·.1),n∉names.map (·.1))->((z2I env names acc).map (·.1)).Nodup
 |[],_,_,h,_=>h
 |(y,k)::r,acc,h1,h2,h3=>by
  have h1':=List.nodup_cons.mp h1
  have h3':∀n∈acc.map (·.1),n∉r.map (·.1):=λn hn q=>h3 n hn (.tail _ q)
  have hy:y∉acc.map (·.1):=λq=>h3 y q (.head _)
  unfold z2I
  split
  ·split
   ·refine z2M h1'.2 (List.nodup_cons.mpr ⟨hy,h2⟩) λn hn=> ?_
    rcases List.mem_cons.mp hn with rfl|hn
    ·exact h1'.1
    ·exact h3' n hn
   ·exact z2M h1'.2 h2 h3'
  ·exact z2M h1'.2 h2 h3'
theorem z4g{l:List (Str×Addr)}(hn:(l.map (·.1)).Nodup){n:Str}{c:Addr}(h:(n,c)∈l):l.lookup n=some c:=by
 induction l with
 |nil=>cases h
 |cons p r ih=>
  obtain⟨y,b⟩:=p
  have hn':=List.nodup_cons.mp hn
  rcases List.mem_cons.mp h with e|h
  ·cases e;simp[List.lookup_cons]
  ·have hne:n≠y:=λe=>hn'.1 (e▸List.mem_map.mpr ⟨(n,c),h,rfl⟩)
   rw[List.lookup_cons]
   have hb:(n==y)=false:=beq_eq_false_iff_ne.mpr hne
   rw[hb];exact ih hn'.2 h
theorem z3D{env:Env}{n:Str}{c:Addr}:∀{names:List (Str×NameKind)} {acc:List (Str×Addr)},((n,NameKind.free)∈names/\env.cells.lookup n=some c)∨(n,c)∈acc->(n,c)∈z2I env names acc
 |[],_,h=>h.elim (λq=>by cases q.1) id
 |(y,k)::r,acc,h=>by
  unfold z2I
  cases hk:(k==NameKind.free) with
  |false=>
   simp only[Bool.false_eq_true,if_false]
   refine z3D (h.imp (λq=>⟨?_,q.2⟩) id)
   rcases List.mem_cons.mp q.1 with e|e
   ·cases e;exact absurd hk (by decide)
   ·exact e
  |true=>
   simp only[if_true]
   cases hc:env.cells.lookup y with
   |none=>
    refine z3D (h.imp (λq=>⟨?_,q.2⟩) id)
    rcases List.mem_cons.mp q.1 with e|e
    ·cases e;rw[hc] at q;cases q.2
    ·exact e
   |some c'=>
    refine z3D ?_
    rcases h with q|q
    ·rcases List.mem_cons.mp q.1 with e|e
     ·cases e;have q2:=q.2;rw[hc] at q2;cases q2;exact .inr (.head _)
     ·exact .inl ⟨e,q.2⟩
    ·exact .inr (.tail _ q)
theorem z2q{env:Env}(hf:env.scope.kind= .function):∀{names:List (Str×NameKind)} {x:Str} {k:NameKind},names.lookup x=some k->
  (names.map λ(n,k)=>if(k==NameKind.free&&env.scope.kind== .function&&env.kindOf n==some .cell) then(n,NameKind.cell) else(n,k)).lookup x=some (if k== .free&&env.kindOf x==some .cell then .cell else k)
 |[],_,_,h=>by simp at h
 |(n,k')::r,x,k,h=>by
  rw[List.lookup_cons] at h
  show List.lookup x ((if(k'==NameKind.free&&env.scope.kind== .function&&env.kindOf n==some .cell)=true then(n,NameKind.cell) else(n,k'))::_)=_
  cases hx:x==n with
  |true=>
   rw[hx] at h;cases h
   have e:=beq_iff_eq.mp hx;subst e
   rw[hf]
   by_cases hc:(k'==NameKind.free&&env.kindOf x==some .cell)=true
   ·have hc':(k'==NameKind.free&&(ScopeKind.function==ScopeKind.function)&&env.kindOf x==some .cell)=true:=by simpa using hc
    rw[if_pos hc',if_pos hc];simp
   ·have hc':¬(k'==NameKind.free&&(ScopeKind.function==ScopeKind.function)&&env.kindOf x==some .cell)=true:=by simpa using hc
    rw[if_neg hc',if_neg hc];simp
  |false=>
   rw[hx] at h
   have ih:=z2q hf h
   by_cases hc:(k'==NameKind.free&&env.scope.kind== .function&&env.kindOf n==some .cell)=true
   ·rw[if_pos hc,List.lookup_cons]
    show(match x==n with|true=>_|false=>_)=_
    rw[hx];exact ih
   ·rw[if_neg hc,List.lookup_cons]
    show(match x==n with|true=>_|false=>_)=_
    rw[hx];exact ih
noncomputable def z1v(sc osc:Scope)(vars locals caps gl:List Str):Bool:=
 sc.kind== .function&&nodupB (sc.names.map (·.1))&&nodupB (locals++caps)&&
 sc.names.all (λp=> !(p.2== .cell)&&(!(p.2== .free)||caps.contains p.1))&&
 locals.all (λx=> !(x==("__debug__":Str))&&sc.names.lookup x==some .local)&&
 caps.all (λx=> !(x==("__debug__":Str))&&sc.names.lookup x==some .free&&osc.names.lookup x==some .cell&&vars.contains x)&&
 gl.all λx=> !(x==("__debug__":Str))&&sc.names.lookup x==some .globalImplicit
inductive Caps:List Str->Loc->List Str->Loc->Prop
 |nil {vars:List Str} {m:Loc}:Caps vars m [] []
 |cons {vars:List Str} {m:Loc} {x:Str} {X:V} {cs:List Str} {ms:Loc}:Lk vars m x X->Caps vars m cs ms->Caps vars m (x::cs) (some X::ms)
 |skip {vars:List Str} {m:Loc} {x:Str} {cs:List Str} {ms:Loc}:Caps vars m cs ms->Caps vars m (x::cs) (none::ms)
theorem Caps.get{vars:List Str}{m:Loc}{cs:List Str}{ms:Loc}(h:Caps vars m cs ms):∀{i:Nat} {x:Str} {X:V},cs[i]? =some x->ms[i]? =some (some X)->Lk vars m x X:=by
 induction h with
 |nil=>intro i x X h;simp at h
 |cons hl _ ih=>
  intro i x X h1 h2
  cases i with
  |zero=>simp at h1 h2;subst h1 h2;exact hl
  |succ i=>exact ih (by simpa using h1) (by simpa using h2)
 |skip _ ih=>
  intro i x X h1 h2
  cases i with
  |zero=>simp at h2
  |succ i=>exact ih (by simpa using h1) (by simpa using h2)
section
variable {C:Cx} {env:Env} {vars:List Str} {gl gl':List (Str×V)} {own:Bool} {d:Nat} {m m':Loc} {σ σ':Sto}
variable {A:Around} {G D D₀ D₁:Gh} {s:Shared}
noncomputable def ATs(C:Cx)(env:Env)(vars:List Str)(gl:List (Str×V))(own:Bool)(d:Nat):List Expr->Loc->Sto->(Bool->Sto->Prop)->Prop
 |[],m,σ,K=>K true σ
 |[c],m,σ,K=>AB C env vars gl own d (isTrue c env (eval c env)) m σ K
 |_,_,_,_=>False
noncomputable def z0S(C:Cx)(env:Env)(vars:List Str)(gl:List (Str×V))(d:Nat)(tgt elt:Expr)(ifs:List Expr)(P:Sto->Prop)(Q:List V->Sto->Prop):List V->List V->Loc->Sto->Prop
 |[],acc,m,σ=>Q acc σ
 |X::xs,acc,m,σ=>AA C env vars gl false d (assign tgt env) X m σ λm₁ σ₁=>ATs C env vars gl false d ifs m₁ σ₁ λb σ₂=>
  (b=true->AT C env vars gl false d (eval elt env) m₁ σ₂ λY σ₃=>P σ₃/\z0S C env vars gl d tgt elt ifs P Q xs (acc++[Y]) m₁ σ₃)/\
  (b=false->P σ₂/\z0S C env vars gl d tgt elt ifs P Q xs acc m₁ σ₂)
theorem ATs.run{ifs:List Expr}{K:Bool->Sto->Prop}(h:ATs C env vars gl own d ifs m σ K)(hA:AOk C A d)(R:RelF C env vars gl own G D m σ s):
  wpAny C.M A (forIn ifs true λc r=>if r=true then do let ok <-isTrue c env (eval c env);pure (ForInStep.yield ok) else pure (ForInStep.yield r)) (PostB C env vars gl own G D m K) (λ_ _=>False) s:=by
 match ifs,h with
 |[],h=>exact wpAny_tests_nil ⟨D,σ,DX.refl _ _,R,h⟩
 |[c],h=>exact wpAny_tests_one (h A G D s hA R)
 |_::_::_,h=>exact h.elim
inductive CompI(C:Cx)(env:Env)(vars:List Str)(gl:List (Str×V))(d:Nat)(tgt elt:Expr)(ifs:List Expr)(P:Sto->Prop)(Q:List V->Sto->Prop)(G D:Gh)(St:Nat->Heap->Prop)(acc:Addr)(wr:List Addr)(xs:List V)(k:Nat)(s':Shared):Prop
 |mk (i:Nat) (m':Loc) (D':Gh) (σ':Sto) (ys:List V) (vs:Array Value) (n:Nat):k=xs.length+1-i->i<=xs.length->ys.length<=i->DX G D D'->St i s'.heap->RelF C env vars gl false G D' m' σ' s'->Off env vars G D' σ' (acc::wr)->P σ'->
  s'.heap.get? acc=some (z0p vs n)->VRs C.w D' vs.toList ys->z0S C env vars gl d tgt elt ifs P Q (xs.drop i) ys m' σ'->CompI C env vars gl d tgt elt ifs P Q G D St acc wr xs k s'
theorem z81{elt tgt iter:Expr}{ifs:List Expr}{scope:Scope}{pos:Pos}{I acc:Addr}{fp wr:List Addr}{xs:List V}{St:Nat->Heap->Prop}{P:Sto->Prop}{Q:List V->Sto->Prop}
  {R':Result->Shared->Prop} (W:IW C A tgt I fp wr D₀ xs St) (hA:AOk C A d) (hsz:xs.length<=sizeLine) (hst:St 0 s.heap) (R:RelF C env vars gl false G D m σ s) (hD:Sub D₀ D)
  (hoff:Off env vars G D σ (acc::wr)) (haw:acc∉wr) (haf:acc∉fp) (hacc:s.heap.get? acc=some (z0p #[] 0)) (hP:P σ) (hstay:y0Y C D₀ P s.heap fp wr)
  (hL:z0S C env vars gl d tgt elt ifs P Q xs [] m σ)
  (hQ:∀s' D' σ' m' vs n ys,DX G D D'->RelF C env vars gl false G D' m' σ' s'->Off env vars G D' σ' [acc]->s'.heap.get? acc=some (z0p vs n)->VRs C.w D' vs.toList ys->Q ys σ'->R' (.ok .next) s'):
  codeAny C.M A (.compLoop (.ListComp elt [⟨tgt,iter,ifs,0⟩] scope pos) 0 (.ref I) (.ref acc) env) R' s:=by
 refine codeAny_loop rfl (CompI C env vars gl d tgt elt ifs P Q G D St acc wr xs) ?_ (xs.length+1-0)
  ⟨0,m,D,σ,[],#[],0,rfl,Nat.zero_le _,Nat.zero_le _,DX.refl _ _,hst,R,hoff,hP,hacc,.nil,hL⟩
 rintro k s' ⟨i,m',D',σ',ys,vs,n,rfl,hi,hys,dx',st',R₁,off',hP',hac',hvs',hL'⟩
 show wpAny _ A ((compTurn (.ListComp elt [⟨tgt,iter,ifs,0⟩] scope pos) 0 (.ref I) (.ref acc) env).onRaise (λx=>do noteFrame x env;theTreesLotGoes x)) _ _ s'
 refine wpAny_noted ?_
 rw[compTurn_list]
 refine wpAny_bind (wpAny_standAt (wpAny_bind ?_))
 have offw:Off env vars G D' σ' wr:=λa ha=>off' a (.tail _ ha)
 by_cases hlt:i<xs.length
 ·have hX:xs[i]? =some xs[i]:=List.getElem?_eq_getElem hlt
  rw[List.drop_eq_getElem_cons hlt] at hL'
  refine wpAny_mono (W.item i _ s' _ hX st' λv s₁ hgo=> ?_) (λ_ _ e=>e) λ_ _ e=>e.elim
  refine wpAny_bind (wpAny_mono (hgo _ λh' tk hitem st₂ kept=> ?_) (λ_ _ e=>e) λ_ _ e=>e.elim)
  obtain⟨D₂,dx₂,R₂,hv,offS⟩:=z8r (t:=tk) R₁ (hD.trans dx'.sub) offw kept hitem
  have hac₂:h'.get? acc=some (z0p vs n):=kept acc _ haw hac'
  have offa:Off env vars G D₂ σ' (acc::wr):=offS _ (λa ha=>by
   rcases List.mem_cons.mp ha with rfl|ha
   ·exact⟨_,hac'⟩
   ·exact W.lives st' a ha) off'
  have R₃:=R₂.withW offa
  have live₂:∀a∈acc::wr,∃o,h'.get? a=some o:=λa ha=>by
   rcases List.mem_cons.mp ha with rfl|ha
   ·exact⟨_,hac₂⟩
   ·exact W.lives st₂ a ha
  have stOk:∀{G₅ D₅ σ₅ m₅} {s₅:Shared},RelF C env vars gl false (z5k G (acc::wr) h') D₅ m₅ σ₅ s₅->Sub D₀ D₅->P σ₅->RelC C G₅ D₅ σ₅ s₅->St (i+1) s₅.heap:=λR₅ hs₅ hP₅ RC₅=>W.go st₂ hst hstay R₂.toRelC ((hD.trans dx'.sub).trans dx₂.sub) hP' RC₅ hs₅ hP₅ λb o hb e=>R₅.ge ((z1T (.tail _ hb)).trans e) (W.nf st₂ hb e)
  refine wpAny_bind (wpAny_mono (hL' A _ D₂ _ v hA R₃ hv) (λ_ s₃ q₃=> ?_) λ_ _ e=>e.elim)
  obtain⟨m₃,D₃,σ₃,dx₃,R₄,htests⟩:=q₃
  refine wpAny_bind (wpAny_mono (htests.run hA R₄) (λok s₄ q₄=> ?_) λ_ _ e=>e.elim)
  obtain⟨D₄,σ₄,dx₄,R₅,q₅⟩:=q₄
  cases ok with
  |false=>
   obtain⟨hP₅,hL₅⟩:=q₅.2 rfl
   obtain⟨R₆,dx₆,off₆⟩:=R₅.lessW offa R.base (dx₃.trans dx₄) live₂
   have hac₅:s₄.heap.get? acc=some (z0p vs n):=R₅.ge ((z1T (.head _)).trans hac₂) (nfC (frN (by decide)))
   have hsub:Sub D' D₄:=(dx₂.trans dx₆).sub
   exact wpAny_pure ⟨rfl,xs.length+1-(i+1),Nat.sub_lt_sub_left (Nat.lt_succ_of_lt hlt) (Nat.lt_succ_self i),i+1,m₃,D₄,σ₄,ys,vs,n,rfl,hlt,Nat.le_succ_of_le hys,(dx'.trans dx₂).trans dx₆,stOk R₅ ((hD.trans dx'.sub).trans hsub) hP₅ R₆.toRelC,R₆,off₆,hP₅,hac₅,hvs'.mono hsub,hL₅⟩
  |true=>
   refine wpAny_bind (wpAny_bind ((q₅.1 rfl).run hA R₅ λy s₅ Y D₅ σ₅ dx₅ hy R₆ q₆=> ?_) |> λh=>wpAny_mono h (λ_ _ e=>e) λ_ _ e=>e.elim)
   obtain⟨hP₆,hL₆⟩:=q₆
   obtain⟨R₇,dx₇,off₇⟩:=R₆.lessW offa R.base ((dx₃.trans dx₄).trans dx₅) live₂
   have hac₅:s₅.heap.get? acc=some (z0p vs n):=R₆.ge ((z1T (.head _)).trans hac₂) (nfC (frN (by decide)))
   have hsub:Sub D' D₅:=(dx₂.trans dx₇).sub
   have hvs₅:=hvs'.mono hsub
   have hvl:vs.size=ys.length:=by rw[<-hvs₅.length];simp
   refine wpAny_bind (wpAny_list_append_plain (hsz:=Nat.le_trans (Nat.le_of_eq hvl) (Nat.le_trans hys (Nat.le_trans hi hsz))) ⟨n,hac₅⟩ λh₆ hl₆ hs₆=> ?_)
   obtain⟨n₆,hl₆⟩:=hl₆
   have R₈:RelF C env vars gl false G D₅ m₃ σ₅ {s₅ with heap:=h₆}:=by
    have:=R₇.keepBut (h':=h₆) s₅.toks (wr:=[acc]) (λa ha=>by simp at ha;subst ha;exact off₇ a (.head _)) λb o hb e=>hs₆.extBut b o (by simpa using hb) e
    exact this
   have st₇:=stOk (s₅:=s₅) R₆ ((hD.trans dx'.sub).trans hsub) hP₆ R₇.toRelC
   refine wpAny_pure (wpAny_pure ⟨rfl,xs.length+1-(i+1),Nat.sub_lt_sub_left (Nat.lt_succ_of_lt hlt) (Nat.lt_succ_self i),i+1,m₃,D₅,σ₅,ys++[Y],vs.push y,n₆,rfl,hlt,by rw[List.length_append];exact Nat.succ_le_succ hys,(dx'.trans dx₂).trans dx₇,?_,R₈,off₇,hP₆,hl₆,?_,hL₆⟩)
   ·refine W.frame _ _ _ st₇ λb hb o e=>hs₆.extBut b o ?_ e
    rintro rfl
    exact haf hb
   ·rw[Array.toList_push]
    exact hvs₅.append (.cons hy .nil)
 ·have hie:i=xs.length:=Nat.le_antisymm hi (Nat.not_lt.mp hlt)
  subst hie
  rw[List.drop_length] at hL'
  refine wpAny_mono (W.done s' _ st' λh' tk kept=> ?_) (λ_ _ e=>e) λ_ _ e=>e.elim
  refine wpAny_pure (hQ _ D' σ' m' vs n ys dx' (R₁.keepBut tk offw kept) (λa ha=>off' a (by simp at ha;subst ha;exact .head _)) (kept acc _ haw hac') hvs' hL')
end
end
section
section
variable {C:Cx} {env:Env} {vars:List Str} {gl gl':List (Str×V)} {own:Bool} {d:Nat} {m m':Loc} {σ σ':Sto}
variable {A:Around} {G D D₀ D₁:Gh} {s:Shared}
theorem RelC.addL(R:RelC C G D σ s){a:Addr}{vs:Array Value}{n:Nat}{ys:List V}(h1:G a=none)(h2:D a=none)(h3:a∉foot σ)(ho:s.heap.get? a=some (z0p vs n))(hr:VRs C.w D vs.toList ys):
  RelC C G D ((a,z0p vs n,.list ys)::σ) s where
 same:=R.same
 bs:=R.bs
 g:=R.g
 d:=R.d
 base:=R.base
 nd:=List.nodup_cons.mpr ⟨h3,R.nd⟩
 offG:=λb hb=>by
  rcases List.mem_cons.mp hb with rfl|hb
  ·exact h1
  ·exact R.offG b hb
 offD:=λb hb=>by
  rcases List.mem_cons.mp hb with rfl|hb
  ·exact h2
  ·exact R.offD b hb
 pl:=λp hp=>by
  rcases List.mem_cons.mp hp with rfl|hp
  ·exact ho
  ·exact R.pl p hp
 sto:=λp hp=>by
  rcases List.mem_cons.mp hp with rfl|hp
  ·exact⟨vs,n,rfl,hr⟩
  ·exact R.sto p hp
inductive CompN(C:Cx)(env:Env)(vars:List Str)(gl':List (Str×V))(scope:Scope)(locals caps:List Str):Prop
 |mk:scope.kind= .function->(∀x∈scope.names,x.2≠ .cell)->closureFor scope env=pure (z2I env scope.names [])->(∀x∈scope.names,x.2= .local->scope.names.lookup x.1=some .local)->
  (∀E:Env,E.scope=relabel scope env->E.cells=z2I env scope.names []->E.globals=env.globals->E.builtins=env.builtins->(∀y k,scope.names.lookup y=some k->E.kindOf y=some (if k== .free&&env.kindOf y==some .cell then .cell else k))->
   FmOk C E (locals++caps) gl' false/\(∀x∈locals,E.kindOf x=some .local)/\(∀x∈caps,E.kindOf x=some .cell)/\∀x∈caps,∀c,E.cells.lookup x=some c->∃i:Nat,vars[i]? =some x/\env.kindOf x=some .cell/\env.cells.lookup x=some c)->CompN C env vars gl' scope locals caps
theorem z5q{α:Type}{x:Str×α}:∀{l:List (Str×α)},(l.map (·.1)).Nodup->x∈l->l.lookup x.1=some x.2
 |p::r,hn,hm=>by
  have hn':=List.nodup_cons.mp hn
  rcases List.mem_cons.mp hm with rfl|hm'
  ·rw[List.lookup_cons,beq_self_eq_true]
  ·rw[List.lookup_cons,beq_eq_false_iff_ne.mpr λq=>hn'.1 (List.mem_map.mpr ⟨x,hm',q⟩)];exact z5q hn'.2 hm'
theorem z7Z{scope:Scope}{locals caps:List Str}(ok:FmOk C env vars gl own)(hok:z1v scope env.scope vars locals caps (gl'.map (·.1))=true)(hgl:∀p∈gl',z0f C p.1 p.2):CompN C env vars gl' scope locals caps:=by
 simp only[z1v,Bool.and_eq_true,Bool.not_eq_true',beq_iff_eq,Bool.or_eq_true] at hok
 obtain⟨⟨⟨⟨⟨⟨k1,k2⟩,k3⟩,k4⟩,k5⟩,k6⟩,k7⟩:=hok
 have ndN:(scope.names.map (·.1)).Nodup:=nodupB_ok k2
 have hloc:∀x∈locals,(x==("__debug__":Str))=false/\scope.names.lookup x=some .local:=λx hx=>by
  have:=List.all_eq_true.mp k5 x hx
  simpa only[Bool.and_eq_true,Bool.not_eq_true',beq_iff_eq] using this
 have hcap:∀x∈caps,((x==("__debug__":Str))=false/\scope.names.lookup x=some .free)/\env.kindOf x=some .cell/\∃i c,vars[i]? =some x/\env.cells.lookup x=some c:=λx hx=>by
  have:=List.all_eq_true.mp k6 x hx
  simp only[Bool.and_eq_true,Bool.not_eq_true',beq_iff_eq,List.contains_iff_mem] at this
  have h3:env.kindOf x=some .cell:=this.1.2
  obtain⟨i,hi⟩:=List.mem_iff_getElem?.mp this.2
  rcases(ok.vk x this.2).2 with e|⟨_,c,hc⟩
  ·exact nomatch h3.symm.trans e
  ·exact⟨this.1.1,h3,i,c,hi,hc⟩
 have clNd:((z2I env scope.names []).map (·.1)).Nodup:=z2M ndN .nil (λn hn=>by cases hn)
 have clM:∀x c,(x,c)∈z2I env scope.names []->env.cells.lookup x=some c:=λx c e=>((z3g e).resolve_left λq=>nomatch q).2
 refine⟨k1,λx hx e=> ?_,z5d λx hx e=> ?_,λx hx e=>by rw[z5q ndN hx,e],λE eS eC eG eB eK=> ?_⟩
 ·have:=List.all_eq_true.mp k4 x hx
  simp[e] at this
 ·have:=List.all_eq_true.mp k4 x hx
  obtain⟨_,_,_,c,_,hc⟩:=hcap x.1 (by simpa[e] using this)
  exact⟨c,hc⟩
 have nl:∀x∈locals,E.kindOf x=some .local:=λx hx=>by rw[eK x _ (hloc x hx).2];rfl
 have nc:∀x∈caps,E.kindOf x=some .cell:=λx hx=>by rw[eK x _ (hcap x hx).1.2,(hcap x hx).2.1];rfl
 refine⟨⟨eS▸k1,nodupB_ok k3,λx hx=> ?_,?_,λp hp=> ?_,eG.trans ok.gg,eB.trans ok.gb⟩,nl,nc,λx hx c hc=> ?_⟩
 ·rcases List.mem_append.mp hx with hx|hx
  ·exact⟨(hloc x hx).1,.inl (nl x hx)⟩
  ·obtain⟨h1,_,_,c,_,hc⟩:=hcap x hx
   exact⟨h1.1,.inr ⟨nc x hx,c,by rw[eC];exact z4g clNd (z3D (.inl ⟨mem_of_lookup h1.2,hc⟩))⟩⟩
 ·rw[eC]
  exact(List.pairwise_map.mp clNd).imp_of_mem λ{x y} hx hy hne e=>hne (name_of_addr ok.ap (mem_of_lookup (clM _ _ hx)) (e▸mem_of_lookup (clM _ _ hy)))
 ·have:=List.all_eq_true.mp k7 p.1 (List.mem_map_of_mem hp)
  simp only[Bool.and_eq_true,Bool.not_eq_true',beq_iff_eq] at this
  exact⟨this.1,by rw[eK _ _ this.2];rfl,hgl p hp⟩
 ·obtain⟨_,h2,i,_,hi,_⟩:=hcap x hx
  exact⟨i,hi,h2,clM x c (mem_of_lookup (eC▸hc))⟩
section
variable {E:Env} {locals caps:List Str} {ms:Loc} {s₂ s':Shared}
theorem z97(hcaps:Caps vars m caps ms){i:Nat}{x:Str}{X:V}(e1:(locals++caps)[i]? =some x)(e3:((locals.map λ_=>(none:Option V))++ms)[i]? =some (some X)):x∈caps/\Lk vars m x X:=by
 rw[List.getElem?_append] at e1 e3
 rw[List.length_map] at e3
 by_cases hi:i<locals.length
 ·rw[if_pos hi,List.getElem?_map] at e3
  exact nomatch (Option.map_eq_some_iff.mp e3).choose_spec.2
 ·rw[if_neg hi] at e1 e3
  exact⟨List.mem_of_getElem? e1,hcaps.get e1 e3⟩
theorem y2v(nl:∀x∈locals,E.kindOf x=some .local){i:Nat}{x:Str}(e1:(locals++caps)[i]? =some x)(e2:E.kindOf x=some .cell):x∈caps:=
 (List.mem_append.mp (List.mem_of_getElem? e1)).resolve_left λh=>nomatch (nl x h).symm.trans e2
theorem RelF.dead(R:RelF C env vars gl own G D m σ s₂){b:Addr}(h:s₂.heap.get? b=none):z2c env vars G s₂ b=none/\D b=none/\b∉foot σ/\¬z2j env vars b:=
 have no:∀{x:Option Obj},(∀o,x=some o->s₂.heap.get? b=some o)->x=none:=λ{x} k=>Option.eq_none_iff_forall_not_mem.mpr λo e=>nomatch h.symm.trans (k o e)
 ⟨R.lifted.noG (λo e=>(nomatch h.symm.trans e)),no (R.d b),λhf=>by obtain⟨o,e⟩:=R.toRelC.footLives hf;exact(nomatch h.symm.trans e),λhm=>by obtain⟨o,e⟩:=R.mineLives hm;exact nomatch h.symm.trans e⟩
theorem z9G{mm:Str->Option Value}(R:RelF C env vars gl own G D m σ s₂)(ok:FmOk C E (locals++caps) gl' false)(hcaps:Caps vars m caps ms)(nl:∀x∈locals,E.kindOf x=some .local)(nc:∀x∈caps,E.kindOf x=some .cell)(ce:∀x∈caps,∀c,E.cells.lookup x=some c->∃i:Nat,vars[i]? =some x/\env.kindOf x=some .cell/\env.cells.lookup x=some c)
  (same:∃h tk,s'={C.s₀ with heap:=h,toks:=tk}) (kp:∀b o,s₂.heap.get? b=some o->s'.heap.get? b=some o) (dead:s₂.heap.get? E.locals=none) (hns:s'.heap.Ns E.locals mm):RelF C E (locals++caps) gl' false (z2c env vars G s₂) D ((locals.map λ_=>none)++ms) σ s' where
 toRelC:=⟨same,λb o e=>kp b o (R.bs b o e),λb o e=>R.lifted.g' e λ_=>kp b _,λb o e=>kp b o (R.d b o e),R.lifted.base,R.nd,R.lifted.offG,R.offD,λp hp=>(R.pl p hp).at λb _ ob e=>kp b ob e,R.sto⟩
 ok:=ok
 offL:=have h:=R.dead dead;⟨h.1,h.2.1,h.2.2.1⟩
 ns:=⟨mm,hns,λi x X e1 e2 e3=>nomatch (nc x (z97 hcaps e1 e3).1).symm.trans e2⟩
 cl:=λi x c e1 e2 e3=>by
  obtain⟨i0,g1,g2,hc⟩:=ce x (y2v nl e1 e2) c e3
  obtain⟨q1,⟨ov,q2,q3⟩,q4⟩:=R.cl i0 x c g1 g2 hc
  obtain⟨oc,hoc,_⟩:=id q2
  exact⟨λe=>(nomatch dead.symm.trans (show s₂.heap.get? E.locals=some oc from e▸hoc)),⟨ov,q2.keeps kp,λX e4=>by obtain⟨j,hj1,hj2⟩:=(z97 hcaps e1 e4).2.get;exact q3 X (z5p R.ok.nd hj1 g1▸hj2)⟩,oc,by rw[z1q (Or.inr ⟨i0,x,g1,g2,hc⟩) q1];exact hoc⟩
theorem y05{acc:Addr}{wr:List Addr}(R:RelF C env vars gl own G D m σ s₂)(nl:∀x∈locals,E.kindOf x=some .local)(ce:∀x∈caps,∀c,E.cells.lookup x=some c->∃i:Nat,vars[i]? =some x/\env.kindOf x=some .cell/\env.cells.lookup x=some c)
  (hne:acc≠E.locals) (dead:s₂.heap.get? E.locals=none) (dead':s₂.heap.get? acc=none) (off:Off env vars G D σ wr) (live:∀a∈wr,∃o,s₂.heap.get? a=some o):Off E (locals++caps) (z2c env vars G s₂) D σ (acc::wr):=λa ha=>by
 have key:a≠E.locals->¬z2j env vars a->¬z2j E (locals++caps) a:=λh1 h2 h=>by
  rcases h with e|⟨i,x,e1,e2,e3⟩
  ·exact h1 e
  ·obtain⟨i0,g1,g2,hc⟩:=ce x (y2v nl e1 e2) a e3
   exact h2 (Or.inr ⟨i0,x,g1,g2,hc⟩)
 rcases List.mem_cons.mp ha with rfl|ha
 ·have h:=R.dead dead'
  exact⟨h.1,h.2.1,h.2.2.1,key hne h.2.2.2⟩
 ·have q:=off a ha
  refine⟨by rw[z1S q.2.2.2];exact q.1,q.2.1,q.2.2.1,key (λe=> ?_) q.2.2.2⟩
  obtain⟨o,h⟩:=live a ha
  exact nomatch dead.symm.trans (show s₂.heap.get? E.locals=some o from e▸h)
end
theorem y1b{E:Env}{elt tgt iter:Expr}{ifs:List Expr}{scope:Scope}{pos:Pos}{locals caps:List Str}{ms:Loc}{use:Option (Value->Sem Unit)}{K:Value->Shared->Prop}{Q:List V->Sto->Prop}{acc I:Addr}{fp wr:List Addr}{St:Nat->Heap->Prop}{xs:List V}{P:Sto->Prop}{s₂ s':Shared}{mm:Str->Option Value}
  (hA:AOk C A d) (R:RelF C env vars gl own G D m σ s₂) (ok:FmOk C E (locals++caps) gl' false) (hcaps:Caps vars m caps ms) (nl:∀x∈locals,E.kindOf x=some .local) (nc:∀x∈caps,E.kindOf x=some .cell) (ce:∀x∈caps,∀c,E.cells.lookup x=some c->∃i:Nat,vars[i]? =some x/\env.kindOf x=some .cell/\env.cells.lookup x=some c)
  (same:∃h tk,s'={C.s₀ with heap:=h,toks:=tk}) (kp:∀b o,s₂.heap.get? b=some o->s'.heap.get? b=some o) (dead:s₂.heap.get? E.locals=none) (dead':s₂.heap.get? acc=none) (hne:acc≠E.locals) (hns:s'.heap.Ns E.locals mm) (hacc:s'.heap.get? acc=some (z0p #[] 0))
  (W:IW C A tgt I fp wr D xs St) (st₀:St 0 s₂.heap) (off:Off env vars G D σ wr) (hP:P σ) (stay:y0Y C D P s₂.heap fp wr) (hsz:xs.length<=sizeLine) (hL:z0S C E (locals++caps) gl' d tgt elt ifs P Q xs [] ((locals.map λ_=>none)++ms) σ)
  (hK:∀s' D' σ' vs n ys mm,DX G D D'->RelF C env vars gl own G D' m ((acc,z0p vs n,.list ys)::σ') s'->Off env vars G D' ((acc,z0p vs n,.list ys)::σ') [E.locals]->s'.heap.Ns E.locals mm->Q ys σ'->compPost C.M A (λ_ _=>False) use K (.ref acc) E.locals (.ok .next) s'):
  codeAny C.M A (.compStart (.ListComp elt [⟨tgt,iter,ifs,0⟩] scope pos) 0 (.ref I) (.ref acc) E) (compPost C.M A (λ_ _=>False) use K (.ref acc) E.locals) s':=by
 have stA:St 0 s'.heap:=W.frame _ _ _ st₀ λb _ o e=>kp b o e
 have haw:acc∉wr:=λhw=>by obtain⟨o,e⟩:=W.lives st₀ acc hw;exact nomatch dead'.symm.trans e
 have loop:codeAny C.M A (.compLoop (.ListComp elt [⟨tgt,iter,ifs,0⟩] scope pos) 0 (.ref I) (.ref acc) E) (compPost C.M A (λ_ _=>False) use K (.ref acc) E.locals) s':=by
  refine z81 W hA hsz stA (z9G R ok hcaps nl nc ce same kp dead hns) (Sub.refl _) (y05 R nl ce hne dead dead' off (W.lives st₀)) haw (λhf=>W.old acc hf haw _ st₀ dead') hacc hP (λG' D' σ' s' R' hs' hP' b hb hbw o e=> ?_) hL λs' D' σ' m'' vs n ys dx' RF' off' ho' hvs' hq'=> ?_
  ·cases q:s₂.heap.get? b with
   |none=>exact(W.old b hb hbw _ st₀ q).elim
   |some o0=>exact stay G' D' σ' s' R' hs' hP' b hb hbw o (q.trans ((kp b o0 q).symm.trans e))
  ·have oa:=off' acc (.head _)
   have hl:=RF'.offL
   obtain⟨mm,hmm,_⟩:=RF'.ns
   refine hK s' D' σ' vs n ys mm (R.dx dx') (R.back (RF'.toRelC.addL oa.1 oa.2.1 oa.2.2.1 ho' hvs') dx') (λa ha=> ?_) hmm hq'
   rw[List.mem_singleton.mp ha]
   refine⟨R.overN hl.1,hl.2.1,λhf=> ?_,(R.dead dead).2.2.2⟩
   rcases List.mem_cons.mp hf with e|hf
   ·exact hne e.symm
   ·exact hl.2.2 hf
 exact codeAny_compStart_list loop (wpAny_mono (W.self 0 _ _ stA loop) (λ_ _ e=>e) λ_ _ e=>e.elim)
theorem z24{elt tgt iter:Expr}{ifs:List Expr}{scope:Scope}{pos pos':Pos}{locals caps:List Str}{ms:Loc}{use:Option (Value->Sem Unit)}{K:Value->Shared->Prop}{Q:List V->Sto->Prop}
  (hA:AOk C A d) (R:RelF C env vars gl own G D m σ s) (hok:z1v scope env.scope vars locals caps (gl'.map (·.1))=true) (hgl:∀p∈gl',z0f C p.1 p.2) (hcaps:Caps vars m caps ms)
  (h:AI C env vars gl own d iter tgt m σ λxs P σ₁=>xs.length<=sizeLine/\∀env',env'.scope=relabel scope env->z0S C env' (locals++caps) gl' d tgt elt ifs P Q xs [] ((locals.map λ_=>none)++ms) σ₁)
  (hs:∀x,foldedSetIterable iter env x=pure x)
  (hK:∀s' D' σ' a vs n ys L mm,DX G D D'->RelF C env vars gl own G D' m ((a,z0p vs n,.list ys)::σ') s'->Off env vars G D' ((a,z0p vs n,.list ys)::σ') [L]->s'.heap.Ns L mm->Q ys σ'->compPost C.M A (λ_ _=>False) use K (.ref a) L (.ok .next) s'):
  wpAny C.M A (comprehension (.ListComp elt [⟨tgt,iter,ifs,0⟩] scope pos) scope env pos' (newList []) false (eval iter env) use) K (λ_ _=>False) s:=by
 obtain⟨k1,hnc,hclos,hlk,hE⟩:=z7Z R.ok hok hgl
 refine wpAny_comprehension_free (g:=⟨tgt,iter,ifs,0⟩) (gs:=[]) rfl hs hclos k1 hlk (wpAny_mono (h A G D s hA R) (λx s₁ h₁=>wpAny_mono h₁ (λit s₂ h₂=> ?_) λ_ _ e=>e) λ_ _ e=>e)
 obtain⟨D₁,σ₁,xs,P,dx₁,⟨I,fp,wr,St,rfl,W,st₀,R₁,off₁,hP₁,stay⟩,hsz,hL⟩:=h₂
 refine wpAny_newList (items:=[]) (wpAny_newFunctionEnv hnc (λy hy=>nomatch hy) (λh₁ hns hsb=> ?_) k1) (Nat.zero_le _)
 obtain⟨ok,nl,nc,ce⟩:=hE {(newEnv scope (s₂.heap.push (z0p #[] 0)).objs.size env.globals (z2I env scope.names []) env.qual none .none (some env) builtinsNs) with scope:=relabel scope env} rfl rfl rfl (R.ok.gb.symm▸rfl) λy k e=>z2q R.ok.fn e
 have hsz':(s₂.heap.push (z0p #[] 0)).objs.size=s₂.heap.objs.size+1:=Heap.size_push ..
 have dead:∀b,s₂.heap.objs.size<=b->s₂.heap.get? b=none:=λb hb=>Option.eq_none_iff_forall_not_mem.mpr λo e=>absurd (Heap.lt_size e) (Nat.not_lt.mpr hb)
 have kp:∀b o,b<=s₂.heap.objs.size->(s₂.heap.push (z0p #[] 0)).get? b=some o->h₁.get? b=some o:=λb o hb e=>hsb.extBut b o (show b≠(s₂.heap.push (z0p #[] 0)).objs.size from hsz'▸Nat.ne_of_lt (Nat.lt_succ_of_le hb)) (Heap.get?_push_of_some _ e)
 refine y1b hA R₁ ok hcaps nl nc ce (by obtain⟨h0,t0,e⟩:=R₁.same;exact⟨h₁,_,by rw[e]⟩) (λb o e=>kp b o (Nat.le_of_lt (Heap.lt_size e)) (Heap.get?_push_of_some _ e)) (dead _ (Nat.le_of_lt (hsz'▸Nat.lt_succ_self _))) (dead _ (Nat.le_refl _)) (show s₂.heap.objs.size≠(s₂.heap.push (z0p #[] 0)).objs.size from hsz'▸Nat.ne_of_lt (Nat.lt_succ_self _)) hns (kp _ _ (Nat.le_refl _) (Heap.get?_push_size _ rfl)) W st₀ off₁ hP₁ stay hsz (hL _ rfl) λs' D' σ' vs n ys mm dx RF off hn q=>hK s' D' σ' _ vs n ys _ mm (dx₁.trans dx) RF off hn q
end
end
section
section
variable {C:Cx} {env:Env} {vars:List Str} {gl gl':List (Str×V)} {own:Bool} {d:Nat} {m m':Loc} {σ σ':Sto}
variable {A:Around} {G D D₀ D₁:Gh} {s:Shared} {P:V->Sto->Prop}
theorem RelF.freeze{a:Addr}{o:Obj}{xs:List V}{u v:Sto}(R:RelF C env vars gl own G D m (u++(a,o,.list xs)::v) s):
  RelF C env vars gl own G (z15 D a o) m (u++v) s/\DX G D (z15 D a o)/\VR C.w (z15 D a o) (.ref a) (.lst xs):=by
 obtain⟨h1,h2,h3⟩:=R.lifted.freezeL rfl
 exact⟨R.back h1 h2,R.dx h2,h3⟩
theorem y0X{elt tgt iter:Expr}{ifs:List Expr}{scope:Scope}{pos:Pos}(locals caps:List Str)(gl':List (Str×V)){ms:Loc}
  (hok:z1v scope env.scope vars locals caps (gl'.map (·.1))=true) (hgl:∀p∈gl',z0f C p.1 p.2) (hcaps:Caps vars m caps ms)
  (h:AI C env vars gl own d iter tgt m σ λxs Pp σ₁=>xs.length<=sizeLine/\∀env',env'.scope=relabel scope env->
   z0S C env' (locals++caps) gl' d tgt elt ifs Pp (λys σ₂=>∀a o,P (.ref a) ((a,o,.list ys)::σ₂)) xs [] ((locals.map λ_=>none)++ms) σ₁)
  (hs:autoParam (∀x,foldedSetIterable iter env x=pure x) auF):
  AT C env vars gl own d (eval (.ListComp elt [⟨tgt,iter,ifs,0⟩] scope pos) env) m σ P:=λA G D s hA R=>by
 rw[eval_ListComp]
 refine z24 hA R hok hgl hcaps h hs λs' D' σ' a vs n ys L mm dx RO off hns q=> ?_
 refine⟨mm,hns,λh' hs'=>⟨.ref a,D',_,dx,.ref a,?_,q a (z0p vs n)⟩⟩
 have:=RO.keepBut (h':=h') s'.toks off λb o hb e=>hs'.extBut b o (by simpa using hb) e
 exact this
theorem z7j{elt tgt iter:Expr}{ifs:List Expr}{scope:Scope}{pos:Pos}(locals caps:List Str)(gl':List (Str×V)){ms:Loc}
  (hok:z1v scope env.scope vars locals caps (gl'.map (·.1))=true) (hgl:∀p∈gl',z0f C p.1 p.2) (hcaps:Caps vars m caps ms)
  (h:AI C env vars gl own d iter tgt m σ λxs Pp σ₁=>xs.length<=sizeLine/\∀env',env'.scope=relabel scope env->
   z0S C env' (locals++caps) gl' d tgt elt ifs Pp (λys σ₂=>P (.lst ys) σ₂) xs [] ((locals.map λ_=>none)++ms) σ₁)
  (hs:autoParam (∀x,foldedSetIterable iter env x=pure x) auF):
  AT C env vars gl own d (eval (.ListComp elt [⟨tgt,iter,ifs,0⟩] scope pos) env) m σ P:=λA G D s hA R=>by
 rw[eval_ListComp]
 refine z24 hA R hok hgl hcaps h hs λs' D' σ' a vs n ys L mm dx RO off hns q=> ?_
 refine⟨mm,hns,λh' hs'=> ?_⟩
 have R1:RelF C env vars gl own G D' m ((a,z0p vs n,.list ys)::σ') {s' with heap:=h'}:=by
  have:=RO.keepBut (h':=h') s'.toks off λb o hb e=>hs'.extBut b o (by simpa using hb) e
  exact this
 obtain⟨R2,dx2,hv⟩:=RelF.freeze (u:=[]) R1
 exact⟨.lst ys,_,σ',dx.trans dx2,hv,R2,q⟩
variable {Q:Fl->Loc->Sto->Prop}
theorem z5C{elt tgt iter:Expr}{ifs:List Expr}{scope:Scope}{pos p' p:Pos}{x:Str}{locals caps:List Str}{gl':List (Str×V)}{ms:Loc}{Z:List V->Sto->Prop}
  (hA:AOk C A d) (R:RelF C env vars gl own G D m σ s) (hown:own=true)
  (hsw:swapsWith (.ListComp elt [⟨tgt,iter,ifs,0⟩] scope pos) (some (.Name x p')) p.line env=pure true)
  (hok:z1v scope env.scope vars locals caps (gl'.map (·.1))=true) (hgl:∀p∈gl',z0f C p.1 p.2) (hcaps:Caps vars m caps ms)
  (h:AI C env vars gl own d iter tgt m σ λxs Pp σ₁=>xs.length<=sizeLine/\∀env',env'.scope=relabel scope env->z0S C env' (locals++caps) gl' d tgt elt ifs Pp Z xs [] ((locals.map λ_=>none)++ms) σ₁)
  (hs:∀x,foldedSetIterable iter env x=pure x)
  (k:∀s' D' σ' a vs n ys,DX G D D'->RelF C env vars gl own G D' m ((a,z0p vs n,.list ys)::σ') s'->Z ys σ'->∃X m' D₂ σ₂,DX G D' D₂/\VR C.w D₂ (.ref a) X/\RelF C env vars gl own G D₂ m σ₂ s'/\Sub D' D₂/\(∀L,Off env vars G D' ((a,z0p vs n,.list ys)::σ') [L]->Off env vars G D₂ σ₂ [L])/\Put vars m x X m'/\Q .next m' σ₂):
  wpAny C.M A (exec (.Assign [.Name x p'] (.ListComp elt [⟨tgt,iter,ifs,0⟩] scope pos) p) env) (PostS C env vars gl own G D Q) (λ_ _=>False) s:=by
 rw[exec_Assign_Name_used _ _ _ _ hsw]
 refine wpAny_bind (wpAny_standAt (wpAny_bind ?_))
 show wpAny _ A (do let _ <-comprehension (.ListComp elt [⟨tgt,iter,ifs,0⟩] scope pos) scope env _ (newList []) false (eval iter env) (some (assign (.Name x p') env))) _ _ s
 refine wpAny_bind (wpAny_mono (z24 (K:=λ_ s'=>PostS C env vars gl own G D Q .next s') hA R hok hgl hcaps h hs λs' D' σ' a vs n ys L mm dx RO off hns q=> ?_) (λ_ s' hq=>wpAny_pure (wpAny_pure hq)) λ_ _ e=>e)
 obtain⟨X,m',D₂,σ₂,dx₂,hv,R₂,_,off₂,hP,q₂⟩:=k s' D' σ' a vs n ys dx RO q
 have offL:=off₂ L off
 have RW:=R₂.withW offL
 show wpAny C.M A (assign (.Name x p') env (.ref a)) _ _ s'
 refine wpAny_bind (wpAny_standAt (wpAny_bindName (RW.store hP hv (.inl hown) λs'' R''=> ?_)))
 obtain⟨oL,es,ep,hoL,hr⟩:=hns
 obtain⟨o',hL'',qL,_⟩:=R''.g L oL ((z1T (.head _)).trans hoL)
 obtain⟨R₃,_,off₃⟩:=R''.lessW offL R.base (DX.refl _ _) (λa ha=>by simp at ha;subst ha;exact⟨_,hoL⟩)
 refine⟨mm,⟨o',es,ep,hL'',qL.trans hr.1,hr.2⟩,λh' hs'=>⟨.next,m',D₂,σ₂,dx.trans dx₂,trivial,?_,q₂⟩⟩
 have:=R₃.keepBut (h':=h') s''.toks off₃ λb o hb e=>hs'.extBut b o (by simpa using hb) e
 exact this
theorem Off.freeze{a L:Addr}{o:Obj}{xs:List V}(h:Off env vars G D ((a,o,.list xs)::σ) [L]):Off env vars G (z15 D a o) σ [L]:=λb hb=>by
 have q:=h b hb
 have hne:b≠a:=λe=>q.2.2.1 (by rw[e];exact .head _)
 exact⟨q.1,by rw[z1a o hne];exact q.2.1,λhf=>q.2.2.1 (.tail _ hf),q.2.2.2⟩
theorem z5e{elt tgt iter:Expr}{ifs:List Expr}{scope:Scope}{pos p' p:Pos}{x:Str}(locals caps:List Str)(gl':List (Str×V)){ms:Loc}
  (hsw:swapsWith (.ListComp elt [⟨tgt,iter,ifs,0⟩] scope pos) (some (.Name x p')) p.line env=pure true)
  (hok:z1v scope env.scope vars locals caps (gl'.map (·.1))=true) (hgl:∀p∈gl',z0f C p.1 p.2) (hcaps:Caps vars m caps ms)
  (h:AI C env vars gl own d iter tgt m σ λxs Pp σ₁=>xs.length<=sizeLine/\∀env',env'.scope=relabel scope env->
   z0S C env' (locals++caps) gl' d tgt elt ifs Pp (λys σ₂=>∃m',Put vars m x (.lst ys) m'/\Q .next m' σ₂) xs [] ((locals.map λ_=>none)++ms) σ₁)
  (hown:autoParam (own=true) auR) (hs:autoParam (∀x,foldedSetIterable iter env x=pure x) auF):
  AS C env vars gl own d (exec (.Assign [.Name x p'] (.ListComp elt [⟨tgt,iter,ifs,0⟩] scope pos) p) env) m σ Q:=λA G D s hA R=>
 z5C hA R hown hsw hok hgl hcaps h hs λs' D' σ' a vs n ys dx RO hpp=>by
  obtain⟨m',hP,q⟩:=hpp
  obtain⟨R2,dx2,hv⟩:=RelF.freeze (u:=[]) RO
  exact⟨.lst ys,m',_,σ',dx2,hv,R2,dx2.sub,λL off=>off.freeze,hP,q⟩
theorem z5c{elt tgt iter:Expr}{ifs:List Expr}{scope:Scope}{pos p' p:Pos}{x:Str}(locals caps:List Str)(gl':List (Str×V)){ms:Loc}
  (hsw:swapsWith (.ListComp elt [⟨tgt,iter,ifs,0⟩] scope pos) (some (.Name x p')) p.line env=pure true)
  (hok:z1v scope env.scope vars locals caps (gl'.map (·.1))=true) (hgl:∀p∈gl',z0f C p.1 p.2) (hcaps:Caps vars m caps ms)
  (h:AI C env vars gl own d iter tgt m σ λxs Pp σ₁=>xs.length<=sizeLine/\∀env',env'.scope=relabel scope env->
   z0S C env' (locals++caps) gl' d tgt elt ifs Pp (λys σ₂=>∀a o,∃m',Put vars m x (.ref a) m'/\Q .next m' ((a,o,.list ys)::σ₂)) xs [] ((locals.map λ_=>none)++ms) σ₁)
  (hown:autoParam (own=true) auR) (hs:autoParam (∀x,foldedSetIterable iter env x=pure x) auF):
  AS C env vars gl own d (exec (.Assign [.Name x p'] (.ListComp elt [⟨tgt,iter,ifs,0⟩] scope pos) p) env) m σ Q:=λA G D s hA R=>
 z5C hA R hown hsw hok hgl hcaps h hs λs' D' σ' a vs n ys dx RO q=>by
  obtain⟨m',hP,q⟩:=q a (z0p vs n)
  exact⟨.ref a,m',D',_,DX.refl _ _,.ref a,RO,Sub.refl _,λL off=>off,hP,q⟩
end
end
section
section
variable {C:Cx} {d:Nat} {σ:Sto} {Q:V->Sto->Prop}
theorem z5G{a b:Int}(q:Q (.int (a+b)) σ):AC2 C d (binaryOp .Add) (.int a) (.int b) σ Q:=λA G D s v u hA R hv hu=>by
 apply VR.intE hv;intro _;apply VR.intE hu;intro _;exact P.add_int (PostC.now (R.tok _) (.int _ _) q)
theorem y4f{a b:Int}(q:Q (.int (a-b)) σ):AC2 C d (binaryOp .Sub) (.int a) (.int b) σ Q:=λA G D s v u hA R hv hu=>by
 apply VR.intE hv;intro _;apply VR.intE hu;intro _;exact P.sub_int (PostC.now (R.tok _) (.int _ _) q)
theorem z3c{a b:Int}(q:Q (.int (a*b)) σ)(h:IntMulOk a b):AC2 C d (binaryOp .Mult) (.int a) (.int b) σ Q:=λA G D s v u hA R hv hu=>by
 apply VR.intE hv;intro _;apply VR.intE hu;intro _;exact P.mul_int (PostC.now (R.tok _) (.int _ _) q) h
theorem z5l{a b:Int}(q:Q (.int (a.fdiv b)) σ)(h:b≠0)(hs:b.natAbs<1073741824):AC2 C d (binaryOp .FloorDiv) (.int a) (.int b) σ Q:=λA G D s v u hA R hv hu=>by
 apply VR.intE hv;intro _;apply VR.intE hu;intro _;exact PyProof.Rows.floordiv_int h (PostC.now (R.tok _) (.int _ _) q) (.inl (PyProof.noPylong_small hs))
theorem z5g{a b:Int}(q:Q (.int (a.fmod b)) σ)(h:b≠0):AC2 C d (binaryOp .Mod) (.int a) (.int b) σ Q:=λA G D s v u hA R hv hu=>by
 apply VR.intE hv;intro _;apply VR.intE hu;intro _;exact PyProof.Rows.mod_int' h (PostC.now (R.tok _) (.int _ _) q)
theorem z5n{a:Int}(q:Q (.int (-a)) σ):AC1 C d (unaryOp .USub) (.int a) σ Q:=λA G D s v hA R hv=>by
 apply VR.intE hv;intro _;exact P.neg_int (PostC.now (R.tok _) (.int _ _) q)
theorem y4x{a b:Int}(q:Q (.bool (decide (a<b))) σ):AC2 C d (compareOp .Lt) (.int a) (.int b) σ Q:=λA G D s v u hA R hv hu=>by
 apply VR.intE hv;intro _;apply VR.intE hu;intro _;exact P.lt_int (PostC.now R (.bool _) q)
theorem y4e{a b:Int}(q:Q (.bool (decide (a<=b))) σ):AC2 C d (compareOp .LtE) (.int a) (.int b) σ Q:=λA G D s v u hA R hv hu=>by
 apply VR.intE hv;intro _;apply VR.intE hu;intro _;exact P.le_int (PostC.now R (.bool _) q)
theorem y3Z{a b:Int}(q:Q (.bool (decide (b<a))) σ):AC2 C d (compareOp .Gt) (.int a) (.int b) σ Q:=λA G D s v u hA R hv hu=>by
 apply VR.intE hv;intro _;apply VR.intE hu;intro _;exact P.gt_int (PostC.now R (.bool _) q)
theorem y4H{a b:Int}(q:Q (.bool (decide (b<=a))) σ):AC2 C d (compareOp .GtE) (.int a) (.int b) σ Q:=λA G D s v u hA R hv hu=>by
 apply VR.intE hv;intro _;apply VR.intE hu;intro _;exact P.ge_int (PostC.now R (.bool _) q)
theorem y4D{a b:Int}(q:Q (.bool (decide (a=b))) σ):AC2 C d (compareOp .Eq) (.int a) (.int b) σ Q:=λA G D s v u hA R hv hu=>by
 apply VR.intE hv;intro _;apply VR.intE hu;intro _
 refine P.eq_int (PostC.now R ?_ q)
 rw[show(a==b)=decide (a=b) from rfl];exact .bool _
theorem y33{a b:Int}(q:Q (.bool (!decide (a=b))) σ):AC2 C d (compareOp .NotEq) (.int a) (.int b) σ Q:=λA G D s v u hA R hv hu=>by
 apply VR.intE hv;intro _;apply VR.intE hu;intro _
 refine P.ne_int (PostC.now R ?_ q)
 rw[show(a !=b)= !decide (a=b) from rfl];exact .bool _
theorem z1Y{b:Bool}:TR C d (.bool b) σ b:=λA G D s v hA R hv K k=>by apply VR.boolE hv;exact wpAny_truthy_bool (k s.toks)
theorem z0j{b:Bool}{P:Bool->Sto->Prop}(p:P b σ):TRX C d (.bool b) σ P:=⟨b,z1Y,p⟩
noncomputable def V.isNone:V->Bool
 | .none=>true
 |_=>false
theorem VR.isN{w:World}{D:Gh}{v:Value}{x:V}(hv:VR w D v x):(v==Value.none)=x.isNone:=
 hv.casesOn (motive_1:=λv x _=>(v==Value.none)=x.isNone) rfl (λ_=>rfl) (λ_ _=>rfl) (λ_ _=>rfl) (λ_=>rfl) (λ_=>rfl) (λ_=>rfl) (λ_ _ _ _=>rfl) (λ_ _=>rfl) (λ_=>rfl) (λ_ _ _ _=>rfl) (λ_ _=>rfl)
theorem z9B{x:V}(q:Q (.bool x.isNone) σ):AC2 C d (compareOp .Is) x .none σ Q:=λA G D s v u hA R hv hu=>by
 apply VR.noneE hu
 exact is_none (PostC.now R (hv.isN▸ .bool _) q)
theorem z7B{x:V}(q:Q (.bool (!x.isNone)) σ):AC2 C d (compareOp .IsNot) x .none σ Q:=λA G D s v u hA R hv hu=>by
 apply VR.noneE hu
 exact isNot_none (PostC.now R (hv.isN▸ .bool _) q)
theorem z8f(a b:Bool):(Value.bool a==Value.bool b)=(a==b):=by cases b<;>cases a<;>rfl
theorem z72{x y:Str}(q:Q (.str (x++y)) σ)(h:x.length+y.length<=sizeLine):AC2 C d (binaryOp .Add) (.str x) (.str y) σ Q:=λA G D s v u hA R hv hu=>by
 apply VR.strE hv;intro _;apply VR.strE hu;intro _;exact PyProof.Rows.add_str (λt' tk=>PostC.now (R.tok tk) (.str _ _) q) h
theorem y2L{x y:Str}(q:Q (.bool (x==y)) σ):AC2 C d (compareOp .Eq) (.str x) (.str y) σ Q:=λA G D s v u hA R hv hu=>by
 apply VR.strE hv;intro _;apply VR.strE hu;intro _;exact PyProof.Rows.eq_str (PostC.now R (.bool _) q)
theorem y4A{x y:Str}(q:Q (.bool (!(Builtin.Str.occurrences x y 0 x.length 1).isEmpty)) σ):AC2 C d (compareOp .In) (.str y) (.str x) σ Q:=λA G D s v u hA R hv hu=>by
 apply VR.strE hv;intro _;apply VR.strE hu;intro _;exact P.in_str (PostC.now R (.bool _) q)
end
end
section
noncomputable def NLq(P:V->Sto->Prop)(Xs:List V)(σ:Sto):Prop:=P (.lst Xs) σ∨∀a o,P (.ref a) ((a,o,.list Xs)::σ)
section
variable {C:Cx} {d:Nat} {σ:Sto} {Q:V->Sto->Prop} {G D:Gh} {s:Shared} {A:Around}
theorem RelC.mkL(R:RelC C G D σ s){vs:List Value}{Xs:List V}(h:VRs C.w D vs Xs)(q:NLq Q Xs σ):PostC C G D Q (.ref s.heap.objs.size) {s with heap:=s.heap.push (z0p vs.toArray 0)}:=by
 rcases q with q|q
 ·obtain⟨R',dx⟩:=R.newF (z0p vs.toArray 0)
  exact⟨.lst Xs,_,σ,dx,.lst (z0T ..) (h.mono dx.sub),R',q⟩
 ·exact⟨.ref _,D,_,DX.refl _ _,.ref _,R.newM (z0p vs.toArray 0) (.list Xs) ⟨vs.toArray,0,rfl,by simpa using h⟩ rfl (λ_ _=>rfl),q _ _⟩
mutual
inductive Dp(σ:Sto):V->PyData->Prop
 |none:Dp σ .none .none
 |bool (b:Bool):Dp σ (.bool b) (.bool b)
 |int (i:Int):Dp σ (.int i) (.int i)
 |str (x:Str):Dp σ (.str x) (.str x)
 |tup {xs:List V} {ds:List PyData}:Dps σ xs ds->Dp σ (.tup xs) (.tuple ds)
 |lst {xs:List V} {ds:List PyData}:Dps σ xs ds->Dp σ (.lst xs) (.list ds)
 |ref {a:Addr} {o:Obj} {xs:List V} {ds:List PyData}:(a,o,AO.list xs)∈σ->Dps σ xs ds->Dp σ (.ref a) (.list ds)
inductive Dps(σ:Sto):List V->List PyData->Prop
 |nil:Dps σ [] []
 |cons {x:V} {e:PyData} {xs:List V} {ds:List PyData}:Dp σ x e->Dps σ xs ds->Dps σ (x::xs) (e::ds)
end
theorem Dp.reads(R:RelC C G D σ s){x:V}{e:PyData}(p:Dp σ x e):∀{v:Value},VR C.w D v x->∃as,Reads s.heap v e as:=
 λ{v}=>Dp.rec (motive_1:=λx e _=>∀v,VR C.w D v x->∃as,Reads s.heap v e as) (motive_2:=λx e _=>∀v,VRs C.w D v x->∃as,ReadsAll s.heap v e as)
  (λv h=>by rw[h.noneI];exact⟨_,.none⟩) (λb v h=>by rw[h.boolI];exact⟨_,.bool b⟩) (λi v h=>by apply VR.intE h;intro _;exact⟨_,.int i _⟩) (λx v h=>by apply VR.strE h;intro _;exact⟨_,.str x _⟩)
  (λr ih v h=>by
   obtain⟨a,o,vs,n,rfl,e,hc,hd,hv⟩:=h.tupI
   obtain⟨as,q⟩:=ih vs hv
   exact⟨_,.tuple (R.d _ _ e) hc hd (by simpa using q)⟩)
  (λr ih v h=>by
   obtain⟨a,vs,n,rfl,e,hv⟩:=h.lstI
   obtain⟨as,q⟩:=ih vs hv
   exact⟨_,.list (R.d _ _ e) rfl rfl (by simpa using q)⟩)
  (λhm r ih v h=>by
   rw[h.refI]
   obtain⟨vs,n,e,hv⟩:=R.sto _ hm
   obtain⟨as,q⟩:=ih _ hv
   have e':=R.pl _ hm
   exact⟨_,.list e' (by rw[show _=z0p vs n from e]) (by rw[show _=z0p vs n from e]) q⟩)
  (λv h=>by rw[h.nilI];exact⟨_,.nil⟩)
  (λa b ia ib v h=>by
   apply VRs.consE h;intro _ _ h1 h2
   obtain⟨as,q⟩:=ia _ h1
   obtain⟨bs,q'⟩:=ib _ h2
   exact⟨_,.cons q q'⟩) p v
theorem AOk.line{A:Around}{d:Nat}(h:AOk C A d):A.units+64<cLine:=Nat.lt_of_le_of_lt (Nat.add_le_add_right (Nat.le_of_lt (Nat.lt_of_le_of_lt (Nat.le_add_right _ _) h.units)) 64) (show 9000+64<9900 by decide)
theorem y0y{x y:V}{e f:PyData}(hx:Dp σ x e)(hy:Dp σ y f)(he:SeqAt.shaped e=true)(hf:SeqAt.shaped f=true)(q:Q (.bool (PyData.eqv e f)) σ):AC2 C d (compareOp .Eq) x y σ Q:=λA G D s v u hA R hv hu=>by
 obtain⟨_,r1⟩:=hx.reads R hv
 obtain⟨_,r2⟩:=hy.reads R hu
 exact SeqAt.compareEq_shaped r1 r2 he hf hA.line (PostC.now R (.bool _) q)
theorem z8q{x y:V}{e f:PyData}(hx:Dp σ x e)(hy:Dp σ y f)(he:SeqAt.shaped e=true)(hf:SeqAt.shaped f=true)(q:Q (.bool (!PyData.eqv e f)) σ):AC2 C d (compareOp .NotEq) x y σ Q:=λA G D s v u hA R hv hu=>by
 obtain⟨_,r1⟩:=hx.reads R hv
 obtain⟨_,r2⟩:=hy.reads R hu
 exact SeqAt.compareNe_shaped r1 r2 he hf hA.line (PostC.now R (.bool _) q)
theorem Has.isL{x:V}{xs:List V}{P:Sto->Prop}(h:Has σ x (.list xs) P)(R:RelC C G D σ s){v:Value}(hv:VR C.w D v x):
  ∃a vs,v= .ref a/\s.heap.IsList a vs/\VRs C.w D vs.toList xs:=by
 obtain⟨a,vs,n,rfl,ho,hr⟩:=h.isList R hv
 exact⟨a,vs,rfl,⟨_,ho,rfl,n,rfl⟩,hr⟩
theorem VR.isT{xs:List V}(R:RelC C G D σ s){v:Value}(hv:VR C.w D v (.tup xs)):∃a vs,v= .ref a/\PyProof.Rows.IsTup s.heap a vs/\s.heap.IsTuple a vs/\VRs C.w D vs.toList xs:=by
 cases hv with
 |tup e hc hd hr=>exact⟨_,_,rfl,⟨_,R.d _ _ e,hc,_,hd⟩,⟨_,R.d _ _ e,hc,_,hd⟩,by simpa using hr⟩
theorem Has.isLE{x:V}{xs:List V}{P:Sto->Prop}{Z:Value->Prop}(h:Has σ x (.list xs) P)(R:RelC C G D σ s){v:Value}(hv:VR C.w D v x)(k:∀a vs,s.heap.IsList a vs->VRs C.w D vs.toList xs->Z (.ref a)):Z v:=by
 obtain⟨a,vs,rfl,ho,hr⟩:=h.isL R hv
 exact k a vs ho hr
theorem VR.isTE{xs:List V}{Z:Value->Prop}(R:RelC C G D σ s){v:Value}(hv:VR C.w D v (.tup xs))(k:∀a vs,PyProof.Rows.IsTup s.heap a vs->s.heap.IsTuple a vs->VRs C.w D vs.toList xs->Z (.ref a)):Z v:=by
 obtain⟨a,vs,rfl,h1,h2,hr⟩:=VR.isT R hv
 exact k a vs h1 h2 hr
theorem z2Y{x:V}{xs:List V}{P:Sto->Prop}(h:Has σ x (.list xs) P)(hl:xs.length<=sizeLine)(q:Q (.int xs.length) σ):KW C d (.bi "len") [x] σ Q:=λA G D s v vs hA R hv hs=>by
 apply VR.biE hv
 apply VRs.consE hs;intro _ _ h1 h2
 ·skip
  apply VRs.nilE h2
  apply Has.isLE h R h1;intro a ws hL hr
  have e:ws.size=xs.length:=by rw[<-hr.length];simp
  refine Calls.call_len_list hL (by rw[e];have:xs.length<=16777216:=hl;lia) ?_
  rw[e];exact PostC.now (R.tok _) (.int _ _) q
theorem y3y{xs:List V}(hl:xs.length<=sizeLine)(q:Q (.int xs.length) σ):KW C d (.bi "len") [.tup xs] σ Q:=λA G D s v vs hA R hv hs=>by
 apply VR.biE hv
 apply VRs.consE hs;intro _ _ h1 h2
 ·skip
  apply VRs.nilE h2
  apply VR.isTE R h1;intro a ws hT _ hr
  have e:ws.size=xs.length:=by rw[<-hr.length];simp
  refine PyProof.Rows.len_tuple hT (by rw[e];have:xs.length<=16777216:=hl;lia) ?_
  rw[e];exact PostC.now (R.tok _) (.int _ _) q
theorem y0q{x:Str}(hl:x.length<=sizeLine)(q:Q (.int x.length) σ):KW C d (.bi "len") [.str x] σ Q:=λA G D s v vs hA R hv hs=>by
 apply VR.biE hv
 apply VRs.consE hs;intro _ _ h1 h2
 ·skip
  apply VRs.nilE h2;apply VR.strE h1;intro _
  exact PyProof.Rows.len_str (by have:x.length<=16777216:=hl;lia) (PostC.now (R.tok _) (.int _ _) q)
theorem z3V{x:V}{xs:List V}{P:Sto->Prop}{k:Int}{X:V}(h:Has σ x (.list xs) P)(h0:0<=k)(hf:k<2^63)(hx:xs[k.toNat]? =some X)(q:Q X σ):SubR C d x (.int k) σ Q:=λA G D s o v hA R ho hv=>by
 apply VR.intE hv;intro _
 apply Has.isLE h R ho;intro a ws hL hr
 obtain⟨u,hu,ru⟩:=hr.get hx
 exact⟨"list",_,hL.typeIs,slot_list_getitem.lookup,wpAny_getItem_list hL h0 hf (by rw[<-Array.getElem?_toList];exact hu) (PostC.now R ru q)⟩
theorem z8R{x:V}{xs:List V}{P:Sto->Prop}{k:Int}{X:V}(h:Has σ x (.list xs) P)(h0:k<0)(h1: -(xs.length:Int)<=k)(hf: -(2^63)<=k)(hx:xs[(k+xs.length).toNat]? =some X)(q:Q X σ):SubR C d x (.int k) σ Q:=λA G D s o v hA R ho hv=>by
 apply VR.intE hv;intro _
 apply Has.isLE h R ho;intro a ws hL hr
 obtain⟨u,hu,ru⟩:=hr.get hx
 have e:ws.size=xs.length:=by rw[<-hr.length];simp
 exact⟨"list",_,hL.typeIs,slot_list_getitem.lookup,wpAny_getItem_list_neg hL h0 (by rw[e];exact h1) hf (by rw[<-Array.getElem?_toList,e];exact hu) (PostC.now R ru q)⟩
theorem z2w{xs:List V}{k:Int}{X:V}(h0:0<=k)(hf:k<2^63)(hx:xs[k.toNat]? =some X)(q:Q X σ):SubR C d (.tup xs) (.int k) σ Q:=λA G D s o v hA R ho hv=>by
 apply VR.intE hv;intro _
 apply VR.isTE R ho;intro a ws hT _ hr
 obtain⟨u,hu,ru⟩:=hr.get hx
 have e:ws.size=xs.length:=by rw[<-hr.length];simp
 have hk:k.toNat<xs.length:=(List.getElem?_eq_some_iff.mp hx).1
 have hj:seqIndex? k ws.size=some k.toNat:=by
  unfold seqIndex?
  rw[e]
  have h1:(k:Int)<(xs.length:Int):=by lia
  simp[show¬k<0 by lia,h0,h1]
 exact⟨"tuple",_,hT.typeIs,PyProof.Rows.slot_tuple_getitem.lookup,PyProof.Rows.getItem_tuple hT (by lia) hf hj (by rw[<-Array.getElem?_toList];exact hu) (PostC.now R ru q)⟩
theorem y3V{x:Str}{k:Int}{c:Nat}(h0:0<=k)(hf:k<2^63)(hx:x.cps[k.toNat]? =some c)(q:Q (.str ⟨#[c]⟩) σ):SubR C d (.str x) (.int k) σ Q:=λA G D s o v hA R ho hv=>by
 apply VR.intE hv;intro _;cases ho
 have hk:k.toNat<x.cps.size:=by
  rcases Nat.lt_or_ge k.toNat x.cps.size with h|h
  ·exact h
  ·rw[Array.getElem?_eq_none h] at hx;cases hx
 have hj:seqIndex? k x.length=some k.toNat:=by
  unfold seqIndex? Str.length
  have h1:(k:Int)<(x.cps.size:Int):=by lia
  simp[show¬k<0 by lia,h0,h1]
 refine⟨"str",_,typeIs_str _ _ _,F.slot_str_getitem.lookup,PyProof.Rows.getItem_str (c:=c) (by simp;lia) (by rw[hj];exact hx) (PostC.now (R.tok _) (.str _ _) q)⟩
end
end
section
section
variable {C:Cx} {d:Nat} {σ:Sto} {Q:V->Sto->Prop} {G D:Gh} {s:Shared} {A:Around}
theorem z7N{x:V}{t:String}(h:∀A G D s v,RelC C G D σ s->VR C.w D v x->wpAny C.M A (call (.builtin "isinstance") [v,.type t]) (PostC C G D Q) (λ_ _=>False) s):KW C d (.bi "isinstance") [x,.type t] σ Q:=λA G D s v vs hA R hv hs=>by
 apply VR.biE hv;apply VRs.consE hs;intro _ _ h1 h2;apply VRs.consE h2;intro _ _ h3 h4;apply VRs.nilE h4;apply VR.typeE h3;exact h A G D s _ R h1
inductive PartV:V->Option Int->Prop
 |none:PartV .none none
 |int (i:Int):PartV (.int i) (some i)
theorem PartV.is{w:World}{x:V}{o:Option Int}(h:PartV x o){v:Value}(hv:VR w D v x):IsPart v o:=by
 cases h with
 |none=>rw[VR.noneI hv];exact .none
 |int i=>apply VR.intE hv;intro _;exact .int _ _
noncomputable def slL(xs:List V)(lo hi st:Option Int):List V:=
 (sliceRange (sliceBounds lo hi st xs.length).1 (sliceBounds lo hi st xs.length).2.1 (sliceBounds lo hi st xs.length).2.2).filterMap (xs[·]?)
theorem VRs.pick{w:World}{vs:List Value}{xs:List V}(h:VRs w D vs xs)(is:List Nat):VRs w D (is.filterMap (vs[·]?)) (is.filterMap (xs[·]?)):=by
 induction is with
 |nil=>exact .nil
 |cons i r ih=>
  cases e:xs[i]? with
  |some X=>
   obtain⟨u,hu,ru⟩:=h.get e
   rw[List.filterMap_cons_some hu,List.filterMap_cons_some e]
   exact .cons ru ih
  |none=>
   have e':vs[i]? =none:=by
    rw[List.getElem?_eq_none_iff] at e⊢;rw[h.length];exact e
   rw[List.filterMap_cons_none e',List.filterMap_cons_none e]
   exact ih
theorem z3N{x L U S:V}{xs:List V}{P:Sto->Prop}{lo hi st:Option Int}(h:Has σ x (.list xs) P)(hL:PartV L lo)(hU:PartV U hi)(hS:PartV S st)(h0:st≠some 0)(hl:xs.length<=sizeLine)
  (q:NLq Q (slL xs lo hi st) σ):SubR C d x (.slc L U S) σ Q:=λA G D s o v hA R ho hv=>by
 obtain⟨_,_,_,_,rfl,e,h1,h2,h3⟩:=VR.slcI hv
 ·skip
  apply Has.isLE h R ho;intro a ws hIs hr
  have es:ws.size=xs.length:=by rw[<-hr.length];simp
  refine⟨"list",_,hIs.typeIs,slot_list_getitem.lookup,wpAny_getItem_list_slice hIs ⟨_,R.d _ _ e,rfl,rfl⟩ (hL.is h1) (hU.is h2) (hS.is h3) h0 ?_ (by rw[es];exact hl)⟩
  have ep:slicePick ws lo hi st=((sliceRange (sliceBounds lo hi st xs.length).1 (sliceBounds lo hi st xs.length).2.1 (sliceBounds lo hi st xs.length).2.2).filterMap (ws.toList[·]?)).toArray:=by
   unfold slicePick;rw[es];congr 1
   simp
  rw[ep]
  exact R.mkL (hr.pick _) q
theorem z28{x y:V}{xs ys:List V}{P P':Sto->Prop}(h:Has σ x (.list xs) P)(h':Has σ y (.list ys) P')(hl:xs.length+ys.length<=sizeLine)(q:NLq Q (xs++ys) σ):AC2 C d (binaryOp .Add) x y σ Q:=λA G D s v u hA R hv hu=>by
 apply Has.isListE h R hv;intro a ws n ho hr
 apply Has.isListE h' R hu;intro b zs n' ho' hr'
 have e1:ws.size=xs.length:=by rw[<-hr.length];simp
 have e2:zs.size=ys.length:=by rw[<-hr'.length];simp
 refine concat_meets ⟨_,ho,rfl⟩ ⟨_,ho',rfl⟩ noFill_list_add seq_list_add F.slot_list_add F.entry_list_add (F.args_list_add_2 _ _) (PyProof.Rows.list_addW a b ws zs n n' none none #[] #[] (by lia)) ⟨ho,ho',?_⟩
 have e:ws++zs=(ws.toList++zs.toList).toArray:=by simp
 rw[e]
 exact R.mkL (hr.append hr') q
theorem all_range:∀bs:List Bool,(List.range bs.length).all (λi=>bs.getD i false)=bs.all id
 |[]=>rfl
 |b::r=>by
  rw[List.length_cons,List.range_succ_eq_map,List.all_cons,List.all_map]
  exact congrArg (b&&·) (all_range r)
theorem z9H [HM C]{x:V}{bs:List Bool}{P:Sto->Prop}(h:Has σ x (.list (bs.map V.bool)) P)(q:Q (.bool (bs.all id)) σ):KW C d (.bi "all") [x] σ Q:=λA G D s v vs hA R hv hs=>by
 apply VR.biE hv
 apply VRs.consE hs;intro _ _ h1 h2
 apply VRs.nilE h2
 apply Has.isLE h R h1;intro a ws hL hr
 have hne:a≠s.heap.objs.size:=Nat.ne_of_lt (let⟨_,e,_⟩:=hL;Heap.lt_size e)
 refine call_all_walk (wpAny_pyIter_list hL ⟨s.heap.objs.size,_,_,ws.size,_,_,λi=>bs.getD i false,rfl,Walks.list (A:=A.in1) hA.hh s.heap.objs.size a hne ws,⟨⟨_,Heap.get?_push_size _ rfl,rfl,rfl⟩,hL.push _⟩,?_,λh' tk hk=> ?_⟩)
 ·intro i u s' K E' hu hK
  obtain⟨X,hX,rX⟩:=hr.get' (show ws.toList[i]? =some u by rw[Array.getElem?_toList];exact hu)
  rw[List.getElem?_map] at hX
  revert rX
  apply z0Z hX;intro b hb rX
  apply VR.boolE rX
  refine wpAny_truthy_bool ?_
  have hK:K (bs.getD i false) s':=hK
  rw[List.getD_eq_getElem?_getD,hb] at hK
  exact hK
 ·rw[show ws.size=bs.length from(Array.length_toList.symm.trans hr.length).trans (List.length_map ..),all_range]
  exact PostC.now ((R.push _).keepBut (h':=h') tk [s.heap.objs.size] (λc hc=>by rw[List.mem_singleton.mp hc];exact⟨R.new_G,R.new_D,R.new_notFoot⟩) hk) (.bool _) q
theorem z90 [HM C]{a b:Int}(q:Q (.int (max a b)) σ):KW C d (.bi "max") [.int a,.int b] σ Q:=λA G D s v vs hA R hv hs=>by
 apply VR.biE hv;cases hs with
 |cons h1 h2=>
  apply VRs.consE h2;intro _ _ h3 h4
  ·skip
   apply VRs.nilE h4;apply VR.intE h3;intro _;apply VR.intE h1;intro _
   refine max_two_ints hA.hh λh' tk hk=> ?_
   have R':=R.keep (h':=h') tk hk
   by_cases hc:b>a
   ·rw[if_pos hc];rw[show max a b=b by lia] at q;exact PostC.now R' (.int _ _) q
   ·rw[if_neg hc];rw[show max a b=a by lia] at q;exact PostC.now R' (.int _ _) q
theorem y03 [HM C]{a b:Int}(q:Q (.int (min a b)) σ):KW C d (.bi "min") [.int a,.int b] σ Q:=λA G D s v vs hA R hv hs=>by
 apply VR.biE hv;cases hs with
 |cons h1 h2=>
  apply VRs.consE h2;intro _ _ h3 h4
  ·skip
   apply VRs.nilE h4;apply VR.intE h3;intro _;apply VR.intE h1;intro _
   refine min_two_ints hA.hh λh' tk hk=> ?_
   have R':=R.keep (h':=h') tk hk
   by_cases hc:b<a
   ·rw[if_pos hc];rw[show min a b=b by lia] at q;exact PostC.now R' (.int _ _) q
   ·rw[if_neg hc];rw[show min a b=a by lia] at q;exact PostC.now R' (.int _ _) q
theorem z2z{n:Int}(q:Q (.rng 0 n 1) σ):KW C d (.type "range") [.int n] σ Q:=λA G D s v vs hA R hv hs=>by
 apply VR.typeE hv;cases hs with
 |cons h1 h2=>
  apply VRs.nilE h2;apply VR.intE h1;intro _
  refine call_range_1 ?_
  obtain⟨R',dx⟩:=(R.tok (s.toks+1+1)).newF {cls:= .type "range",data:= .fields #[.int 0 s.toks,.int n _,.int 1 (s.toks+1)]}
  exact⟨_,_,σ,dx,.rng (z0T ..),R',q⟩
end
end
section
section
variable {C:Cx} {env:Env} {vars:List Str} {gl:List (Str×V)} {own:Bool} {d:Nat} {m m':Loc} {σ σ':Sto}
variable {A:Around} {G D D₀ D₁:Gh} {s:Shared} {P:V->Sto->Prop}
noncomputable def APart(C:Cx)(env:Env)(vars:List Str)(gl:List (Str×V))(own:Bool)(d:Nat):Option Expr->Loc->Sto->(V->Sto->Prop)->Prop
 |none,m,σ,K=>K .none σ
 |some e,m,σ,K=>AT C env vars gl own d (eval e env) m σ K
theorem APart.run{e:Option Expr}{K:V->Sto->Prop}(h:APart C env vars gl own d e m σ K)(hA:AOk C A d)(R:RelF C env vars gl own G D m σ s){Z:Value->Shared->Prop}
  (k:∀v s' x D' σ',DX G D D'->VR C.w D' v x->RelF C env vars gl own G D' m σ' s'->K x σ'->Z v s'):wpAny C.M A (evalPart e env) Z (λ_ _=>False) s:=by
 cases e with
 |none=>rw[evalPart_none];exact wpAny_pure (k _ _ _ _ _ (DX.refl _ _) .none R h)
 |some e=>rw[evalPart_some];exact AT.run h hA R k
theorem z3s{l u st:Option Expr}{p:Pos}(h:APart C env vars gl own d l m σ λL σ₁=>APart C env vars gl own d u m σ₁ λU σ₂=>APart C env vars gl own d st m σ₂ λS σ₃=>P (.slc L U S) σ₃):
  AT C env vars gl own d (eval (.Slice l u st p) env) m σ P:=λA G D s hA R=>
 wpAny_Slice (h.run hA R λv₁ s₁ L D₁ σ₁ a₁ b₁ c₁ e₁=>e₁.run hA c₁ λv₂ s₂ U D₂ σ₂ a₂ b₂ c₂ e₂=>e₂.run hA c₂ λv₃ s₃ S D₃ σ₃ a₃ b₃ c₃ e₃=>by
  obtain⟨R',dx⟩:=c₃.newF {cls:= .type "slice",data:= .fields #[v₁,v₂,v₃]}
  exact⟨.slc L U S,_,σ₃,((a₁.trans a₂).trans a₃).trans dx,.slc (z0T ..) (b₁.mono ((a₂.trans a₃).trans dx).sub) (b₂.mono (a₃.trans dx).sub) (b₃.mono dx.sub),R',e₃⟩)
structure MethIs(T:String)(name:Str)(id:String):Prop where
 pa:PlainAttrs T
 slot:Slot T name id
 ty:typeOf (.builtin id)=pure (.type "method_descriptor")
noncomputable def TyR(C:Cx)(x:V)(σ:Sto)(T:String):Prop:=
 ∀G D s v,RelC C G D σ s->VR C.w D v x->s.TypeIs v T/\∀a,v= .ref a->∃ob,s.heap.get? a=some ob/\ob.dict=none
theorem y1B{x:Str}:TyR C (.str x) σ "str":=λG D s v R hv=>by apply VR.strE hv;intro _;exact⟨typeIs_str _ _ _,λa e=>by cases e⟩
theorem z9z{x:V}{xs:List V}{P:Sto->Prop}(h:Has σ x (.list xs) P):TyR C x σ "list":=λG D s v R hv=>by
 apply Has.isListE h R hv;intro a vs n ho hr
 exact⟨⟨_,ho,rfl⟩,λb e=>by cases e;exact⟨_,ho,rfl⟩⟩
theorem z9R{x:V}{es:List (V×V)}{P:Sto->Prop}(h:Has σ x (.dict es) P):TyR C x σ "dict":=λG D s v R hv=>by
 obtain⟨a,o,rfl,ho,⟨es,n,rfl,hr⟩,_⟩:=h.run R hv
 exact⟨⟨_,ho,rfl⟩,λb e=>by cases e;exact⟨_,ho,rfl⟩⟩
theorem y0i{T id:String}{o:Expr}{name:Str}{ap p:Pos}(hM:MethIs T name id)(h:AT C env vars gl own d (eval o env) m σ λX σ₁=>TyR C X σ₁ T/\KW C d (.bi id) [X] σ₁ P)
  (hbase:autoParam (attributeBase o name env (eval o env)=eval o env) auR) (hline:autoParam ((ap.endLine==p.line)=true) auR):
  AT C env vars gl own d (eval (.Call (.Attribute o name ap) [] [] p) env) m σ P:=λA G D s hA R=>
 wpAny_Call_method_lateS hbase rfl hline (h.run hA R λv s₁ X D₁ σ₁ a b c hpp=>by obtain⟨hT,hk⟩:=hpp;exact⟨T,id,hM.pa,hM.slot,hM.ty,(hT _ _ _ _ c.toRelC b).1,(hT _ _ _ _ c.toRelC b).2,
  Calls.callWith_builtin rfl (evalArgs_none (z0V a (hk.inF hA c (.bi id) (.cons b .nil))))⟩)
theorem y1N{T id:String}{o e:Expr}{rest:List Expr}{name:Str}{ap p:Pos}(hM:MethIs T name id)
  (h:AT C env vars gl own d (eval o env) m σ λX σ₁=>TyR C X σ₁ T/\AL C env vars gl own d (spliced (backTo p (starEach (e::rest) env))) m σ₁ λXs σ₂=>KW C d (.bi id) (X::Xs) σ₂ P)
  (hbase:autoParam (attributeBase o name env (eval o env)=eval o env) auR) (hline:autoParam ((ap.endLine==p.line)=true) auR)
  (he:autoParam (starEach (e::rest) env=(false,eval e env)::starEach rest env) auR) (hplain:autoParam ((backTo p (starEach rest env)).any (·.1)=false) auR)
  (hfew:autoParam (((backTo p (starEach (e::rest) env)).all (λx=> !x.1)&&(backToKw p (keywordEach [] env)).all (λx=>x.1.isSome)&&decide ((e::rest).length+([]:List Keyword).length+(if([]:List Keyword).isEmpty then 0 else 1)<30))=true) auR):
  AT C env vars gl own d (eval (.Call (.Attribute o name ap) (e::rest) [] p) env) m σ P:=λA G D s hA R=>
 wpAny_Call_method_lateS hbase hfew hline (h.run hA R λv s₁ X D₁ σ₁ a b c hpp=>by obtain⟨hT,hk⟩:=hpp;exact⟨T,id,hM.pa,hM.slot,hM.ty,(hT _ _ _ _ c.toRelC b).1,(hT _ _ _ _ c.toRelC b).2,by
  rw[he] at hk⊢
  exact Calls.callWith_builtin hplain (Calls.evalArgs_plain (AL.run hk hA c λvs s₂ Xs D₂ σ₂ a' b' c' q=>z0V (a.trans a') (q.inF hA c' (.bi id) (.cons (b.mono a'.sub) b'))))⟩)
theorem M_join:MethIs "str" "join" "str.join":=⟨F.plainAttrs_str,F.slot_str_join,F.type_str_join⟩
theorem y2k{l r r2:Expr}{op op2:CmpOp}{p:Pos}(h:AT C env vars gl own d (eval l env) m σ λX σ₁=>AT C env vars gl own d (eval r env) m σ₁ λY σ₂=>AC2 C d (compareOp op) X Y σ₂ λZ σ₃=>
   ∃b,TR C d Z σ₃ b/\(b=false->P Z σ₃)/\(b=true->AT C env vars gl own d (eval r2 env) m σ₃ λW σ₄=>AC2 C d (compareOp op2) Y W σ₄ P))
  (hm2:autoParam (behindInMarks op2 r2=false) auR):
  AT C env vars gl own d (eval (.Compare l [op,op2] [r,r2] p) env) m σ P:=λA G D s hA R=>by
 rw[arm_eval_Compare]
 have e0:markedEach [op,op2] [r,r2] (evalEach [r,r2] env)=[eval r env,markedBehindIn op2 r2 (eval r2 env)]:=rfl
 rw[e0,markedBehindIn_of_false hm2]
 refine wpAny_bind (h.run hA R λv s₁ X D₁ σ₁ a b c e=> ?_)
 show wpAny C.M A (do
  let rv <-holding [v] (eval r env)
  standAt p
  let c <-holding [v,rv] (compareOp op v rv)
  release [v,rv] [c]
  if<-holding [c,rv] (truthy c) then compareChain p rv [op2] [eval r2 env] else pure c) _ _ s₁
 refine wpAny_bind (wpAny_holding (e.run hA c λu s₂ Y D₂ σ₂ a' b' c' e'=>wpAny_bind (wpAny_standAt (wpAny_bind (wpAny_holding ?_)))))
 refine wpAny_mono (e'.inF hA c' (b.mono a'.sub) b') (λz s₃ hpp=> ?_) λ_ _ x=>x
 obtain⟨Z,D₃,σ₃,a₃,b₃,c₃,t,ht,h1,h2⟩:=hpp
 refine wpAny_bind (PyProof.Rows.wpAny_release' (wpAny_bind (wpAny_holding (ht.inF hA c₃ b₃ λtk=> ?_))))
 have dx3:=(a.trans a').trans a₃
 cases t with
 |false=>exact wpAny_pure ⟨Z,D₃,σ₃,dx3,b₃,c₃.tok tk,h1 rfl⟩
 |true=>
  show wpAny C.M A (do
   let rv <-holding [u] (eval r2 env)
   standAt p
   operate [u,rv] (compareOp op2 u rv)) _ _ _
  refine wpAny_bind (wpAny_holding ((h2 rfl).run hA (c₃.tok tk) λu2 s₄ W D₄ σ₄ a₄ b₄ c₄ e₄=>wpAny_bind (wpAny_standAt (wpAny_operating ?_))))
  exact z0V (dx3.trans a₄) (e₄.inF hA c₄ (b'.mono (a₃.trans a₄).sub) b₄)
variable {K:Bool->Sto->Prop}
theorem z8F{l r r2:Expr}{op op2:CmpOp}{p:Pos}{whole:Sem Value}(h:AT C env vars gl own d (eval l env) m σ λX σ₁=>AT C env vars gl own d (eval r env) m σ₁ λY σ₂=>AC2 C d (compareOp op) X Y σ₂ λZ σ₃=>
   ∃b,TR C d Z σ₃ b/\(b=false->K false σ₃)/\(b=true->AT C env vars gl own d (eval r2 env) m σ₃ λW σ₄=>AC2 C d (compareOp op2) Y W σ₄ λZ2 σ₅=>TRX C d Z2 σ₅ K))
  (hm2:autoParam (behindInMarks op2 r2=false) auR):
  AB C env vars gl own d (isTrue (.Compare l [op,op2] [r,r2] p) env whole) m σ K:=λA G D s hA R=>by
 rw[arm_isTrue_Compare]
 have e0:markedEach [op,op2] [r,r2] (evalEach [r,r2] env)=[eval r env,markedBehindIn op2 r2 (eval r2 env)]:=rfl
 rw[e0,markedBehindIn_of_false hm2]
 refine wpAny_bind (h.run hA R λv s₁ X D₁ σ₁ a b c e=> ?_)
 show wpAny C.M A (do
  let rv <-holding [v] (eval r env)
  standAt p
  let c <-holding [v,rv] (compareOp op v rv)
  release [v,rv] [c]
  if<-holding [c,rv] (truthy c) then testChain p rv [op2] [eval r2 env] else pure false) _ _ s₁
 refine wpAny_bind (wpAny_holding (e.run hA c λu s₂ Y D₂ σ₂ a' b' c' e'=>wpAny_bind (wpAny_standAt (wpAny_bind (wpAny_holding ?_)))))
 refine wpAny_mono (e'.inF hA c' (b.mono a'.sub) b') (λz s₃ hpp=> ?_) λ_ _ x=>x
 obtain⟨Z,D₃,σ₃,a₃,b₃,c₃,t,ht,h1,h2⟩:=hpp
 refine wpAny_bind (PyProof.Rows.wpAny_release' (wpAny_bind (wpAny_holding (ht.inF hA c₃ b₃ λtk=> ?_))))
 have dx3:=(a.trans a').trans a₃
 cases t with
 |false=>exact wpAny_pure ⟨D₃,σ₃,dx3,c₃.tok tk,h1 rfl⟩
 |true=>
  show wpAny C.M A (do
   let rv <-holding [u] (eval r2 env)
   standAt p
   let c <-operate [u,rv] (compareOp op2 u rv)
   holding [c] (truthy c)) _ _ _
  refine wpAny_bind (wpAny_holding ((h2 rfl).run hA (c₃.tok tk) λu2 s₄ W D₄ σ₄ a₄ b₄ c₄ e₄=>wpAny_bind (wpAny_standAt (wpAny_bind (wpAny_operating ?_)))))
  refine wpAny_mono (e₄.inF hA c₄ (b'.mono (a₃.trans a₄).sub) b₄) (λz s₅ hpp=> ?_) λ_ _ x=>x
  obtain⟨Z2,D₅,σ₅,a₅,b₅,c₅,t2,ht2,hk⟩:=hpp
  refine wpAny_holding (ht2.inF hA c₅ b₅ λtk2=> ?_)
  exact⟨D₅,σ₅,(dx3.trans a₄).trans a₅,c₅.tok tk2,hk⟩
noncomputable def z1l(x:Str):List V:=x.cps.toList.map λc=>V.str ⟨#[c]⟩
variable {Q:List V->(Sto->Prop)->Sto->Prop}
theorem y3F [HM C]{iter tgt:Expr}(h:AT C env vars gl own d (eval iter env) m σ λX σ₁=>∃x,X= .str x/\Q (z1l x) (λ_=>True) σ₁):AI C env vars gl own d iter tgt m σ Q:=λA G D s hA R=>
 h.run hA R λv s₁ X D₁ σ₁ dx b c hpp=>by
  obtain⟨x,hX,q⟩:=hpp
  subst hX
  cases b with
  |str x t=>
   have rel:∀(i:Nat) v X,SignAt x i v->(z1l x)[i]? =some X->VR C.w D₁ v X:=by
    rintro i v X ⟨ch,u,hc,rfl⟩ hX
    have hc':x.cps.toList[i]? =some ch:=by simpa using hc
    simp only[z1l,List.getElem?_map,hc',Option.map_some,Option.some.injEq] at hX
    subst hX;exact .str _ _
   have len:x.cps.size=(z1l x).length:=by simp[z1l]
   have stay:∀h:Heap,y0Y C D₁ (λ_=>True) h [s₁.heap.objs.size] [s₁.heap.objs.size]:=λh G' D' σ' s' R' hs hP' b hb hbw o' e'=>absurd hb hbw
   cases ha:x.cps.all (·<128)
   ·refine wpAny_pyIter_wide ha ⟨D₁,σ₁,_,λ_=>True,dx,⟨s₁.heap.objs.size,_,_,_,rfl,IW.ofWalks (Walks.strWide hA.hh s₁.heap.objs.size x t) len rel ?_ ?_ ?_,⟨_,Heap.get?_push_size _ rfl,rfl,rfl⟩,c.push _,c.offNew (z0p #[] 0),trivial,stay _⟩,q⟩
    ·rintro i h ⟨o,ho,hc,_⟩ a ha;simp at ha;subst ha;exact⟨_,ho,nfC (by rw[hc];exact frN (by decide))⟩
    ·rintro b hb hbw h _ e;exact hbw hb
    ·rintro i h ⟨o,ho,hc,_⟩;exact⟨_,_,ho,hc,by decide⟩
   ·refine wpAny_pyIter_ascii ha ⟨D₁,σ₁,_,λ_=>True,dx,⟨s₁.heap.objs.size,_,_,_,rfl,IW.ofWalks (Walks.strAscii hA.hh s₁.heap.objs.size x t) len rel ?_ ?_ ?_,⟨_,Heap.get?_push_size _ rfl,rfl,rfl⟩,c.push _,c.offNew (z0p #[] 0),trivial,stay _⟩,q⟩
    ·rintro i h ⟨o,ho,hc,_⟩ a ha;simp at ha;subst ha;exact⟨_,ho,nfC (by rw[hc];exact frN (by decide))⟩
    ·rintro b hb hbw h _ e;exact hbw hb
    ·rintro i h ⟨o,ho,hc,_⟩;exact⟨_,_,ho,hc,by decide⟩
end
end
section
class LkC (ns:List Str) (m:Loc) (x:Str) (X:outParam V):Prop where
 lk:Lk ns m x X
instance LkC.head {x:Str} {ns:List Str} {X:V} {m:Loc}:LkC (x::ns) (some X::m) x X:=⟨.head⟩
instance (priority:=low) LkC.tail {x y:Str} {ns:List Str} {X:V} {o:Option V} {m:Loc} [h:LkC ns m x X]:LkC (y::ns) (o::m) x X:=⟨.tail h.lk⟩
class PutC (ns:List Str) (m:Loc) (x:Str) (X:V) (m':outParam Loc):Prop where
 put:Put ns m x X m'
instance PutC.head {x:Str} {ns:List Str} {X:V} {o:Option V} {m:Loc}:PutC (x::ns) (o::m) x X (some X::m):=⟨.head⟩
instance (priority:=low) PutC.tail {x y:Str} {ns:List Str} {X:V} {o:Option V} {m m':Loc} [h:PutC ns m x X m']:PutC (y::ns) (o::m) x X (o::m'):=⟨.tail h.put⟩
class GInC (gl:List (Str×V)) (x:Str) (X:outParam V):Prop where
 mem:(x,X)∈gl
instance GInC.head {x:Str} {X:V} {r:List (Str×V)}:GInC ((x,X)::r) x X:=⟨List.mem_cons_self⟩
instance (priority:=low) GInC.tail {x:Str} {X:V} {p:Str×V} {r:List (Str×V)} [h:GInC r x X]:GInC (p::r) x X:=⟨List.mem_cons_of_mem _ h.mem⟩
section
variable {C:Cx} {env:Env} {vars:List Str} {gl:List (Str×V)} {own:Bool} {d:Nat} {m m':Loc} {σ σ':Sto}
variable {A:Around} {G D D₀ D₁:Gh} {s:Shared} {Q:V->Sto->Prop}
theorem PartV.is2{w:World}{x:V}{o:Option Int}(h:PartV x o){v:Value}(hv:VR w D v x):∃l:Option (Int×Tok),v=partValue l/\l.map (·.1)=o:=by
 cases h with
 |none=>rw[VR.noneI hv];exact⟨Option.none,rfl,rfl⟩
 |int i=>apply VR.intE hv;intro _;exact⟨Option.some (_,_),rfl,rfl⟩
theorem z4q{x:Str}{L U:V}{lo hi:Option Int}(hL:PartV L lo)(hU:PartV U hi)(hl:x.length<=sizeLine)(q:Q (.str (Txt.slice x lo hi)) σ):SubR C d (.str x) (.slc L U .none) σ Q:=λA G D s o v hA R ho hv=>by
 obtain⟨_,rfl⟩:=VR.strI ho
 obtain⟨_,_,_,_,rfl,e,h1,h2,h3⟩:=VR.slcI hv
 ·skip
  obtain rfl:=VR.noneI h3
  obtain⟨l,rfl,rfl⟩:=hL.is2 h1
  obtain⟨u,rfl,rfl⟩:=hU.is2 h2
  refine⟨"str",_,typeIs_str _ _ _,F.slot_str_getitem.lookup,wpAny_getItem_str_slice (l:=l) (u:=u) (st:=none) ⟨_,R.d _ _ e,rfl,rfl⟩ rfl (post_val_or_str ⟨?_,λt' k=> ?_⟩)⟩
  ·exact Nat.le_trans (Txt.slice_le x _ _) hl
  ·exact PostC.now (R.tok k) (.str _ _) q
theorem y3W{w:World}{vs:List Value}{xs:List Str}(h:VRs w D vs (xs.map V.str)):∃l:List (Str×Tok),vs=strValues l/\l.map (·.1)=xs:=by
 induction xs generalizing vs with
 |nil=>rw[VRs.nilI h];exact⟨[],rfl,rfl⟩
 |cons x xs ih=>
  apply VRs.consE h;intro _ _ h1 h2
  apply VR.strE h1;intro t
  obtain⟨l,rfl,e⟩:=ih h2
  exact⟨(x,t)::l,rfl,by rw[List.map_cons,e]⟩
theorem y3h{x:V}{sep:Str}{xs:List Str}{P:Sto->Prop}(h:Has σ x (.list (xs.map V.str)) P)(hok:JoinOk sep xs=true)(q:Q (.str (Txt.join sep xs)) σ):KW C d (.bi "str.join") [.str sep,x] σ Q:=λA G D s v vs hA R hv hs=>by
 apply VR.biE hv
 apply VRs.consE hs;intro _ _ h1 h2
 ·skip
  apply VRs.consE h2;intro _ _ h3 h4
  ·skip
   apply VRs.nilE h4;apply VR.strE h1;intro _
   apply Has.isLE h R h3;intro a ws hL hr
   obtain⟨l,e,e2⟩:=y3W hr
   have:ws=(strValues l).toArray:=by rw[<-e]
   rw[this] at hL
   exact SC.join hL e2 hok λt' k=>PostC.now (R.tok k) (.str _ _) q
theorem z0k{x:Str}{p:Pos}{X:V}[h:LkC vars m x X](q:Q X σ):AT C env vars gl own d (eval (.Name x p) env) m σ Q:=z7u h.lk q
theorem z1k{x:Str}{p:Pos}{X:V}[h:GInC gl x X](q:Q X σ):AT C env vars gl own d (eval (.Name x p) env) m σ Q:=z1z h.mem q
theorem z2B{x:Str}{X:V}{m':Loc}{K:Loc->Prop}[h:PutC vars m x X m'](k:K m'):∃m',Put vars m x X m'/\K m':=⟨m',h.put,k⟩
theorem y1H{x y:Expr}{r:List Expr}{p:Pos}(h:AT C env vars gl own d (eval x env) m σ λX σ₁=>∃b,TR C d X σ₁ b/\(b=true->AT C env vars gl own d (boolOp p .And (evalEach (y::r) env)) m σ₁ Q)/\(b=false->Q X σ₁)):
  AT C env vars gl own d (boolOp p .And (evalEach (x::y::r) env)) m σ Q:=y3n h
theorem y3x{x y:Expr}{r:List Expr}{p:Pos}(h:AT C env vars gl own d (eval x env) m σ λX σ₁=>∃b,TR C d X σ₁ b/\(b=true->Q X σ₁)/\(b=false->AT C env vars gl own d (boolOp p .Or (evalEach (y::r) env)) m σ₁ Q)):
  AT C env vars gl own d (boolOp p .Or (evalEach (x::y::r) env)) m σ Q:=y4a h
theorem y06{x:Expr}{p:Pos}(h:AT C env vars gl own d (eval x env) m σ Q):AT C env vars gl own d (boolOp p .And (evalEach [x] env)) m σ Q:=h
theorem y17{x:Expr}{p:Pos}(h:AT C env vars gl own d (eval x env) m σ Q):AT C env vars gl own d (boolOp p .Or (evalEach [x] env)) m σ Q:=h
variable {QS:Fl->Loc->Sto->Prop} {rest:List Stmt} {X:V}
theorem z2h{K:V->Sto->Prop}(q:K .none σ):APart C env vars gl own d none m σ K:=q
theorem z2f{e:Expr}{K:V->Sto->Prop}(q:AT C env vars gl own d (eval e env) m σ K):APart C env vars gl own d (some e) m σ K:=q
theorem GL_nil:∀p∈([]:List (Str×V)),z0f C p.1 p.2:=λp h=>by cases h
theorem z0a{x:Str}{X:V}{r:List (Str×V)}(h:z0f C x X)(t:∀p∈r,z0f C p.1 p.2):∀p∈(x,X)::r,z0f C p.1 p.2:=λp hp=>by
 rcases List.mem_cons.mp hp with rfl|hp
 ·exact h
 ·exact t p hp
theorem z1d{n:String}:z0i C (.bi n):=trivial
theorem z1i{n:String}:z0i C (.type n):=trivial
theorem z0d{K:W.Frag}(H:K.In C.base){a:Addr}{o:Obj}{fd:FuncData}(e1:K.lookup a=some o)(e2:o.data= .func fd):z0i C (.ref a):=⟨o,fd,H a o e1,e2⟩
theorem fnc{a:Addr}{xs:List V}(h:CW C d (.ref a) xs σ Q):KW C d (.ref a) xs σ Q:=z4F h
theorem z0m{sc:Scope}{env env':Env}{x:Str}(hsc:env'.scope=relabel sc env)(h:sc.names.lookup x=some .local):env'.kindOf x=some .local:=by
 show env'.scope.names.lookup x=some .local
 rw[hsc];exact lookup_relabel_local h
section
variable {x:Str} {pp:Pos} {caps:List Str} {elt c:Expr} {ms:Loc} {P:Sto->Prop} {Z:List V->Sto->Prop}
theorem z1s{f:V->V}(hk:env.kindOf x=some .local)(hP:P σ)(xs:List V):
  ∀(acc:List V) (o:Option V),(∀X∈xs,∀K:V->Sto->Prop,K (f X) σ->AT C env (x::caps) gl false d (eval elt env) (some X::ms) σ K)->Z (acc++xs.map f) σ->
   z0S C env (x::caps) gl d (.Name x pp) elt [] P Z xs acc (o::ms) σ:=by
 induction xs with
 |nil=>intro acc o _ q;simpa[z0S] using q
 |cons X xs ih=>
  intro acc o h q
  refine z0v Put.head ?_ (.inr hk)
  refine⟨λ_=>h X (.head _) _ ⟨hP,ih (acc++[f X]) (some X) (λY hY=>h Y (.tail _ hY)) (by simpa using q)⟩,λe=>by cases e⟩
theorem z0X{f:V->V}{t:V->Bool}(hk:env.kindOf x=some .local)(hP:P σ)(xs:List V):
  ∀(acc:List V) (o:Option V),(∀X∈xs,∀K:Bool->Sto->Prop,K (t X) σ->AB C env (x::caps) gl false d (isTrue c env (eval c env)) (some X::ms) σ K)->
   (∀X∈xs,t X=true->∀K:V->Sto->Prop,K (f X) σ->AT C env (x::caps) gl false d (eval elt env) (some X::ms) σ K)->Z (acc++(xs.filter t).map f) σ->
   z0S C env (x::caps) gl d (.Name x pp) elt [c] P Z xs acc (o::ms) σ:=by
 induction xs with
 |nil=>intro acc o _ _ q;simpa[z0S] using q
 |cons X xs ih=>
  intro acc o ht h q
  refine z0v Put.head ?_ (.inr hk)
  refine ht X (.head _) _ ⟨λe=>h X (.head _) e _ ⟨hP,ih (acc++[f X]) (some X) (λY hY=>ht Y (.tail _ hY)) (λY hY=>h Y (.tail _ hY)) ?_⟩,λe=>⟨hP,ih acc (some X) (λY hY=>ht Y (.tail _ hY)) (λY hY=>h Y (.tail _ hY)) ?_⟩⟩
  ·simpa[List.filter_cons,e] using q
  ·simpa[List.filter_cons,e] using q
theorem z7V{R:V->V->Prop}(hk:env.kindOf x=some .local)(hP:P σ)(xs:List V):
  ∀(acc:List V) (o:Option V),(∀X∈xs,∀K:V->Sto->Prop,(∀Y,R X Y->K Y σ)->AT C env (x::caps) gl false d (eval elt env) (some X::ms) σ K)->
   (∀ys:List V,ys.length=xs.length->(∀y∈ys,∃X∈xs,R X y)->Z (acc++ys) σ)->z0S C env (x::caps) gl d (.Name x pp) elt [] P Z xs acc (o::ms) σ:=by
 induction xs with
 |nil=>intro acc o _ q;simpa[z0S] using q [] rfl (λy hy=>by cases hy)
 |cons X xs ih=>
  intro acc o h q
  refine z0v Put.head ?_ (.inr hk)
  refine⟨λ_=>h X (.head _) _ λY hY=>⟨hP,ih (acc++[Y]) (some X) (λY hY=>h Y (.tail _ hY)) λys hl hys=> ?_⟩,λe=>by cases e⟩
  have:=q (Y::ys) (by simp[hl]) (λy hy=>by
   rcases List.mem_cons.mp hy with rfl|hy
   ·exact⟨X,.head _,hY⟩
   ·obtain⟨Z,h1,h2⟩:=hys y hy;exact⟨Z,.tail _ h1,h2⟩)
  simpa using this
end
section
variable {elt tgt iter:Expr} {ifs:List Expr} {scope:Scope} {pos p' p:Pos} {y:Str} {ms:Loc} {QS:Fl->Loc->Sto->Prop}
theorem z0P(x:Str)(caps:List Str)(gl':List (Str×V))
  (hok:z1v scope env.scope vars [x] caps (gl'.map (·.1))=true) (hgl:∀p∈gl',z0f C p.1 p.2) (hcaps:Caps vars m caps ms)
  (h:AI C env vars gl own d iter tgt m σ λxs Pp σ₁=>xs.length<=sizeLine/\∀env',env'.scope=relabel scope env->
   z0S C env' (x::caps) gl' d tgt elt ifs Pp (λys σ₂=>Q (.lst ys) σ₂) xs [] (none::ms) σ₁)
  (hs:autoParam (∀x,foldedSetIterable iter env x=pure x) auF):
  AT C env vars gl own d (eval (.ListComp elt [⟨tgt,iter,ifs,0⟩] scope pos) env) m σ Q:=z7j [x] caps gl' hok hgl hcaps h hs
theorem z9h(x:Str)(caps:List Str)(gl':List (Str×V))
  (hok:z1v scope env.scope vars [x] caps (gl'.map (·.1))=true) (hgl:∀p∈gl',z0f C p.1 p.2) (hcaps:Caps vars m caps ms)
  (h:AI C env vars gl own d iter tgt m σ λxs Pp σ₁=>xs.length<=sizeLine/\∀env',env'.scope=relabel scope env->
   z0S C env' (x::caps) gl' d tgt elt ifs Pp (λys σ₂=>∀a o,Q (.ref a) ((a,o,.list ys)::σ₂)) xs [] (none::ms) σ₁)
  (hs:autoParam (∀x,foldedSetIterable iter env x=pure x) auF):
  AT C env vars gl own d (eval (.ListComp elt [⟨tgt,iter,ifs,0⟩] scope pos) env) m σ Q:=y0X [x] caps gl' hok hgl hcaps h hs
theorem z00(x:Str)(caps:List Str)(gl':List (Str×V))
  (hsw:swapsWith (.ListComp elt [⟨tgt,iter,ifs,0⟩] scope pos) (some (.Name y p')) p.line env=pure true)
  (hok:z1v scope env.scope vars [x] caps (gl'.map (·.1))=true) (hgl:∀p∈gl',z0f C p.1 p.2) (hcaps:Caps vars m caps ms)
  (h:AI C env vars gl own d iter tgt m σ λxs Pp σ₁=>xs.length<=sizeLine/\∀env',env'.scope=relabel scope env->
   z0S C env' (x::caps) gl' d tgt elt ifs Pp (λys σ₂=>∃m',Put vars m y (.lst ys) m'/\QS .next m' σ₂) xs [] (none::ms) σ₁)
  (hown:autoParam (own=true) auR) (hs:autoParam (∀x,foldedSetIterable iter env x=pure x) auF):
  AS C env vars gl own d (exec (.Assign [.Name y p'] (.ListComp elt [⟨tgt,iter,ifs,0⟩] scope pos) p) env) m σ QS:=z5e [x] caps gl' hsw hok hgl hcaps h hown hs
theorem z1M(x:Str)(caps:List Str)(gl':List (Str×V))
  (hsw:swapsWith (.ListComp elt [⟨tgt,iter,ifs,0⟩] scope pos) (some (.Name y p')) p.line env=pure true)
  (hok:z1v scope env.scope vars [x] caps (gl'.map (·.1))=true) (hgl:∀p∈gl',z0f C p.1 p.2) (hcaps:Caps vars m caps ms)
  (h:AI C env vars gl own d iter tgt m σ λxs Pp σ₁=>xs.length<=sizeLine/\∀env',env'.scope=relabel scope env->
   z0S C env' (x::caps) gl' d tgt elt ifs Pp (λys σ₂=>∀a o,∃m',Put vars m y (.ref a) m'/\QS .next m' ((a,o,.list ys)::σ₂)) xs [] (none::ms) σ₁)
  (hown:autoParam (own=true) auR) (hs:autoParam (∀x,foldedSetIterable iter env x=pure x) auF):
  AS C env vars gl own d (exec (.Assign [.Name y p'] (.ListComp elt [⟨tgt,iter,ifs,0⟩] scope pos) p) env) m σ QS:=z5c [x] caps gl' hsw hok hgl hcaps h hown hs
end
theorem z45{Xs:List V}(q:Q (.lst Xs) σ):NLq Q Xs σ:=Or.inl q
theorem y4u{Xs:List V}(q:∀a o,Q (.ref a) ((a,o,.list Xs)::σ)):NLq Q Xs σ:=Or.inr q
theorem z70{n:Int}(h:n.natAbs<2^64):n.natAbs.log2<1920:=by
 by_cases h0:n.natAbs=0
 ·rw[h0];decide
 ·exact Nat.lt_of_lt_of_le ((Nat.log2_lt h0).mpr h) (by decide)
theorem y2X{a b:Bool}(q:Q (.bool (a==b)) σ):AC2 C d (compareOp .Is) (.bool a) (.bool b) σ Q:=λA G D s v u hA R hv hu=>by
 apply VR.boolE hv;apply VR.boolE hu
 exact wpAny_bind (m:=isSame (.bool a) (.bool b)) (wpAny_pure (wpAny_pure (PostC.now R (z8f a b▸ .bool _) q)))
theorem z83{a b:Bool}(q:Q (.bool (!(a==b))) σ):AC2 C d (compareOp .IsNot) (.bool a) (.bool b) σ Q:=λA G D s v u hA R hv hu=>by
 apply VR.boolE hv;apply VR.boolE hu
 exact wpAny_bind (m:=isSame (.bool a) (.bool b)) (wpAny_pure (wpAny_pure (PostC.now R (z8f a b▸ .bool _) q)))
theorem z0x{n:Nat}(h:n<=100000):n<=sizeLine:=Nat.le_trans h (by decide)
theorem qB{a b:Bool}(q:Q (.bool a) σ)(e:a=b):Q (.bool b) σ:=e▸q
theorem z8K{xs:List V}{lo hi st:Option Int}:∀x∈slL xs lo hi st,x∈xs:=λx h=>by
 unfold slL at h
 obtain⟨i,_,e⟩:=List.mem_filterMap.mp h
 exact List.mem_of_getElem? e
theorem y3L{a b:Int}{n:Nat}(h0:0<=a)(h1:b<=n):(sliceRange a b 1).length<=n:=by
 unfold sliceRange
 rw[List.length_map,List.length_range,if_pos (by decide)]
 split
 ·rw[Int.ediv_one];lia
 ·exact Nat.zero_le _
theorem y4s(l u:Option Int)(n:Nat):(sliceRange (sliceBounds l u none n).1 (sliceBounds l u none n).2.1 (sliceBounds l u none n).2.2).length<=n:=by
 refine y3L ?_ ?_
 ·cases l with
  |none=>exact Int.le_refl 0
  |some i=>exact Int.le_max_left 0 _
 ·cases u with
  |none=>exact Int.le_refl _
  |some i=>exact Int.max_le.mpr ⟨Int.natCast_nonneg n,Int.min_le_right _ _⟩
theorem y3i{xs:List V}{lo hi:Option Int}:(slL xs lo hi none).length<=xs.length:=by
 unfold slL
 exact Nat.le_trans (List.length_filterMap_le _ _) (y4s _ _ _)
end
end
section
structure KK(prog:Program)(w:World)(K:Type)[DecidableEq K] where
 knd:KeyKind prog w K
 v:K->V
 isOf:∀{D:Gh} {x:Value} {k:K},VR w D x (v k)->knd.is k x=true
 ofIs:∀{D:Gh} {x:Value} {k:K},knd.is k x=true->VR w D x (v k)
 hashOf:∀{k:K} {h:Int},KH w (v k) h->h=knd.hash k
 ofHash:∀{k:K},KH w (v k) (knd.hash k)
 part:∀{D:Gh} {x:Value} {k:K},VR w D x (v k)->(keyPart x).isSome=true
noncomputable def KK.int(prog:Program)(w:World):KK prog w Int where
 knd:=intKind prog w
 v:=V.int
 isOf:=λh=>by apply VR.intE h;intro _;exact beq_self_eq_true _
 ofIs:=λ{D x k} h=>by obtain⟨t,rfl⟩:=Value.isInt_shape (show Value.isInt k x=true from h);exact .int _ _
 hashOf:=λh=>h
 ofHash:=rfl
 part:=λh=>by apply VR.intE h;intro _;rfl
noncomputable def KK.str(prog:Program)(w:World):KK prog w Str where
 knd:=strKind prog w
 v:=V.str
 isOf:=λh=>by apply VR.strE h;intro _;exact beq_self_eq_true _
 ofIs:=λ{D x k} h=>by obtain⟨t,rfl⟩:=Value.isStrOf_shape (show Value.isStrOf k x=true from h);exact .str _ _
 hashOf:=λh=>h
 ofHash:=rfl
 part:=λh=>by apply VR.strE h;intro _;rfl
section
variable {C:Cx} {d:Nat} {σ:Sto} {Q:V->Sto->Prop} {G D:Gh} {s:Shared} {A:Around} {K:Type} [DecidableEq K]
noncomputable def z0Y(kk:KK C.prog C.w K)(kvs:List (K×V)):List (V×V):=kvs.map λp=>(kk.v p.1,p.2)
inductive KR(w:World)(D:Gh):List (K×Value)->List (K×V)->Prop
 |nil:KR w D [] []
 |cons {k:K} {v:Value} {x:V} {l:List (K×Value)} {r:List (K×V)}:VR w D v x->KR w D l r->KR w D ((k,v)::l) ((k,x)::r)
theorem KR.keys{w:World}{l:List (K×Value)}{r:List (K×V)}(h:KR w D l r):l.map (·.1)=r.map (·.1):=by
 induction h with
 |nil=>rfl
 |cons _ _ ih=>simp[ih]
theorem KR.length{w:World}{l:List (K×Value)}{r:List (K×V)}(h:KR w D l r):l.length=r.length:=by
 induction h with
 |nil=>rfl
 |cons _ _ ih=>simp[ih]
theorem VRd.pairs(kk:KK C.prog C.w K){es:List DictEntry}{kvs:List (K×V)}(h:VRd C.w D es (z0Y kk kvs)):
  ∃cvs,Pairs kk.knd es cvs/\KR C.w D cvs kvs/\∀e∈es,∃k,kk.knd.is k e.key=true/\e.hash=kk.knd.hash k:=by
 induction kvs generalizing es with
 |nil=>rw[VRd.nilI h];exact⟨[],.nil,.nil,λ_ h=>by cases h⟩
 |cons p kvs ih=>
  obtain⟨e,r,rfl,h1,h2,h3,h4⟩:=VRd.consI h
  obtain⟨cvs,p1,q,r⟩:=ih h4
  refine⟨(p.1,e.val)::cvs,.cons (kk.isOf h2) rfl p1,.cons h3 q,λe' he=> ?_⟩
  rcases List.mem_cons.mp he with rfl|he
  ·exact⟨_,kk.isOf h2,kk.hashOf h1⟩
  ·exact r e' he
theorem VRd.ofPairs(kk:KK C.prog C.w K){es:List DictEntry}{cvs:List (K×Value)}{kvs:List (K×V)}(p:Pairs kk.knd es cvs)(q:KR C.w D cvs kvs)(r:∀e∈es,∃k,kk.knd.is k e.key=true/\e.hash=kk.knd.hash k):
  VRd C.w D es (z0Y kk kvs):=by
 induction q generalizing es with
 |nil=>cases p;exact .nil
 |cons h1 _ ih=>
  cases p with
  | @cons e _ es _ p1 p2 p3=>
   obtain⟨k',i1,i2⟩:=r e (.head _)
   have ek:=kk.knd.inj _ _ _ i1 p1
   subst ek
   exact .cons (by rw[i2];exact kk.ofHash) (kk.ofIs p1) (by rw[p2];exact h1) (ih p3 λe he=>r e (.tail _ he))
theorem Has.isD(kk:KK C.prog C.w K){x:V}{kvs:List (K×V)}{P:Sto->Prop}(h:Has σ x (.dict (z0Y kk kvs)) P)(hn:(kvs.map (·.1)).Nodup)(R:RelC C G D σ s){v:Value}(hv:VR C.w D v x):
  ∃a cvs,v= .ref a/\s.heap.DictOf kk.knd a cvs/\KR C.w D cvs kvs:=by
 obtain⟨a,o,rfl,ho,⟨es,n,rfl,hr⟩,_⟩:=h.run R hv
 obtain⟨cvs,p,q,r⟩:=VRd.pairs kk hr
 exact⟨a,cvs,rfl,⟨_,es,n,ho,⟨rfl,rfl,rfl⟩,rfl,λe he=>r e (by simpa using he),p,by rw[q.keys];exact hn⟩,q⟩
inductive DcH(C:Cx)(kk:KK C.prog C.w K)(D:Gh)(s:Shared)(a:Addr)(kvs:List (K×V)):Prop
 |mk (cvs:List (K×Value)):s.heap.DictOf kk.knd a cvs->KR C.w D cvs kvs->DcH C kk D s a kvs
theorem RelC.dcH(R:RelC C G D σ s)(kk:KK C.prog C.w K){kvs:List (K×V)}{a:Addr}{o:Obj}(hm:(a,o,AO.dict (z0Y kk kvs))∈σ)(hn:(kvs.map (·.1)).Nodup):DcH C kk D s a kvs:=by
 obtain⟨b,cvs,e,hD,hk⟩:=(Has.refD hm).isD kk hn R (.ref a)
 cases e
 exact⟨cvs,hD,hk⟩
noncomputable def vAt(kvs:List (K×V))(k:K):Option V:=(kvs.find? λp=>p.1=k).map (·.2)
theorem KR.at{w:World}{l:List (K×Value)}{r:List (K×V)}(h:KR w D l r)(k:K):
  (valueAt l k=none/\vAt r k=none)∨∃v x,valueAt l k=some v/\vAt r k=some x/\VR w D v x:=by
 induction h with
 |nil=>exact .inl ⟨rfl,rfl⟩
 | @cons k' v x l r hv _ ih=>
  by_cases e:k'=k
  ·exact .inr ⟨v,x,by simp[valueAt,e],by simp[vAt,e],hv⟩
  ·have e1:valueAt ((k',v)::l) k=valueAt l k:=by simp[valueAt,List.find?_cons,e]
   have e2:vAt ((k',x)::r) k=vAt r k:=by simp[vAt,List.find?_cons,e]
   rw[e1,e2];exact ih
theorem z9N(kk:KK C.prog C.w K){x X:V}{kvs:List (K×V)}{k:K}{P:Sto->Prop}(h:Has σ x (.dict (z0Y kk kvs)) P)(hn:(kvs.map (·.1)).Nodup)(hx:vAt kvs k=some X)(q:Q X σ):SubR C d x (kk.v k) σ Q:=λA G D s o v hA R ho hv=>by
 obtain⟨a,cvs,rfl,hD,hk⟩:=h.isD kk hn R ho
 rcases hk.at k with⟨_,e⟩|⟨u,Y,e1,e2,hu⟩
 ·rw[hx] at e;cases e
 ·rw[hx] at e2;cases e2
  exact⟨"dict",_,hD.typeIs,slot_dict_getitem.lookup,wpAny_getItem_of (kk.isOf hv) hD.mapOf e1 (PostC.now (R.tok _) hu q)⟩
noncomputable def z0G(C:Cx):Prop:=∃o,C.base.get? sysModules=some o
theorem RelC.notSys(R:RelC C G D σ s)(hs:z0G C){a:Addr}{o:Obj}{x:AO}(hm:(a,o,x)∈σ):(a==sysModules)=false:=by
 obtain⟨ob,hb⟩:=hs
 cases e:a==sysModules with
 |false=>rfl
 |true=>
  have:a=sysModules:=by simpa using e
  have h1:=R.offG a (z1J hm)
  rw[this,R.base _ _ hb] at h1;cases h1
theorem y2p(kk:KK C.prog C.w K){a:Addr}{o:Obj}{kvs:List (K×V)}{k:K}(hs:z0G C)(hm:(a,o,AO.dict (z0Y kk kvs))∈σ)(hn:(kvs.map (·.1)).Nodup)(q:Q (.bool (vAt kvs k).isSome) σ):
  AC2 C d (compareOp .In) (kk.v k) (.ref a) σ Q:=λA G D s v u hA R hv hu=>by
 obtain⟨b,cvs,e,hD,hk⟩:=(Has.refD hm).isD kk hn R hu
 obtain rfl:=VR.refI hu;cases e
 refine wpAny_in_of (kk.isOf hv) (R.notSys hs hm) hD.mapOf ?_
 have:(valueAt cvs k).isSome=(vAt kvs k).isSome:=by
  rcases hk.at k with⟨e1,e2⟩|⟨_,_,e1,e2,_⟩<;>rw[e1,e2]<;>rfl
 rw[this]
 exact PostC.now (R.tok _) (.bool _) q
end
end
section
section
variable {C:Cx} {env:Env} {vars:List Str} {gl:List (Str×V)} {own:Bool} {d:Nat} {m m':Loc} {σ:Sto} {σ':Obj->Sto} {Q:V->Sto->Prop} {G D:Gh} {s:Shared} {A:Around} {K:Type} [DecidableEq K]
set_option tactic.hygienic true in
theorem z4y{a:Addr}{o:Obj}{xs:List V}{X:V}(U:∀o',Upd a o (.list xs) o' (.list (xs++[X])) σ (σ' o'))(hl:xs.length<=sizeLine)(q:∀o',Q .none (σ' o')):
  KW C d (.bi "list.append") [.ref a,X] σ Q:=λA G D s v vs hA R hv hs=>by
 obtain rfl:=VR.biI hv
 obtain⟨_,_,rfl,h1,h2⟩:=VRs.consI hs
 ·skip
  obtain⟨_,_,rfl,h3,h4⟩:=VRs.consI h2
  ·skip
   obtain rfl:=VRs.nilI h4;obtain rfl:=VR.refI h1
   have hm:(a,o,AO.list xs)∈σ:=by obtain⟨u,w,e,_⟩:=(U o).split;rw[e];simp
   obtain⟨ws,n,rfl,hr⟩:=R.sto _ hm
   have ho:s.heap.get? a=some (z0p ws n):=R.pl _ hm
   have hz0:True:=trivial
   have hz:ws.size=xs.length:=by rw[<-hr.length];simp
   refine PyProof.Rows.append_at (its:=ws) (n:=n) ho (λh' hs' ho'=> ?_) (by rw[hz];exact hl)
   rename_i y
   refine⟨.none,D,σ' (z0p (ws.push y) (n+1)),DX.refl _ _,.none,?_,q _⟩
   have:=R.upd (U (z0p (ws.push y) (n+1))) s.toks (z0u _ _) hs' rfl ho' ⟨_,_,rfl,by simpa using hr.append (.cons h3 .nil)⟩
   exact this
noncomputable def z13(kvs:List (K×V))(k:K)(x:V):List (K×V):=if kvs.any (λkv=>kv.1=k) then kvs.map (λkv=>if kv.1=k then(kv.1,x) else kv) else kvs++[(k,x)]
theorem KR.append{w:World}{l l':List (K×Value)}{r r':List (K×V)}(h:KR w D l r)(h':KR w D l' r'):KR w D (l++l') (r++r'):=by
 induction h with
 |nil=>exact h'
 |cons hv _ ih=>exact .cons hv ih
theorem KR.map{w:World}{l:List (K×Value)}{r:List (K×V)}(h:KR w D l r){k:K}{v:Value}{x:V}(hv:VR w D v x):
  KR w D (l.map λkv=>if kv.1=k then(kv.1,v) else kv) (r.map λkv=>if kv.1=k then(kv.1,x) else kv):=by
 induction h with
 |nil=>exact .nil
 | @cons k' u y l r hu _ ih=>
  simp only[List.map_cons]
  by_cases e:k'=k
  ·rw[if_pos e,if_pos e];exact .cons hv ih
  ·rw[if_neg e,if_neg e];exact .cons hu ih
theorem KR.any{w:World}{l:List (K×Value)}{r:List (K×V)}(h:KR w D l r)(k:K):(l.any λkv=>kv.1=k)=(r.any λkv=>kv.1=k):=by
 induction h with
 |nil=>rfl
 |cons _ _ ih=>simp only[List.any_cons,ih]
theorem KR.stored{w:World}{l:List (K×Value)}{r:List (K×V)}(h:KR w D l r){k:K}{v:Value}{x:V}(hv:VR w D v x):KR w D (PySem.stored l k v) (z13 r k x):=by
 unfold PySem.stored z13
 rw[h.any k]
 split
 ·exact h.map hv
 ·exact h.append (.cons hv .nil)
theorem HR.ofDict(kk:KK C.prog C.w K){h:Heap}{a:Addr}{cvs:List (K×Value)}{kvs:List (K×V)}(hD:h.DictOf kk.knd a cvs)(hk:KR C.w D cvs kvs):
  ∃o,h.get? a=some o/\HR C.w D o (.dict (z0Y kk kvs)):=by
 obtain⟨o,es,ep,ho,⟨hc,hd,hsl⟩,hdat,hks,hp,_⟩:=hD
 have eo:o=z1Z es ep:=by cases o;simp_all
 exact⟨o,ho,es,ep,eo,VRd.ofPairs kk hp hk λe he=>hks e (by simpa using he)⟩
theorem z54(kk:KK C.prog C.w K){a:Addr}{o:Obj}{kvs:List (K×V)}{k:K}{X:V}{key v:Value}{Z:Unit->Shared->Prop}{E:Value->Shared->Prop}(U:∀o',Upd a o (.dict (z0Y kk kvs)) o' (.dict (z0Y kk (z13 kvs k X))) σ (σ' o'))(hn:(kvs.map (·.1)).Nodup)(hl:kvs.length<=sizeLine)
  (R:RelC C G D σ s) (hkey:VR C.w D key (kk.v k)) (hv:VR C.w D v X) (q:∀o' s',RelC C G D (σ' o') s'->Z () s'):wpAny C.M A (setItem (.ref a) key v) Z E s:=by
 have hm:(a,o,AO.dict (z0Y kk kvs))∈σ:=by obtain⟨u,w,e,_⟩:=(U o).split;rw[e];simp
 obtain⟨cvs,hD,hk⟩:=RelC.dcH R kk hm hn
 refine wpAny_setItem_pairs (kk.isOf hkey) hD (λh' hD' hs'=> ?_) (by rw[hk.length];exact hl)
 obtain⟨o',ho',hr'⟩:=HR.ofDict kk hD' (hk.stored hv)
 exact q o' _ (R.upd (U o') (s.toks+1) (z0u _ _) hs' rfl ho' hr')
end
end
section
section
variable {C:Cx} {env:Env} {vars:List Str} {gl:List (Str×V)} {own:Bool} {d:Nat} {m m':Loc} {σ:Sto} {σ':Obj->Sto} {Q:V->Sto->Prop} {G D:Gh} {s:Shared} {A:Around} {K:Type} [DecidableEq K]
theorem y3d(kk:KK C.prog C.w K){a:Addr}{o:Obj}{kvs:List (K×V)}{k:K}{X:V}(hs:z0G C)(hm:(a,o,AO.dict (z0Y kk kvs))∈σ)(hn:(kvs.map (·.1)).Nodup)(q:Q ((vAt kvs k).getD X) σ):
  KW C d (.bi "dict.get") [.ref a,kk.v k,X] σ Q:=λA G D s v vs hA R hv hss=>by
 apply VR.biE hv
 apply VRs.consE hss;intro _ _ h1 h2
 ·skip
  apply VRs.consE h2;intro _ _ h3 h4
  ·skip
   cases h4 with
   |cons h5 h6=>
    cases h6;apply VR.refE h1
    obtain⟨cvs,hD,hk⟩:=RelC.dcH R kk hm hn
    refine call_meetsIn F.slot_dict_get hD.typeIs F.entry_dict_get (F.args_dict_get_3 _ _ _) (meets_dict_get_default kk.knd a (kk.isOf h3) (R.notSys hs hm) _) ⟨_,hD.mapOf,?_⟩
    rcases hk.at k with⟨e1,e2⟩|⟨_,_,e1,e2,hu⟩
    ·rw[e1];rw[e2] at q;exact PostC.now (R.tok _) h5 q
    ·rw[e1];rw[e2] at q;exact PostC.now (R.tok _) hu q
theorem y3a(kk:KK C.prog C.w K){a:Addr}{o:Obj}{kvs:List (K×V)}{k:K}(hs:z0G C)(hm:(a,o,AO.dict (z0Y kk kvs))∈σ)(hn:(kvs.map (·.1)).Nodup)(q:Q ((vAt kvs k).getD .none) σ):
  KW C d (.bi "dict.get") [.ref a,kk.v k] σ Q:=λA G D s v vs hA R hv hss=>by
 apply VR.biE hv
 apply VRs.consE hss;intro _ _ h1 h2
 ·skip
  apply VRs.consE h2;intro _ _ h3 h4
  ·skip
   apply VRs.nilE h4;apply VR.refE h1
   obtain⟨cvs,hD,hk⟩:=RelC.dcH R kk hm hn
   refine call_meetsIn F.slot_dict_get hD.typeIs F.entry_dict_get (F.args_dict_get_2 _ _) (meets_dict_get kk.knd a (kk.isOf h3) (R.notSys hs hm)) ⟨_,hD.mapOf,?_⟩
   rcases hk.at k with⟨e1,e2⟩|⟨_,_,e1,e2,hu⟩
   ·rw[e1];rw[e2] at q;exact PostC.now (R.tok _) .none q
   ·rw[e1];rw[e2] at q;exact PostC.now (R.tok _) hu q
noncomputable def z2n(kvs:List (K×V))(k:K):List (K×V):=kvs.filter λkv=>decide (kv.1≠k)
theorem KR.without{w:World}{l:List (K×Value)}{r:List (K×V)}(h:KR w D l r)(k:K):KR w D (PySem.without l k) (z2n r k):=by
 unfold PySem.without z2n
 induction h with
 |nil=>exact .nil
 | @cons k' u y l r hu _ ih=>
  by_cases e:k'=k
  ·simpa[List.filter_cons,e] using ih
  ·simpa[List.filter_cons,e] using KR.cons hu ih
noncomputable def SetR(C:Cx)(d:Nat)(x i v:V)(σ:Sto)(P:Sto->Prop):Prop:=
 ∀A G D s o k u,AOk C A d->RelC C G D σ s->VR C.w D o x->VR C.w D k i->VR C.w D u v->wpAny C.M A (setItem o k u) (λ_ s'=>∃D' σ',DX G D D'/\RelC C G D' σ' s'/\P σ') (λ_ _=>False) s
theorem z4S(kk:KK C.prog C.w K){a:Addr}{o:Obj}{kvs:List (K×V)}{k:K}{X:V}{P:Sto->Prop}(U:∀o',Upd a o (.dict (z0Y kk kvs)) o' (.dict (z0Y kk (z13 kvs k X))) σ (σ' o'))(hn:(kvs.map (·.1)).Nodup)(hl:kvs.length<=sizeLine)(q:∀o',P (σ' o')):
  SetR C d (.ref a) (kk.v k) X σ P:=λA G D s o k' u hA R ho hk hu=>by
 cases ho
 exact z54 kk U hn hl R hk hu λo' s' R'=>⟨D,_,DX.refl _ _,R',q o'⟩
variable {QS:Fl->Loc->Sto->Prop}
theorem y1h{o i value:Expr}{p' p:Pos}(h:AT C env vars gl own d (eval value env) m σ λX σ₁=>AT C env vars gl own d (eval o env) m σ₁ λY σ₂=>AT C env vars gl own d (eval i env) m σ₂ λI σ₃=>SetR C d Y I X σ₃ λσ₄=>QS .next m σ₄)
  (hs:autoParam (swapsWith value (some (.Subscript o i p')) p.line env=pure false) auR):AS C env vars gl own d (exec (.Assign [.Subscript o i p'] value p) env) m σ QS:=λA G D s hA R=>
 wpAny_Assign_Subscript (h.run hA R λv s₁ X D₁ σ₁ a b c e=>e.run hA c λu s₂ Y D₂ σ₂ a' b' c' e'=>e'.run hA c' λw s₃ I D₃ σ₃ a₃ b₃ c₃ e₃=>
  wpAny_mono (e₃ A _ D₃ s₃ u w v hA c₃.lifted (b'.mono a₃.sub) b₃ (b.mono (a'.trans a₃).sub)) (λ_ s₄ hpp=>by obtain⟨D₄,σ₄,dx,R₄,q⟩:=hpp;exact⟨.next,m,D₄,σ₄,((a.trans a').trans a₃).trans (c₃.dx dx),trivial,c₃.back R₄ dx,q⟩) λ_ _ e=>e) hs
end
end
section
section
variable {C:Cx} {env:Env} {vars:List Str} {gl:List (Str×V)} {own:Bool} {d:Nat} {m m':Loc} {σ:Sto} {QS:Fl->Loc->Sto->Prop}
theorem y1p{test:Expr}{body:List Stmt}{p:Pos}(I:Nat->Loc->Sto->Prop)
  (turn:∀n m σ,I n m σ->AB C env vars gl own d (isTrue test env (eval test env)) m σ λb σ₁=>
   (b=true->AS C env vars gl own d (execs body env) m σ₁ λfl m₂ σ₂=>match fl with
    | .next=>∃k,k<n/\I k m₂ σ₂
    | .cont=>∃k,k<n/\I k m₂ σ₂
    | .brk=>QS .next m₂ σ₂
    | .ret v=>QS (.ret v) m₂ σ₂)/\(b=false->QS .next m σ₁))
  (n:Nat) (h:I n m σ):AS C env vars gl own d (exec (.While test body [] p) env) m σ QS:=λA G D s hA R=>by
 refine wpAny_While (codeAny_whileLoop (λn s'=>∃m' D' σ',DX G D D'/\RelF C env vars gl own G D' m' σ' s'/\I n m' σ') ?_ n ⟨m,D,σ,DX.refl _ _,R,h⟩)
 rintro n s' ⟨m',D',σ',dx,R',hI⟩
 refine wpAny_mono ((turn n m' σ' hI).run hA R' λb s₁ D₁ σ₁ a c e=> ?_) (λ_ _ e=>e) λ_ _ e=>e.elim
 cases b with
 |true=>
  rw[if_pos rfl]
  refine wpAny_mono ((e.1 rfl).run hA c λf s₂ fl m₂ D₂ σ₂ a₂ hfl R₂ q=> ?_) (λ_ _ e=>e) λ_ _ e=>e.elim
  have dx2:=(dx.trans a).trans a₂
  cases f<;>cases fl<;>first|exact hfl.elim|skip
  ·obtain⟨k,hk,hI'⟩:=q;exact⟨k,hk,m₂,D₂,σ₂,dx2,R₂,hI'⟩
  ·exact⟨.next,m₂,D₂,σ₂,dx2,trivial,R₂,q⟩
  ·obtain⟨k,hk,hI'⟩:=q;exact⟨k,hk,m₂,D₂,σ₂,dx2,R₂,hI'⟩
  ·exact⟨.ret _,m₂,D₂,σ₂,dx2,hfl,R₂,q⟩
 |false=>
  rw[if_neg (by decide)]
  exact wpAny_execs_nil ⟨.next,m',D₁,σ₁,dx.trans a,trivial,c,e.2 rfl⟩
theorem z6K{test:Expr}{body:List Stmt}{p:Pos}(I:Nat->Loc->Sto->Prop)
  (turn:∀n m σ,I n m σ->∀QB:Fl->Loc->Sto->Prop,(∀k m σ,k<n->I k m σ->QB .next m σ)->AB C env vars gl own d (isTrue test env (eval test env)) m σ λb σ₁=>
   (b=true->AS C env vars gl own d (execs body env) m σ₁ QB)/\(b=false->QS .next m σ₁))
  (n:Nat) (h:I n m σ):AS C env vars gl own d (exec (.While test body [] p) env) m σ QS:=
 y1p I (λn m σ hI=>turn n m σ hI _ λk m σ hk hI=>⟨k,hk,hI⟩) n h
end
end
section
theorem M_append:MethIs "list" "append" "list.append":=⟨F.plainAttrs_list,F.slot_list_append,F.type_list_append⟩
theorem M_lpop:MethIs "list" "pop" "list.pop":=⟨F.plainAttrs_list,F.slot_list_pop,F.type_list_pop⟩
theorem M_lclear:MethIs "list" "clear" "list.clear":=⟨F.plainAttrs_list,F.slot_list_clear,F.type_list_clear⟩
theorem M_insert:MethIs "list" "insert" "list.insert":=⟨F.plainAttrs_list,F.slot_list_insert,F.type_list_insert⟩
theorem M_get:MethIs "dict" "get" "dict.get":=⟨F.plainAttrs_dict,F.slot_dict_get,F.type_dict_get⟩
theorem M_pop:MethIs "dict" "pop" "dict.pop":=⟨F.plainAttrs_dict,F.slot_dict_pop,F.type_dict_pop⟩
theorem M_setdefault:MethIs "dict" "setdefault" "dict.setdefault":=⟨F.plainAttrs_dict,F.slot_dict_setdefault,F.type_dict_setdefault⟩
theorem M_update:MethIs "dict" "update" "dict.update":=⟨F.plainAttrs_dict,F.slot_dict_update,F.type_dict_update⟩
theorem M_clear:MethIs "dict" "clear" "dict.clear":=⟨F.plainAttrs_dict,F.slot_dict_clear,F.type_dict_clear⟩
section
variable {C:Cx} {env:Env} {vars:List Str} {gl:List (Str×V)} {own:Bool} {d:Nat} {m m':Loc} {σ:Sto} {σ':Obj->Sto} {Q:V->Sto->Prop} {G D:Gh} {s:Shared} {A:Around} {K:Type} [DecidableEq K]
theorem z96(kk:KK C.prog C.w K){a:Addr}{o:Obj}{kvs:List (K×V)}{k:K}{X:V}(U:∀o',Upd a o (.dict (z0Y kk kvs)) o' (.dict (z0Y kk (z2n kvs k))) σ (σ' o'))(hn:(kvs.map (·.1)).Nodup)(hl:kvs.length<=sizeLine)(hx:vAt kvs k=some X)(q:∀o',Q X (σ' o')):
  KW C d (.bi "dict.pop") [.ref a,kk.v k] σ Q:=λA G D s v vs hA R hv hss=>by
 apply VR.biE hv
 apply VRs.consE hss;intro _ _ h1 h2
 ·skip
  apply VRs.consE h2;intro _ _ h3 h4
  ·skip
   apply VRs.nilE h4;apply VR.refE h1
   have hm:(a,o,AO.dict (z0Y kk kvs))∈σ:=by obtain⟨u,w,e,_⟩:=(U o).split;rw[e];simp
   obtain⟨cvs,hD,hk⟩:=RelC.dcH R kk hm hn
   rcases hk.at k with⟨_,e2⟩|⟨u,Y,e1,e2,hu⟩
   ·rw[hx] at e2;cases e2
   ·rw[hx] at e2;cases e2
    refine call_meetsIn F.slot_dict_pop hD.typeIs F.entry_dict_pop (F.args_dict_pop_2 _ _) (meets_dict_pop_there kk.knd a (kk.isOf h3) [] (.inl rfl) (kk.part h3)) ⟨cvs,u,hD,by rw[hk.length];exact hl,e1,λh' hD' hs'=> ?_⟩
    obtain⟨o',ho',hr'⟩:=HR.ofDict kk hD' (hk.without k)
    exact⟨X,D,σ' o',DX.refl _ _,hu,R.upd (U o') (s.toks+1) (z0u _ _) hs' rfl ho' hr',q o'⟩
end
end
section
section
variable {C:Cx} {env:Env} {vars:List Str} {gl:List (Str×V)} {own:Bool} {d:Nat} {m m':Loc} {σ:Sto} {σ':Obj->Sto} {Q:V->Sto->Prop} {G D:Gh} {s:Shared} {A:Around} {K:Type} [DecidableEq K]
variable {QI:List V->(Sto->Prop)->Sto->Prop}
theorem z8O [HM C](kk:KK C.prog C.w K){iter tgt:Expr}(hsys:z0G C)(h:AT C env vars gl own d (eval iter env) m σ λX σ₁=>∃a o kvs,X= .ref a/\(a,o,AO.dict (z0Y kk kvs))∈σ₁/\(kvs.map (·.1)).Nodup/\QI (kvs.map λp=>kk.v p.1) (λσ'=>(a,o,AO.dict (z0Y kk kvs))∈σ') σ₁):
  AI C env vars gl own d iter tgt m σ QI:=λA G D s hA R=>
 h.run hA R λv s₁ X D₁ σ₁ dx b c hpp=>by
  obtain⟨ax,o,kvs,hX,hm,hn,q⟩:=hpp
  subst hX
  obtain⟨_,ob,e,ho,⟨es,n,rfl,hr⟩,hP,hst⟩:=(Has.refD hm).run c.toRelC b
  obtain rfl:=VR.refI b;cases e
  obtain⟨cvs,p,kr,r⟩:=VRd.pairs kk hr
  have hD:s₁.heap.DictAt kk.knd ax cvs n:=⟨_,es,ho,⟨rfl,rfl,rfl⟩,rfl,λe he=>r e (by simpa using he),p,by rw[kr.keys];exact hn⟩
  have hne:ax≠s₁.heap.objs.size:=Nat.ne_of_lt (Heap.lt_size ho)
  refine wpAny_pyIter_dict (c.toRelC.notSys hsys hm) hD ⟨D₁,σ₁,_,_,dx,⟨s₁.heap.objs.size,_,_,_,rfl,IW.two (Walks.dictKeys (knd:=kk.knd) hA.hh s₁.heap.objs.size ax hne cvs n) (by rw[kr.length];simp) ?_ (λi h st=>by obtain⟨⟨o,ho,hc,_⟩,_⟩:=st;exact⟨o,_,ho,hc,by decide⟩) (λh st=>by obtain⟨_,o,_,ho,_⟩:=st;exact⟨o,ho⟩),⟨⟨_,Heap.get?_push_size _ rfl,rfl,rfl⟩,hD.push _⟩,c.push _,c.offNew (z0p #[] 0),hP,z8A ho hst⟩,q⟩
  ·rintro i u X ⟨k,x,hx,hk⟩ hX
   have e1:(cvs.map (·.1))[i]? =some k:=by rw[List.getElem?_map,hx];rfl
   rw[kr.keys,List.getElem?_map] at e1
   rw[List.getElem?_map] at hX
   cases e3:kvs[i]? with
   |none=>rw[e3] at e1;cases e1
   |some p=>
    rw[e3] at e1 hX
    simp only[Option.map_some,Option.some.injEq] at e1 hX
    subst hX;rw[e1];exact kk.ofIs hk
theorem y00(kk:KK C.prog C.w K){a:Addr}{o:Obj}{kvs:List (K×V)}(hs:z0G C)(hm:(a,o,AO.dict (z0Y kk kvs))∈σ)(hn:(kvs.map (·.1)).Nodup)(hl:kvs.length<=sizeLine)(q:Q (.int kvs.length) σ):
  KW C d (.bi "len") [.ref a] σ Q:=λA G D s v vs hA R hv hss=>by
 apply VR.biE hv
 apply VRs.consE hss;intro _ _ h1 h2
 ·skip
  apply VRs.nilE h2;apply VR.refE h1
  obtain⟨cvs,hD,hk⟩:=RelC.dcH R kk hm hn
  refine call_len_dict (R.notSys hs hm) hD (by rw[hk.length];have:kvs.length<=16777216:=hl;lia) ?_
  rw[hk.length];exact PostC.now (R.tok _) (.int _ _) q
end
end
section
section
variable {C:Cx} {env:Env} {vars:List Str} {gl:List (Str×V)} {own:Bool} {d:Nat} {m m':Loc} {σ:Sto} {KA:Loc->Sto->Prop}
noncomputable def AAs(C:Cx)(env:Env)(vars:List Str)(gl:List (Str×V))(own:Bool)(d:Nat)(ts:List (Value->Sem Unit))(xs:List V)(m:Loc)(σ:Sto)(KA:Loc->Sto->Prop):Prop:=
 ∀A G D s vs,AOk C A d->RelF C env vars gl own G D m σ s->VRs C.w D vs xs->wpAny C.M A (assignInOrder ts vs) (PostU C env vars gl own G D KA) (λ_ _=>False) s
theorem z8H(k:KA m σ):AAs C env vars gl own d [] [] m σ KA:=λA G D s vs hA R hv=>by
 apply VRs.nilE hv
 show wpAny C.M A (assignInOrder [] []) _ _ s
 exact wpAny_pure ⟨m,D,σ,DX.refl _ _,R,k⟩
set_option tactic.hygienic true in
theorem z2x{t:Value->Sem Unit}{ts:List (Value->Sem Unit)}{x:V}{xs:List V}(h:AA C env vars gl own d t x m σ λm₁ σ₁=>AAs C env vars gl own d ts xs m₁ σ₁ KA):AAs C env vars gl own d (t::ts) (x::xs) m σ KA:=λA G D s vs hA R hv=>by
 cases hv with
 |cons h1 h2=>
  rename_i v vs
  have key:wpAny C.M A (t v) (λ_ s'=>wpAny C.M A (assignInOrder ts vs) (PostU C env vars gl own G D KA) (λ_ _=>False) s') (λ_ _=>False) s:=
   wpAny_mono (h A G D s v hA R h1) (λ_ s' hpp=>by obtain⟨m₁,D₁,σ₁,dx,R₁,q⟩:=hpp;exact wpAny_mono (q A G D₁ s' vs hA R₁ (h2.mono dx.sub)) (λ_ _ p=>p.weak dx) λ_ _ e=>e) λ_ _ e=>e
  exact wpAny_bind (wpAny_holding key)
theorem y0L [HM C]{elts:List Expr}{k:Nat}{p:Pos}{xs:List V}(hn:(assignEach elts env).length=xs.length)(hstar:(assignEach elts env).findIdx? (·.1)=none)(h:AAs C env vars gl own d ((assignEach elts env).map (·.2)) xs m σ KA):
  AA C env vars gl own d (assign (.Tuple elts k p) env) (.tup xs) m σ KA:=λA G D s v hA R hv=>by
 apply VR.isTE R.toRelC hv;intro a ws _ hT hr
 refine wpAny_assign_Tuple hA.hh hT (by rw[hn,<-hr.length];simp) hstar λh' he=> ?_
 have R':RelF C env vars gl own G D m σ {s with heap:=h'}:=by
  have:=R.keepBut (h':=h') s.toks (R.offNew (z0p #[] 0)) λb o hb e=>he b o (by simpa using hb) e
  exact this
 exact h A G D _ _ hA R' hr
variable {QS:Fl->Loc->Sto->Prop}
theorem y0D [HM C]{x y:Expr}{X Y:V}(h:AA C env vars gl own d (assign x env) X m σ λm₁ σ₁=>AA C env vars gl own d (assign y env) Y m₁ σ₁ KA){k:Nat}{p:Pos}
  (hn:autoParam ((assignEach [x,y] env).map (·.2)=[assign x env,assign y env]) auR) (hstar:autoParam ((assignEach [x,y] env).findIdx? (·.1)=none) auR):
  AA C env vars gl own d (assign (.Tuple [x,y] k p) env) (.tup [X,Y]) m σ KA:=by
 refine y0L (by have:=congrArg List.length hn;simpa using this) hstar ?_
 rw[hn]
 refine z2x λA G D s v hA R hv=>wpAny_mono (h A G D s v hA R hv) (λ_ s' hpp=>by obtain⟨m₁,D₁,σ₁,dx,R₁,q⟩:=hpp;exact⟨m₁,D₁,σ₁,dx,R₁,z2x λA G D s v hA R hv=>wpAny_mono (q A G D s v hA R hv) (λ_ s' hpp=>by obtain⟨m₁,D₁,σ₁,dx,R₁,q⟩:=hpp;exact⟨m₁,D₁,σ₁,dx,R₁,z8H q⟩) λ_ _ e=>e⟩) λ_ _ e=>e
theorem y4j [HM C]{x y z:Expr}{X Y Z:V}(h:AA C env vars gl own d (assign x env) X m σ λm₁ σ₁=>AA C env vars gl own d (assign y env) Y m₁ σ₁ λm₂ σ₂=>AA C env vars gl own d (assign z env) Z m₂ σ₂ KA){k:Nat}{p:Pos}
  (hn:autoParam ((assignEach [x,y,z] env).map (·.2)=[assign x env,assign y env,assign z env]) auR) (hstar:autoParam ((assignEach [x,y,z] env).findIdx? (·.1)=none) auR):
  AA C env vars gl own d (assign (.Tuple [x,y,z] k p) env) (.tup [X,Y,Z]) m σ KA:=by
 refine y0L (by have:=congrArg List.length hn;simpa using this) hstar ?_
 rw[hn]
 refine z2x λA G D s v hA R hv=>wpAny_mono (h A G D s v hA R hv) (λ_ s' hpp=>by obtain⟨m₁,D₁,σ₁,dx,R₁,q⟩:=hpp;exact⟨m₁,D₁,σ₁,dx,R₁,z2x λA G D s v hA R hv=>wpAny_mono (q A G D s v hA R hv) (λ_ s' hpp=>by obtain⟨m₁,D₁,σ₁,dx,R₁,q⟩:=hpp;exact⟨m₁,D₁,σ₁,dx,R₁,z2x λA G D s v hA R hv=>wpAny_mono (q A G D s v hA R hv) (λ_ s' hpp=>by obtain⟨m₁,D₁,σ₁,dx,R₁,q⟩:=hpp;exact⟨m₁,D₁,σ₁,dx,R₁,z8H q⟩) λ_ _ e=>e⟩) λ_ _ e=>e⟩) λ_ _ e=>e
end
end
section
section
variable {C:Cx} {env:Env} {vars:List Str} {gl:List (Str×V)} {own:Bool} {d:Nat} {m m':Loc} {σ:Sto} {σ':Obj->Sto} {Q:V->Sto->Prop} {QS:Fl->Loc->Sto->Prop} {K:Type} [DecidableEq K]
theorem z5y{t value:Expr}{p:Pos}(h:AT C env vars gl own d (eval value env) m σ λX σ₁=>AA C env vars gl own d (assign t env) X m σ₁ λm₂ σ₂=>QS .next m₂ σ₂)
  (he:autoParam ((assignEach [t] env).map (·.2)=[assign t env]) auR) (hs:autoParam (swapsWithSole [t] value p.line env=pure false) auR)
  (hw:autoParam (swappedStores [t] value env=pure none) auR):AS C env vars gl own d (exec (.Assign [t] value p) env) m σ QS:=λA G D s hA R=>by
 refine wpAny_Assign_stores (h.run hA R λv s₁ X D₁ σ₁ a b c e=> ?_) hs hw
 rw[he]
 show wpAny C.M A (assign t env v) _ _ s₁
 exact wpAny_mono (e A G D₁ s₁ v hA c b) (λ_ s₂ hpp=>by obtain⟨m₂,D₂,σ₂,dx,R₂,q⟩:=hpp;exact⟨.next,m₂,D₂,σ₂,a.trans dx,trivial,R₂,q⟩) λ_ _ x=>x
theorem z53(kk:KK C.prog C.w K){a:Addr}{o:Obj}{kvs:List (K×V)}{k:K}{X:V}(hs:z0G C)(U:∀o',Upd a o (.dict (z0Y kk kvs)) o' (.dict (z0Y kk (z13 kvs k X))) σ (σ' o'))(hn:(kvs.map (·.1)).Nodup)(hl:kvs.length<=sizeLine)
  (q1:∀Y,vAt kvs k=some Y->Q Y σ) (q2:vAt kvs k=none->∀o',Q X (σ' o')):
  KW C d (.bi "dict.setdefault") [.ref a,kk.v k,X] σ Q:=λA G D s v vs hA R hv hss=>by
 apply VR.biE hv
 apply VRs.consE hss;intro _ _ h1 h2
 ·skip
  apply VRs.consE h2;intro _ _ h3 h4
  ·skip
   cases h4 with
   |cons h5 h6=>
    cases h6;apply VR.refE h1
    have hm:(a,o,AO.dict (z0Y kk kvs))∈σ:=by obtain⟨u,w,e,_⟩:=(U o).split;rw[e];simp
    obtain⟨cvs,hD,hk⟩:=RelC.dcH R kk hm hn
    refine call_meetsIn F.slot_dict_setdefault hD.typeIs F.entry_dict_setdefault (F.args_dict_setdefault_3 _ _ _) (kt_meets_setdefault kk.knd a (kk.isOf h3) (R.notSys hs hm) _) ⟨cvs,hD,by rw[hk.length];exact hl,λu hu=> ?_,λhnone h' hD' hs'=> ?_⟩
    ·rcases hk.at k with⟨e1,e2⟩|⟨u',Y,e1,e2,hY⟩
     ·rw[hu] at e1;cases e1
     ·rw[hu] at e1;cases e1;exact PostC.now (R.tok _) hY (q1 Y e2)
    ·rcases hk.at k with⟨e1,e2⟩|⟨u',Y,e1,e2,hY⟩
     ·obtain⟨o',ho',hr'⟩:=HR.ofDict kk hD' (hk.stored h5)
      exact⟨X,D,σ' o',DX.refl _ _,h5,R.upd (U o') (s.toks+1) (z0u _ _) hs' rfl ho' hr',q2 e2 o'⟩
     ·rw[hnone] at e1;cases e1
end
end
section
theorem FR.look{w:World}{D:Gh}{name:Str}:∀{es:List DictEntry} {fs:List (Str×V)},FR w D es fs->
  (es.any (·.refKey)=false)/\((fs.lookup name=none/\es.find? (·.key.isStr name)=none)∨∃e x,fs.lookup name=some x/\es.find? (·.key.isStr name)=some e/\VR w D e.val x)
 |[],[],_=>⟨rfl,.inl ⟨rfl,rfl⟩⟩
 |e::es,(n,x)::fs,⟨⟨t,hk⟩,_,hv,hr⟩=>by
  obtain⟨h1,h2⟩:=FR.look (name:=name) hr
  have hrk:e.refKey=false:=by unfold DictEntry.refKey;rw[hk]
  refine⟨by rw[List.any_cons,hrk,h1];rfl,?_⟩
  by_cases en:name=n
  ·subst en
   exact .inr ⟨e,x,by simp[List.lookup],by rw[List.find?_cons,hk];simp[Value.isStr],hv⟩
  ·have e1:(e.key.isStr name)=false:=by rw[hk];simp[Value.isStr];exactλh=>en h.symm
   have e2:(name==n)=false:=by simpa using en
   rw[List.lookup_cons,e2,List.find?_cons,e1]
   exact h2
 |[],_::_,h=>h.elim
 |_::_,[],h=>h.elim
section
variable {C:Cx} {env:Env} {vars:List Str} {gl:List (Str×V)} {own:Bool} {d:Nat} {m m':Loc} {σ:Sto} {P:V->Sto->Prop} {G D:Gh} {s:Shared}
theorem z4j{x c dx:Addr}{o:Obj}{fs:List (Str×V)}(R:RelC C G D σ s)(hm:(x,o,AO.inst c dx fs)∈σ):W.InstAt s.heap x (y0V c dx) c (some o):=by
 obtain⟨h1,h2⟩:=R.pl _ hm
 exact⟨h1,rfl,rfl,h2⟩
structure MethAt(C:Cx)(K:W.Frag)(c:Addr)(name:Str)(f:Addr):Prop where
 kin:K.In C.base
 ga:W.findIn K (.ref c) "__getattribute__"=some (some (.builtin "object.__getattribute__"))
 gk:W.findIn K (.ref c) "__getattr__"=some none
 fn:W.findIn K (.ref c) name=some (some (.ref f))
 ty:W.typeIn K (.ref f)=some (.type "function")
 cal:z0i C (.ref f)
theorem y1e{K:W.Frag}{c f:Addr}{o e:Expr}{rest:List Expr}{name:Str}{ap p:Pos}(hM:MethAt C K c name f)
  (h:AT C env vars gl own d (eval o env) m σ λX σ₁=>∃x ob dx fs,X= .ref x/\(x,ob,AO.inst c dx fs)∈σ₁/\fs.lookup name=none/\AL C env vars gl own d (spliced (backTo p (starEach (e::rest) env))) m σ₁ λXs σ₂=>KW C d (.ref f) (.ref x::Xs) σ₂ P)
  (hbase:autoParam (attributeBase o name env (eval o env)=eval o env) auR) (hline:autoParam ((ap.endLine==p.line)=true) auR)
  (he:autoParam (starEach (e::rest) env=(false,eval e env)::starEach rest env) auR) (hplain:autoParam ((backTo p (starEach rest env)).any (·.1)=false) auR)
  (hfew:autoParam (((backTo p (starEach (e::rest) env)).all (λx=> !x.1)&&(backToKw p (keywordEach [] env)).all (λx=>x.1.isSome)&&decide ((e::rest).length+([]:List Keyword).length+(if([]:List Keyword).isEmpty then 0 else 1)<30))=true) auR):
  AT C env vars gl own d (eval (.Call (.Attribute o name ap) (e::rest) [] p) env) m σ P:=λA G D s hA R=>by
 rw[arm_eval_Call,hbase]
 refine wpAny_bind (h.run hA R λv s₁ X D₁ σ₁ a b c₁ hpp=> ?_)
 obtain⟨x,ob,dx,fs,hX,hm,hsh,hk⟩:=hpp
 subst hX
 apply VR.refE b
 refine wpAny_bind (wpAny_standAt ?_)
 have hform:methodCallForm ((e::rest).length+([]:List Keyword).length) (backTo p (starEach (e::rest) env)) (backToKw p (keywordEach [] env))=true:=hfew
 have hpos:methodCallPos true o env ap p=pure p:=by unfold methodCallPos;simp[hline]
 unfold methodCall
 rw[hform]
 obtain⟨es,n,rfl,hr⟩:=c₁.sto _ hm
 have hl:=(FR.look (name:=name) hr)
 have hshadow:W.shadowIn (some (z1Z es n)) name=some false:=by
  unfold W.shadowIn W.lookIn
  rcases hl.2 with⟨_,e2⟩|⟨_,_,e1,_,_⟩
  ·simp[e2,hl.1]
  ·rw[hsh] at e1;cases e1
 refine wpAny_bind (wpAny_holding (W.method_fn (hM.kin.keeps c₁.toRelC.baseIn) (z4j c₁.toRelC hm) hM.ga hM.gk hM.fn hM.ty hshadow ?_))
 refine wpAny_bind (wpAny_of_eq hpos ?_)
 rw[he] at hk⊢
 refine z1c (F:= .ref f) hM.cal (.ref f) (D:=D₁) hplain (Calls.evalArgs_plain (AL.run hk hA c₁ λvs s₂ Xs D₂ σ₂ a' b' c' q=>⟨c'.toRelC.baseIn,z0V (a.trans a') (q.inF hA c' (.ref f) (.cons (.ref x) b'))⟩))
end
end
section
section
variable {C:Cx} {env:Env} {vars:List Str} {gl:List (Str×V)} {own:Bool} {d:Nat} {m m':Loc} {σ:Sto} {P:V->Sto->Prop} {G D:Gh} {s:Shared}
structure AttrAt(C:Cx)(K:W.Frag)(c:Addr)(name:Str):Prop where
 kin:K.In C.base
 ga:W.findIn K (.ref c) "__getattribute__"=some (some (.builtin "object.__getattribute__"))
 cls:∃cd,W.clsIn K c=some cd/\cd.hasDict=true
 nf:W.findIn K (.ref c) name=some none
theorem y3O{w:World}{D:Gh}{v:Value}{x:V}(h:VR w D v x)(hx:∀n,x≠ .bi n):W.handedIn v=true:=by
 cases h<;>first|rfl|exact absurd rfl (hx _)
theorem y1u{K:W.Frag}{c:Addr}{o:Expr}{name:Str}{p:Pos}(hM:AttrAt C K c name)
  (h:AT C env vars gl own d (eval o env) m σ λX σ₁=>∃x ob dx fs Y,X= .ref x/\(x,ob,AO.inst c dx fs)∈σ₁/\fs.lookup name=some Y/\(∀n,Y≠ .bi n)/\P Y σ₁)
  (hbase:autoParam (attributeBase o name env (eval o env)=eval o env) auR) (ht:∀u r,letTemporaryGo o u r=pure ():=by intro _ _;with_unfolding_all exact rfl):
  AT C env vars gl own d (eval (.Attribute o name p) env) m σ P:=λA G D s hA R=>by
 rw[arm_eval_Attribute,hbase]
 refine wpAny_bind (h.run hA R λv s₁ X D₁ σ₁ a b c₁ hpp=> ?_)
 obtain⟨x,ob,dx,fs,Y,hX,hm,hl,hnb,q⟩:=hpp
 subst hX
 apply VR.refE b
 refine wpAny_bind (wpAny_standAt (wpAny_bind (wpAny_holding ?_)))
 obtain⟨es,n,rfl,hr⟩:=c₁.sto _ hm
 have hL:=FR.look (name:=name) hr
 rcases hL.2 with⟨e1,_⟩|⟨e,Z,e1,e2,hv⟩
 ·rw[hl] at e1;cases e1
 rw[hl] at e1;cases e1
 obtain⟨cd,hc1,hc2⟩:=hM.cls
 have hlook:W.lookIn name (z1Z es n)=some (some e.val):=by unfold W.lookIn;simp[e2]
 have hf:W.findObj K c (some (z1Z es n)) name=some (.value e.val):=by
  unfold W.findObj W.ownOf
  rw[hc1,hM.nf]
  simp[hc2,hlook]
 refine W.get_value (hM.kin.keeps c₁.toRelC.baseIn) (z4j c₁.toRelC hm) hM.ga hf (y3O hv hnb) ?_
 rw[ht]
 exact wpAny_bind (wpAny_pure (wpAny_pure ⟨Y,D₁,σ₁,a,hv,c₁.tok _,q⟩))
end
end
section
noncomputable def At(σ:Sto)(a:Addr)(x:AO):Prop:=∃o,(a,o,x)∈σ
theorem At.cons{σ:Sto}{a:Addr}{x:AO}(p:Addr×Obj×AO)(h:At σ a x):At (p::σ) a x:=let⟨o,e⟩:=h;⟨o,.tail _ e⟩
theorem At.hd{σ:Sto}{a:Addr}{o:Obj}{x:AO}:At ((a,o,x)::σ) a x:=⟨o,.head _⟩
structure UpdS(σ σ':Sto)(a:Addr)(x:AO):Prop where
 here:At σ' a x
 keep:∀p∈σ,p.1≠a->p∈σ'
theorem UpdS.at{σ σ':Sto}{a b:Addr}{x y:AO}(U:UpdS σ σ' a x)(h:At σ b y)(hne:b≠a):At σ' b y:=let⟨o,e⟩:=h;⟨o,U.keep _ e hne⟩
noncomputable def Fresh(σ:Sto)(a:Addr):Prop:=∀p∈σ,p.1≠a
theorem Fresh.ne{σ:Sto}{a b:Addr}{x:AO}(h:Fresh σ a)(hb:At σ b x):b≠a:=let⟨o,e⟩:=hb;h _ e
theorem Upd.updS{a:Addr}{o o':Obj}{x x':AO}{σ σ':Sto}(U:Upd a o x o' x' σ σ'):UpdS σ σ' a x':=by
 obtain⟨u,v,rfl,rfl⟩:=U.split
 refine⟨⟨o',by simp⟩,λp hp hn=> ?_⟩
 rcases List.mem_append.mp hp with h|h
 ·exact List.mem_append_left _ h
 ·rcases List.mem_cons.mp h with rfl|h
  ·exact absurd rfl hn
  ·exact List.mem_append_right _ (.tail _ h)
theorem At.upd{σ:Sto}{a:Addr}{x:AO}(h:At σ a x)(x':AO):∃(o:Obj) (σ':Obj->Sto),(∀o':Obj,Upd a o x o' x' σ (σ' o'))/\∀o':Obj,UpdS σ (σ' o') a x':=by
 obtain⟨o,h⟩:=h
 obtain⟨u,v,rfl⟩:=List.append_of_mem h
 exact⟨o,λo'=>u++(a,o',x')::v,λo'=>Upd.app u .head,λo'=>(Upd.app u .head).updS⟩
section
variable {C:Cx} {env:Env} {vars:List Str} {gl:List (Str×V)} {own:Bool} {d:Nat} {m m':Loc} {σ:Sto} {Q:V->Sto->Prop} {QS:Fl->Loc->Sto->Prop} {G D:Gh} {s:Shared} {A:Around} {K:Type} [DecidableEq K]
theorem z12{σ:Sto}{p:Addr×Obj×AO}(h:p∈σ):p.1∈foot σ:=z1J (a:=p.1) (ob:=p.2.1) (o:=p.2.2) h
theorem RelC.fresh(R:RelC C G D σ s):Fresh σ s.heap.objs.size:=λp hp e=>R.new_notFoot (e▸z12 hp)
theorem z08{a:Addr}{xs:List V}(h:CW C d (.ref a) xs σ λx σ'=>∃τ,τ.Sublist σ'/\Q x τ):CW C d (.ref a) xs σ Q:=λA G D s vs hA R hv=>
 codeAny_mono (h A G D s vs hA R hv) λr s' q=>by
  cases r with
  |error e=>exact q
  |ok f=>
   cases f<;>first|exact q.elim|skip
   obtain⟨x,D',σ',dx,hx,R',τ,hs,q⟩:=q
   exact⟨x,D',τ,dx,hx,R'.drop hs,q⟩
theorem z3w{p:Pos}(q:∀a o,Fresh σ a->Q (.ref a) ((a,o,.dict [])::σ)):AT C env vars gl own d (eval (.Dict [] [] p) env) m σ Q:=λA G D s hA R=>by
 refine wpAny_Dict_empty ⟨.ref _,D,_,DX.refl _ _,.ref _,R.back (R.lifted.newM (z1Z #[] 0) (.dict []) ⟨#[],0,rfl,.nil⟩ rfl (λ_ _=>rfl)) (DX.refl _ _),q _ _ R.toRelC.fresh⟩
theorem z16{es:List Expr}{p:Pos}(h:AL C env vars gl own d (spliced (backTo p (starEach es env))) m σ λXs σ₁=>Xs.length<=sizeLine/\∀a o,Fresh σ₁ a->Q (.ref a) ((a,o,.list Xs)::σ₁)):
  AT C env vars gl own d (eval (.List es p) env) m σ Q:=λA G D s hA R=>
 wpAny_List (h.run hA R λvs s₁ Xs D₁ σ₁ a b c hpp=>by obtain⟨hl,q⟩:=hpp;exact⟨by rw[b.length];exact hl,⟨.ref _,D₁,_,a,.ref _,c.newL b,q _ _ c.toRelC.fresh⟩⟩)
noncomputable def NLf(P:V->Sto->Prop)(Xs:List V)(σ:Sto):Prop:=P (.lst Xs) σ∨∀a o,Fresh σ a->P (.ref a) ((a,o,.list Xs)::σ)
theorem z7m(h:Heap):h.get? h.objs.size=none:=by
 cases e:h.get? h.objs.size with
 |none=>rfl
 |some o=>exact absurd (Heap.lt_size e) (Nat.lt_irrefl _)
theorem RelC.madeL(R:RelC C G D σ s){h':Heap}{t:Nat}{a:Addr}{vs:Array Value}{n:Nat}{Xs:List V}(hk:∀b o,s.heap.get? b=some o->h'.get? b=some o)(ha:s.heap.get? a=none)(ho:h'.get? a=some (z0p vs n))(h:VRs C.w D vs.toList Xs)(q:NLf Q Xs σ):
  PostC C G D Q (.ref a) {s with heap:=h',toks:=t}:=by
 have R':=R.keep t hk
 have hG:G a=none:=by
  cases e:G a with
  |none=>rfl
  |some o=>obtain⟨_,h,_⟩:=R.g _ _ e;rw[h] at ha;cases ha
 have hD:D a=none:=by
  cases e:D a with
  |none=>rfl
  |some o=>rw[R.d _ _ e] at ha;cases ha
 have hf:a∉foot σ:=λhf=>by obtain⟨o,e⟩:=R.footLives hf;rw[e] at ha;cases ha
 have R2:=R'.addL hG hD hf ho h
 rcases q with q|q
 ·obtain⟨R3,dx,hv⟩:=R2.freezeL (u:=[]) (v:=σ) rfl
  exact⟨.lst Xs,_,σ,dx,hv,R3,q⟩
 ·exact⟨.ref a,D,_,DX.refl _ _,.ref a,R2,q _ _ λp hp e=>hf (e▸z12 hp)⟩
end
end
section
theorem FR.put{w:World}{D:Gh}{name:Str}{v:Value}{X:V}{t:Tok}(hv:VR w D v X):∀{es:List DictEntry} {fs:List (Str×V)},FR w D es fs->fs.lookup name=none->
  FR w D (W.putL name (hashStr w name) (.str name t) v es) (fs++[(name,X)])
 |[],[],_,_=>⟨⟨t,rfl⟩,rfl,hv,trivial⟩
 |e::es,(n,x)::fs,⟨⟨t',hk⟩,hh,hx,hr⟩,hl=>by
  have hne:(name==n)=false:=by
   cases q:name==n with
   |false=>rfl
   |true=>rw[List.lookup_cons,q] at hl;cases hl
  have e1:(e.key.isStr name)=false:=by rw[hk];simp[Value.isStr];intro h;rw[h] at hne;simp at hne
  unfold W.putL
  rw[e1]
  exact⟨⟨t',hk⟩,hh,hx,FR.put hv hr (by rw[List.lookup_cons,hne] at hl;exact hl)⟩
 |[],_::_,h,_=>h.elim
 |_::_,[],h,_=>h.elim
theorem FR.len{w:World}{D:Gh}:∀{es:List DictEntry} {fs:List (Str×V)},FR w D es fs->es.length=fs.length
 |[],[],_=>rfl
 |_::es,_::fs,⟨_,_,_,h⟩=>by simp[FR.len h]
 |[],_::_,h=>h.elim
 |_::_,[],h=>h.elim
section
variable {C:Cx} {env:Env} {vars:List Str} {gl:List (Str×V)} {own:Bool} {d:Nat} {m m':Loc} {σ:Sto} {σ':Obj->Sto} {P:V->Sto->Prop} {QS:Fl->Loc->Sto->Prop} {G D:Gh} {s:Shared}
structure StoreAt(C:Cx)(K:W.Frag)(c:Addr)(name:Str):Prop where
 kin:K.In C.base
 sa:W.findIn K (.ref c) "__setattr__"=some (some (.builtin "object.__setattr__"))
 po:W.plainOver K c=true
 ta:W.takerIn K c name=some none
 hd:(W.clsIn K c).any (·.hasDict)=true
theorem z7z{K:W.Frag}{c x dx:Addr}{ob:Obj}{fs:List (Str×V)}{name:Str}{X:V}{v:Value}{A:Around}{Z:Unit->Shared->Prop}{E:Value->Shared->Prop}(hM:StoreAt C K c name)
  (U:∀o',Upd x ob (.inst c dx fs) o' (.inst c dx (fs++[(name,X)])) σ (σ' o')) (hn:fs.lookup name=none) (hz:fs.length<=100) (R:RelC C G D σ s) (hv:VR C.w D v X)
  (q:∀o' s',RelC C G D (σ' o') s'->Z () s'):wpAny C.M A (setAttr (.ref x) name v) Z E s:=by
 have hm:(x,ob,AO.inst c dx fs)∈σ:=(U ob).mem
 have X0:=hM.kin.keeps R.baseIn
 have I:=z4j R hm
 obtain⟨hx,hdx⟩:s.heap.get? x=some (y0V c dx)/\s.heap.get? dx=some ob:=R.pl _ hm
 obtain⟨es,n,rfl,hr⟩:∃es n,ob=z1Z es n/\FR C.w D es.toList fs:=R.sto _ hm
 obtain⟨cd,hc,hd'⟩:=W.any_some hM.hd
 refine W.set_plain X0 I hM.sa (W.osa_open (s:={s with toks:=s.toks+1}) X0 I hM.po hM.ta λb=> ?_)
 refine wpAny_bind (wpAny_pure (wpAny_bind (wpAny_bind (wpAny_loadPart hx (wpAny_bind (W.Looks.here (s:={s with toks:=s.toks+1}) (W.looks_clsIn X0 hc) ?_))))))
 rw[hd']
 refine wpAny_pure (a:=some dx) (wpAny_bind (wpAny_pure (wpAny_bind ?_)))
 unfold nsSet
 refine wpAny_bind (wpAny_bind (wpAny_askSetting (wpAny_pure (wpAny_bind (wpAny_mkText (wpAny_bind (wpAny_loadPart hdx ?_)))))))
 dsimp only
 have hL:=FR.look (name:=name) hr
 have c1:(!es.any (·.key.isStr name)&&es.any (·.refKey))=false:=by
  rw[<-Array.any_toList,<-Array.any_toList,hL.1,Bool.and_false]
 rw[aRefKeyMayBeTheName_at,c1]
 refine wpAny_updatePart hdx ?_
 have ef:Obj.putName name (PyData.keyHash C.w.params name) (.str name (s.toks+1)) v (z1Z es n)=W.dictOf (W.putL name (hashStr C.w name) (.str name (s.toks+1)) v es.toList) (W.putN name es.toList n):=by
  have:=W.putName_dict name (PyData.keyHash C.w.params name) (.str name (s.toks+1)) v es.toList n
  have e0:W.dictOf es.toList n=z1Z es n:=by show({cls:=_,data:= .dict es.toList.toArray n}:Obj)=_;rw[Array.toArray_toList]
  rw[e0] at this
  exact this
 have hr':=FR.put (t:=s.toks+1) hv hr hn
 have hself:=Heap.get?_update_self (Obj.putName name (PyData.keyHash C.w.params name) (.str name (s.toks+1)) v) hdx (by rw[ef];rfl)
 rw[ef] at hself
 have hne:x≠dx:=by
  obtain⟨u,w,e,_⟩:=(U (z1Z es n)).split
  have nd:=R.nd
  rw[e,z1f] at nd
  have:([x,dx]++foot w).Nodup:=(List.nodup_append.mp nd).2.1
  intro h;subst h
  simp at this
 refine wpAny_bind (wpAny_lookBehind hself (by
  refine pastItsLine_dict ?_
  rw[List.size_toArray,hr'.len,sizeLine_eq];simp;lia) ?_)
 refine wpAny_pure (q _ _ (R.upd (U _) (s.toks+2) (b:=dx) (by simp[z0F]) (Heap.SameBut.update ..) rfl ⟨?_,hself⟩ ⟨_,_,rfl,by simpa using hr'⟩))
 rw[Heap.get?_update_ne _ _ _ _ hne];exact hx
theorem z9p{K:W.Frag}{c:Addr}{o value:Expr}{name:Str}{p' p:Pos}(hM:StoreAt C K c name)
  (h:AT C env vars gl own d (eval value env) m σ λX σ₁=>AT C env vars gl own d (eval o env) m σ₁ λY σ₂=>∃x dx fs,Y= .ref x/\At σ₂ x (.inst c dx fs)/\fs.lookup name=none/\fs.length<=100/\∀σ',UpdS σ₂ σ' x (.inst c dx (fs++[(name,X)]))->QS .next m σ')
  (hs:autoParam (swapsWith value (some (.Attribute o name p')) p.line env=pure false) auR):AS C env vars gl own d (exec (.Assign [.Attribute o name p'] value p) env) m σ QS:=λA G D s hA R=>
 plainObj_wpAny_Assign_Attribute (h.run hA R λv s₁ X D₁ σ₁ a b c₁ e=>e.run hA c₁ λu s₂ Y D₂ σ₂ a' b' c₂ hpp=>by
  obtain⟨x,dx,fs,hY,hat,hn,hz,q⟩:=hpp
  subst hY;cases b'
  obtain⟨ob,σ',U,US⟩:=hat.upd (.inst c dx (fs++[(name,X)]))
  exact z7z hM U hn hz c₂.lifted (b.mono a'.sub) λo' s' R'=>⟨.next,m,D₂,_,a.trans a',trivial,c₂.back R' (DX.refl _ _),q _ (US o')⟩) hs
structure ClassAt(C:Cx)(K:W.Frag)(c f:Addr):Prop where
 kin:K.In C.base
 mks:W.makesIn K c=true
 ini:W.findIn K (.ref c) "__init__"=some (some (.ref f))
 ty:W.typeIn K (.ref f)=some (.type "function")
 kp:W.keepIn K (.ref c)=true
theorem AOk.underC{C:Cx}{A:Around}{d:Nat}{c:Addr}{rest:List Value}(h:AOk C A (d+1)):AOk C (A.under (.builtin "type.__call__" ⟨.ref c::rest,[]⟩)) d:=by
 have e1:(Code.builtin "type.__call__" ⟨.ref c::rest,[]⟩).weight=1:=rfl
 have e2:(Code.builtin "type.__call__" ⟨.ref c::rest,[]⟩).cUnits=1:=rfl
 refine⟨h.h,h.fr,?_,?_⟩
 ·have:=h.depth
  show A.depth+(Code.builtin "type.__call__" ⟨.ref c::rest,[]⟩).weight+d<1000
  rw[e1];lia
 ·have:=h.units
  show A.units+(Code.builtin "type.__call__" ⟨.ref c::rest,[]⟩).cUnits+8*d<9000
  rw[e2];lia
theorem RelC.newI(R:RelC C G D σ s)(c:Addr):RelC C G D ((s.heap.objs.size+1,W.emptyDict,.inst c s.heap.objs.size [])::σ) {s with heap:=(s.heap.push W.emptyDict).push (W.instObj c s.heap.objs.size)}:=by
 have R':=(R.push W.emptyDict).push (W.instObj c s.heap.objs.size)
 have hsz:(s.heap.push W.emptyDict).objs.size=s.heap.objs.size+1:=PyProof.Rows.size_push' _ _
 have hx:((s.heap.push W.emptyDict).push (W.instObj c s.heap.objs.size)).get? (s.heap.objs.size+1)=some (W.instObj c s.heap.objs.size):=by rw[<-hsz];exact Heap.get?_push_size _ rfl
 have hdx:((s.heap.push W.emptyDict).push (W.instObj c s.heap.objs.size)).get? s.heap.objs.size=some W.emptyDict:=Heap.get?_push_of_some _ (Heap.get?_push_size _ rfl)
 have lt:∀b o,s.heap.get? b=some o->b≠s.heap.objs.size/\b≠s.heap.objs.size+1:=λb o e=>by
  have:=Heap.lt_size e
  exact⟨Nat.ne_of_lt this,Nat.ne_of_lt (Nat.lt_succ_of_lt this)⟩
 have nG:∀b,(b=s.heap.objs.size+1∨b=s.heap.objs.size)->G b=none/\D b=none/\b∉foot σ:=λb hb=>⟨by
   cases e:G b with
   |none=>rfl
   |some o=>obtain⟨o',h,_⟩:=R.g _ _ e;exact(hb.elim (lt b o' h).2 (lt b o' h).1).elim,by
   cases e:D b with
   |none=>rfl
   |some o=>exact(hb.elim (lt b o (R.d _ _ e)).2 (lt b o (R.d _ _ e)).1).elim,λhf=>by
   obtain⟨o,e⟩:=R.footLives hf
   exact hb.elim (lt b o e).2 (lt b o e).1⟩
 refine⟨R'.same,R'.bs,R'.g,R'.d,R'.base,?_,λa ha=> ?_,λa ha=> ?_,λp hp=> ?_,λp hp=> ?_⟩
 ·show([s.heap.objs.size+1,s.heap.objs.size]++foot σ).Nodup
  refine List.nodup_cons.mpr ⟨λhm=> ?_,List.nodup_cons.mpr ⟨(nG _ (.inr rfl)).2.2,R.nd⟩⟩
  rcases List.mem_cons.mp hm with e|e
  ·lia
  ·exact(nG _ (.inl rfl)).2.2 e
 ·have:a∈[s.heap.objs.size+1,s.heap.objs.size]++foot σ:=ha
  rcases List.mem_append.mp this with h|h
  ·exact(nG a (by simpa using h)).1
  ·exact R.offG a h
 ·have:a∈[s.heap.objs.size+1,s.heap.objs.size]++foot σ:=ha
  rcases List.mem_append.mp this with h|h
  ·exact(nG a (by simpa using h)).2.1
  ·exact R.offD a h
 ·rcases List.mem_cons.mp hp with rfl|h
  ·exact⟨hx,hdx⟩
  ·exact R'.pl p h
 ·rcases List.mem_cons.mp hp with rfl|h
  ·exact⟨#[],0,rfl,trivial⟩
  ·exact R'.sto p h
theorem y3c{K:W.Frag}{c f:Addr}{xs:List V}(hM:ClassAt C K c f)
  (h:∀x dx o,Fresh σ x->CW C d (.ref f) (.ref x::xs) ((x,o,.inst c dx [])::σ) λr σ'=>r= .none/\P (.ref x) σ'):CW C (d+1) (.ref c) xs σ P:=λA G D s vs hA R hv=>by
 have X0:=hM.kin.keeps R.baseIn
 obtain⟨hh,g,dr,t,os⟩:=s
 refine W.make_core (W.makes_of X0 hM.mks) (W.looks_findIn X0 hM.ini) (λself=>W.bind_fn X0 self hM.ty) (.inl rfl) ?_
 have hfr:Fresh σ (hh.objs.size+1):=λp hp e=>by
  have:=R.footLt (z12 hp)
  rw[e] at this
  exact absurd this (Nat.not_lt.mpr (Nat.le_succ _))
 have R2:=R.newI c
 refine codeAny_mono (h (hh.objs.size+1) hh.objs.size W.emptyDict hfr _ G D _ (.ref (hh.objs.size+1)::vs) hA.underC R2 (.cons (.ref _) hv)) λr s' q=> ?_
 cases r with
 |error e=>exact q.elim
 |ok fl=>
  cases fl<;>first|exact q.elim|skip
  obtain⟨x,D',σ',dx,hx,R',rfl,q⟩:=q
  cases hx
  exact⟨rfl,⟨_,D',σ',dx,.ref _,R',q⟩⟩
theorem z9e{K:W.Frag}{c f:Addr}{x:Str}{np p:Pos}(hM:ClassAt C K c f)(h:AT C env vars gl own d (eval (.Name x np) env) m σ λF σ₁=>F= .ref c/\CW C d (.ref c) [] σ₁ P):
  AT C env vars gl own d (eval (.Call (.Name x np) [] [] p) env) m σ P:=λA G D s hA R=>
 wpAny_Call_ofName (h.run hA R λv s₁ F D₁ σ₁ a b c₁ hpp=>by
  obtain⟨hF,hk⟩:=hpp
  subst hF;apply VR.refE b
  exact W.callWith_K0 (hM.kin.keeps c₁.toRelC.baseIn) hM.kp (z0V a ((z4F hk).inF hA c₁ (.ref c) .nil)))
theorem z9f{K:W.Frag}{c f:Addr}{o:Expr}{name:Str}{ap p:Pos}(hM:MethAt C K c name f)
  (h:AT C env vars gl own d (eval o env) m σ λX σ₁=>∃x dx fs,X= .ref x/\At σ₁ x (.inst c dx fs)/\fs.lookup name=none/\KW C d (.ref f) [.ref x] σ₁ P)
  (hbase:autoParam (attributeBase o name env (eval o env)=eval o env) auR) (hline:autoParam ((ap.endLine==p.line)=true) auR):
  AT C env vars gl own d (eval (.Call (.Attribute o name ap) [] [] p) env) m σ P:=λA G D s hA R=>by
 rw[arm_eval_Call,hbase]
 refine wpAny_bind (h.run hA R λv s₁ X D₁ σ₁ a b c₁ hpp=> ?_)
 obtain⟨x,dx,fs,hX,⟨ob,hm⟩,hsh,hk⟩:=hpp
 subst hX
 apply VR.refE b
 refine wpAny_bind (wpAny_standAt ?_)
 have hform:methodCallForm (([]:List Expr).length+([]:List Keyword).length) (backTo p (starEach [] env)) (backToKw p (keywordEach [] env))=true:=rfl
 have hpos:methodCallPos true o env ap p=pure p:=by unfold methodCallPos;simp[hline]
 unfold methodCall
 rw[hform]
 obtain⟨es,n,rfl,hr⟩:=c₁.sto _ hm
 have hl:=(FR.look (name:=name) hr)
 have hshadow:W.shadowIn (some (z1Z es n)) name=some false:=by
  unfold W.shadowIn W.lookIn
  rcases hl.2 with⟨_,e2⟩|⟨_,_,e1,_,_⟩
  ·simp[e2,hl.1]
  ·rw[hsh] at e1;cases e1
 refine wpAny_bind (wpAny_holding (W.method_fn (hM.kin.keeps c₁.toRelC.baseIn) (z4j c₁.toRelC hm) hM.ga hM.gk hM.fn hM.ty hshadow ?_))
 refine wpAny_bind (wpAny_of_eq hpos ?_)
 refine z1c (F:= .ref f) hM.cal (.ref f) (D:=D₁) rfl (evalArgs_none ⟨c₁.toRelC.baseIn,z0V a (hk.inF hA c₁ (.ref f) (.cons (.ref x) .nil))⟩)
end
end
section
open PyProof.Rows (IntsAre StrsAre sortedS)
noncomputable def z1g(l:List Int):List Int:=l.mergeSort λa b=>decide (a<=b)
noncomputable def leS(a b:Str):Bool:= !decide (b.cps.toList<a.cps.toList)
noncomputable def z1n(l:List Str):List Str:=l.mergeSort leS
theorem z01(l:List Int):(z1g l).Perm l:=List.mergeSort_perm _ _
theorem z21(l:List Str):(z1n l).Perm l:=List.mergeSort_perm _ _
theorem z7o(l:List Int):(z1g l).Pairwise (·<=·):=by
 have:=List.pairwise_mergeSort (le:=λa b:Int=>decide (a<=b)) (by intro a b c;simp;lia) (by intro a b;simp;lia) l
 exact this.imp λh=>by simpa using h
theorem z9P{a b:List Int}(p:a.Perm b)(h:a.Pairwise (·<=·)):a=z1g b:=
 (p.trans (z01 b).symm).eq_of_pairwise (λx y _ _ h1 h2=>Int.le_antisymm h1 h2) h (z7o b)
theorem z5u{a b c:Str}(h1:leS a b=true)(h2:leS b c=true):leS a c=true:=by
 simp only[leS,Bool.not_eq_true',decide_eq_false_iff_not] at*
 exact List.le_trans h1 h2
theorem z9i(a b:Str):(leS a b||leS b a)=true:=by
 simp only[leS,Bool.or_eq_true,Bool.not_eq_true',decide_eq_false_iff_not]
 exact List.le_total a.cps.toList b.cps.toList
theorem z9J{a b:Str}(h1:leS a b=true)(h2:leS b a=true):a=b:=by
 simp only[leS,Bool.not_eq_true',decide_eq_false_iff_not] at*
 have:a.cps.toList=b.cps.toList:=List.le_antisymm h1 h2
 cases a;cases b;simp at this;simpa using this
theorem z6Y(l:List Str):(z1n l).Pairwise (λa b=>leS a b=true):=List.pairwise_mergeSort (le:=leS) (λ_ _ _=>z5u) z9i l
theorem risingS_pw:∀(p:Str) (l:List Str),PyProof.Rows.risingS p l=true->(p::l).Pairwise (λa b=>leS a b=true)
 |p,[],_=>List.pairwise_singleton _ _
 |p,x::r,h=>by
  have h':(!PySem.Spec.ltCps x.cps.toList p.cps.toList&&PyProof.Rows.risingS x r)=true:=h
  simp only[Bool.and_eq_true,PyProof.Rows.ltCps_eq] at h'
  have ih:=risingS_pw x r h'.2
  refine List.pairwise_cons.mpr ⟨λy hy=> ?_,ih⟩
  rcases List.mem_cons.mp hy with rfl|hy
  ·exact h'.1
  ·exact z5u h'.1 ((List.pairwise_cons.mp ih).1 y hy)
theorem sortedS_pw:∀(l:List Str),sortedS l=true->l.Pairwise (λa b=>leS a b=true)
 |[],_=> .nil
 |x::r,h=>risingS_pw x r h
theorem z3O{a b:List Str}(p:a.Perm b)(h:a.Pairwise (λa b=>leS a b=true)):a=z1n b:=
 (p.trans (z21 b).symm).eq_of_pairwise (λx y _ _ h1 h2=>z9J h1 h2) h (z6Y b)
theorem z5b{a b:List Str}(p:a.Perm b):z1n a=z1n b:=z3O ((z21 a).trans p) (z6Y a)
theorem VRs.ofInts{w:World}{D:Gh}{vs:List Value}{ns:List Int}(h:IntsAre vs ns):VRs w D vs (ns.map V.int):=by
 induction h with
 |nil=>exact .nil
 |cons n t _ ih=>exact .cons (.int _ _) ih
theorem VRs.ofStrs{w:World}{D:Gh}{vs:List Value}{ns:List Str}(h:StrsAre vs ns):VRs w D vs (ns.map V.str):=by
 induction h with
 |nil=>exact .nil
 |cons n t _ ih=>exact .cons (.str _ _) ih
theorem VRs.ints{w:World}{D:Gh}{vs:List Value}{ns:List Int}(h:VRs w D vs (ns.map V.int)):IntsAre vs ns:=by
 induction ns generalizing vs with
 |nil=>rw[VRs.nilI h];exact .nil
 |cons n ns ih=>
  apply VRs.consE h;intro _ _ h1 h2
  apply VR.intE h1;intro t
  exact .cons _ _ (ih h2)
theorem VRs.strs{w:World}{D:Gh}{vs:List Value}{ns:List Str}(h:VRs w D vs (ns.map V.str)):StrsAre vs ns:=by
 induction ns generalizing vs with
 |nil=>rw[VRs.nilI h];exact .nil
 |cons n ns ih=>
  apply VRs.consE h;intro _ _ h1 h2
  apply VR.strE h1;intro t
  exact .cons _ _ (ih h2)
section
variable {C:Cx} {env:Env} {vars:List Str} {gl:List (Str×V)} {own:Bool} {d:Nat} {m m':Loc} {σ:Sto} {Q:V->Sto->Prop} {QS:Fl->Loc->Sto->Prop} {G D:Gh} {s:Shared} {A:Around} {K:Type} [DecidableEq K]
theorem z6B(kk:KK C.prog C.w K):∀{l:List Value} {cvs:List (K×Value)},l.length=cvs.length->(∀(j:Nat) v,l[j]? =some v->∃k x,cvs[j]? =some (k,x)/\kk.knd.is k v=true)->VRs C.w D l (cvs.map λp=>kk.v p.1)
 |[],[],_,_=> .nil
 |v::l,p::cvs,hl,h=>by
  obtain⟨k,x,e,hk⟩:=h 0 v rfl
  simp at e;subst e
  exact .cons (kk.ofIs hk) (z6B kk (by simpa using hl) λj u hu=>by simpa using h (j+1) u (by simpa using hu))
 |[],_::_,h,_=>by simp at h
 |_::_,[],h,_=>by simp at h
theorem z8y [HM C](kk:KK C.prog C.w K){a:Addr}{kvs:List (K×V)}(hs:z0G C)(hm:At σ a (.dict (z0Y kk kvs)))(hn:(kvs.map (·.1)).Nodup)(hl:kvs.length<=sizeLine)(q:NLf Q (kvs.map λp=>kk.v p.1) σ):
  KW C d (.type "list") [.ref a] σ Q:=λA G D s v vs hA R hv hss=>by
 apply VR.typeE hv
 obtain⟨o,hm⟩:=hm
 apply VRs.consE hss;intro _ _ h1 h2
 ·skip
  apply VRs.nilE h2;apply VR.refE h1
  obtain⟨cvs,hD,hk⟩:=RelC.dcH R kk hm hn
  obtain⟨ep,hat⟩:=hD.dictAt
  refine W.kdl_call (W.kdl_dict (knd:=kk.knd) (kvs:=cvs) (ep:=ep) (R.notSys hs hm)) hA.hh hat (by rw[hk.length];exact hl) λh' tk acc' c' hk' hS hacc=> ?_
  refine R.madeL hk' (z7m _) hS (Xs:=kvs.map λp=>kk.v p.1) ?_ q
  have e1:(kvs.map λp=>kk.v p.1)=cvs.map λp=>kk.v p.1:=by
   have:=hk.keys
   have e2:=congrArg (List.map kk.v) this
   simpa[List.map_map,Function.comp_def] using e2.symm
  rw[e1]
  exact z6B kk (by rw[Array.length_toList];exact hacc.1) λj v e=>hacc.2 j v (by rw[<-Array.getElem?_toList];exact e)
theorem z1W{x:V}{xs:List V}{P:Sto->Prop}(h:Has σ x (.list xs) P)(hl:xs.length<=sizeLine)(q:NLf Q xs σ):KW C d (.type "list") [x] σ Q:=λA G D s v vs hA R hv hss=>by
 apply VR.typeE hv
 apply VRs.consE hss;intro _ _ h1 h2
 ·skip
  apply VRs.nilE h2
  apply Has.isListE h R h1;intro a ws n ho hr
  refine call_list_seq a (T:="list") (.inl rfl) ho rfl rfl (λh' c' hk hS=> ?_) (by rw[show ws.size=xs.length by rw[<-hr.length];simp];exact hl)
  have:=R.madeL (t:=s.toks) hk (z7m _) hS hr q
  exact this
theorem z3W{h:Heap}{a b:Addr}{vs:List Value}{out:Array Value}{o:Obj}(hb:b≠a)(e:h.get? b=some o):(PyProof.Rows.sortedHeap h a vs out).get? b=some o:=by
 rw[PyProof.Rows.sortedHeap_old hb (Heap.lt_size e)];exact e
theorem z4T(R:RelC C G D σ s){h':Heap}{t:Nat}{vs:List Value}{out:Array Value}{Xs:List V}(hk:∀b o,s.heap.get? b=some o->h'.get? b=some o)(h:VRs C.w D out.toList Xs)(q:NLf Q Xs σ):
  PostC C G D Q (.ref h'.objs.size) {s with heap:=PyProof.Rows.sortedHeap (h'.push (PyProof.Rows.seqObj "list" vs.toArray 0)) h'.objs.size vs out,toks:=t}:=by
 obtain⟨e,he⟩:=PyProof.Rows.sortedHeap_at (h:=h'.push (PyProof.Rows.seqObj "list" vs.toArray 0)) (a:=h'.objs.size) (vs:=vs) (n:=0) (out:=out) (Heap.get?_push_size _ rfl)
 refine R.madeL (λb o eb=> ?_) ?_ he h q
 rotate_left
 ·cases e0:s.heap.get? h'.objs.size with
  |none=>rfl
  |some o=>exact absurd (Heap.lt_size (hk _ _ e0)) (Nat.lt_irrefl _)
 have hb:=hk b o eb
 exact z3W (Nat.ne_of_lt (Heap.lt_size hb)) (Heap.get?_push_of_some _ hb)
theorem z7O [HM C]{a:Addr}{kvs:List (Int×V)}(hs:z0G C)(hm:At σ a (.dict (z0Y (KK.int C.prog C.w) kvs)))(hn:(kvs.map (·.1)).Nodup)(hl:kvs.length<64)(q:NLf Q ((z1g (kvs.map (·.1))).map V.int) σ):
  KW C d (.bi "sorted") [.ref a] σ Q:=λA G D s v vs hA R hv hss=>by
 apply VR.biE hv
 obtain⟨o,hm⟩:=hm
 apply VRs.consE hss;intro _ _ h1 h2
 ·skip
  apply VRs.nilE h2;apply VR.refE h1
  obtain⟨cvs,hD,hk⟩:=RelC.dcH R (KK.int C.prog C.w) hm hn
  obtain⟨ep,hat⟩:=hD.dictAt
  refine Calls.call_function_entry PyProof.Rows.kind_sorted PyProof.Rows.plain_sorted PyProof.Rows.entry_sorted (PyProof.Rows.args_sorted1 _) ?_
  unfold Builtin.«sorted»
  refine wpAny_bind (m:=checkCount "sorted" 1 1 _) (wpAny_pure ?_)
  refine wpAny_bind (W.kdu_collect (A:=A.in1) (W.kdl_dict (knd:=intKind C.prog C.w) (kvs:=cvs) (ep:=ep) (R.notSys hs hm)) hA.hh hat (by rw[hk.length];exact Nat.le_of_lt (Nat.lt_of_lt_of_le hl (by decide))) λh' tk acc hk' hacc=> ?_)
  have hlen:acc.toList.length=cvs.length:=by rw[Array.length_toList];exact hacc.1
  refine wpAny_bind (wpAny_newList ?_ (by rw[hlen,hk.length];exact Nat.le_of_lt (Nat.lt_of_lt_of_le hl (by decide))))
  have hI:IntsAre acc.toList (kvs.map (·.1)):=by
   have:=z6B (D:=D) (KK.int C.prog C.w) hlen λj v e=>hacc.2 j v (by rw[<-Array.getElem?_toList];exact e)
   have e1:(cvs.map λp=>(KK.int C.prog C.w).v p.1)=(kvs.map (·.1)).map V.int:=by rw[<-hk.keys,List.map_map];rfl
   rw[e1] at this;exact this.ints
  have hoL:(h'.push (PyProof.Rows.seqObj "list" acc.toList.toArray 0)).get? h'.objs.size=some (PyProof.Rows.seqObj "list" acc.toList.toArray 0):=Heap.get?_push_size _ rfl
  refine wpAny_bind (wpAny_holding (wpAny_call_entry PyProof.Rows.slot_list_sort ⟨_,hoL,rfl⟩ PyProof.Rows.entry_list_sort (PyProof.Rows.list_sort_tree hoL hI (by rw[hlen,hk.length];exact hl) λout ns' a1 a2 a3=>⟨_,rfl,?_⟩) (PyProof.Rows.args_list_sort _)))
  refine wpAny_pure ⟨_,rfl,?_⟩
  refine z4T R hk' (VRs.ofInts a1) ?_
  rw[z9P a2 a3];exact q
theorem z73 [HM C]{a:Addr}{kvs:List (Str×V)}(hs:z0G C)(hm:At σ a (.dict (z0Y (KK.str C.prog C.w) kvs)))(hn:(kvs.map (·.1)).Nodup)(hl:kvs.length<64)(q:NLf Q ((z1n (kvs.map (·.1))).map V.str) σ):
  KW C d (.bi "sorted") [.ref a] σ Q:=λA G D s v vs hA R hv hss=>by
 apply VR.biE hv
 obtain⟨o,hm⟩:=hm
 apply VRs.consE hss;intro _ _ h1 h2
 ·skip
  apply VRs.nilE h2;apply VR.refE h1
  obtain⟨cvs,hD,hk⟩:=RelC.dcH R (KK.str C.prog C.w) hm hn
  obtain⟨ep,hat⟩:=hD.dictAt
  refine Calls.call_function_entry PyProof.Rows.kind_sorted PyProof.Rows.plain_sorted PyProof.Rows.entry_sorted (PyProof.Rows.args_sorted1 _) ?_
  unfold Builtin.«sorted»
  refine wpAny_bind (m:=checkCount "sorted" 1 1 _) (wpAny_pure ?_)
  refine wpAny_bind (W.kdu_collect (A:=A.in1) (W.kdl_dict (knd:=strKind C.prog C.w) (kvs:=cvs) (ep:=ep) (R.notSys hs hm)) hA.hh hat (by rw[hk.length];exact Nat.le_of_lt (Nat.lt_of_lt_of_le hl (by decide))) λh' tk acc hk' hacc=> ?_)
  have hlen:acc.toList.length=cvs.length:=by rw[Array.length_toList];exact hacc.1
  refine wpAny_bind (wpAny_newList ?_ (by rw[hlen,hk.length];exact Nat.le_of_lt (Nat.lt_of_lt_of_le hl (by decide))))
  have hI:StrsAre acc.toList (kvs.map (·.1)):=by
   have:=z6B (D:=D) (KK.str C.prog C.w) hlen λj v e=>hacc.2 j v (by rw[<-Array.getElem?_toList];exact e)
   have e1:(cvs.map λp=>(KK.str C.prog C.w).v p.1)=(kvs.map (·.1)).map V.str:=by rw[<-hk.keys,List.map_map];rfl
   rw[e1] at this;exact this.strs
  have hoL:(h'.push (PyProof.Rows.seqObj "list" acc.toList.toArray 0)).get? h'.objs.size=some (PyProof.Rows.seqObj "list" acc.toList.toArray 0):=Heap.get?_push_size _ rfl
  refine wpAny_bind (wpAny_holding (wpAny_call_entry PyProof.Rows.slot_list_sort ⟨_,hoL,rfl⟩ PyProof.Rows.entry_list_sort (PyProof.Rows.list_sort_treeK PyProof.Rows.strKind_oneLt hoL hI.keysOf (λv₁ v₂ rest e=>PyProof.Rows.keyKind_strs (by rw[<-e];exact hI)) (by rw[hlen,hk.length];exact hl) λst' hp hst=>⟨_,rfl,?_⟩) (PyProof.Rows.args_list_sort _)))
  refine wpAny_pure ⟨_,rfl,?_⟩
  obtain⟨ss',a1,a2,a3⟩:=PyProof.Rows.sorted_out_str hI hp hst
  refine z4T R hk' (VRs.ofStrs a1) ?_
  rw[z3O a2 (sortedS_pw _ a3)];exact q
theorem z4v{x:V}{ns:List Str}{P:Sto->Prop}(h:Has σ x (.list (ns.map V.str)) P)(hl:ns.length<64)(q:NLf Q ((z1n ns).map V.str) σ):KW C d (.bi "sorted") [x] σ Q:=λA G D s v vs hA R hv hss=>by
 apply VR.biE hv
 apply VRs.consE hss;intro _ _ h1 h2
 ·skip
  apply VRs.nilE h2
  apply Has.isLE h R h1;intro a ws hL hr
  have hI:=hr.strs
  refine PyProof.Rows.sorted_strs (vs:=ws.toList) (by simpa using hL) hI (by have:=hr.length;simp at this⊢;lia) λout ns' a1 a2 a3=> ?_
  obtain⟨e,he⟩:=PyProof.Rows.sortedAll_at s.heap ws.toList out
  have:=R.madeL (t:=s.toks) (λb o=>PyProof.Rows.sortedAll_old) (by
   cases e0:s.heap.get? (s.heap.objs.size+1) with
   |none=>rfl
   |some o=>exact absurd (Heap.lt_size e0) (Nat.not_lt.mpr (Nat.le_succ _))) he (VRs.ofStrs a1) (by rw[z3O a2 (sortedS_pw _ a3)];exact q)
  exact this
theorem z9U{a:Addr}{xs:List V}(hm:At σ a (.list xs))(hl:xs.length<=sizeLine)(q:∀σ',UpdS σ σ' a (.list [])->Q .none σ'):KW C d (.bi "list.clear") [.ref a] σ Q:=λA G D s v vs hA R hv hss=>by
 apply VR.biE hv
 obtain⟨o,σ',U,US⟩:=hm.upd (.list [])
 apply VRs.consE hss;intro _ _ h1 h2
 ·skip
  apply VRs.nilE h2;apply VR.refE h1
  obtain⟨ws,n,rfl,hr⟩:∃ws n,o=z0p ws n/\VRs C.w D ws.toList xs:=R.sto _ (U o).mem
  have ho:s.heap.get? a=some (z0p ws n):=R.pl _ (U (z0p ws n)).mem
  refine call_meets F.slot_list_clear ⟨_,ho,rfl⟩ F.entry_list_clear (F.args_list_clear_1 _) (AutoSeq1.list_clear_list_0 a ws n (by rw[show ws.size=xs.length by rw[<-hr.length];simp];exact hl)) ⟨ho,?_⟩
  have h1:=PyProof.Rows.get?_update_seq (c:="list") ho (λ_=> #[])
  have:=R.upd (U _) s.toks (z0u _ _) (Heap.SameBut.update ..) rfl h1 ⟨#[],_,rfl,.nil⟩
  exact⟨.none,D,_,DX.refl _ _,.none,this,q _ (US _)⟩
end
end
section
open PyProof.Rows (IntsAre StrsAre)
section
variable {C:Cx} {env:Env} {vars:List Str} {gl:List (Str×V)} {own:Bool} {d:Nat} {m m':Loc} {σ:Sto} {Q:V->Sto->Prop} {QS:Fl->Loc->Sto->Prop} {P:Bool->Sto->Prop} {G D:Gh} {s:Shared} {A:Around} {K:Type} [DecidableEq K]
theorem RelF.drop(R:RelF C env vars gl own G D m σ s){τ:Sto}(hs:τ.Sublist σ):RelF C env vars gl own G D m τ s:=R.back (R.lifted.drop hs) (DX.refl _ _)
theorem y1P{t:Sem Bool}(h:AB C env vars gl own d t m σ λb σ'=>∃τ,τ.Sublist σ'/\P b τ):AB C env vars gl own d t m σ P:=λA G D s hA R=>
 h.run hA R λb s' D' σ' a c hpp=>by obtain⟨τ,hs,q⟩:=hpp;exact⟨D',τ,a,c.drop hs,q⟩
theorem AOk.line0{A:Around}{d:Nat}(h:AOk C A d):A.units<cLine:=by have:=h.units;show A.units<9900;lia
theorem y38(kk:KK C.prog C.w K){a b:Addr}{kvs:List (K×V)}(hs:z0G C)(ha:At σ a (.dict (z0Y kk kvs)))(hn:(kvs.map (·.1)).Nodup)(hb:At σ b (.dict []))(q:Q (.bool kvs.isEmpty) σ):
  AC2 C d (compareOp .Eq) (.ref a) (.ref b) σ Q:=λA G D s v u hA R hv hu=>by
 obtain⟨oa,ha⟩:=ha;obtain⟨ob,hb⟩:=hb
 obtain⟨_,cvs,e,hD,hk⟩:=(Has.refD ha).isD kk hn R hv
 obtain⟨_,cv2,e2,hD2,hk2⟩:=Has.isD (x:= .ref b) (kvs:=[]) kk (Has.refD hb) .nil R hu
 obtain rfl:=VR.refI hv;obtain rfl:=VR.refI hu;cases e;cases e2;cases hk2
 refine W.keq_eq (r:=true) (R.notSys hs ha) (R.notSys hs hb) hD hD2 hA.line0 (λhl=> ?_) (PostC.now R (.bool _) ?_)
 ·cases cvs with
  |nil=>exact .nil
  |cons _ _=>simp at hl
 ·have:(cvs.length==([]:List (K×Value)).length&&true)=kvs.isEmpty:=by rw[hk.length];cases kvs<;>simp
  rw[this];exact q
theorem y2q(kk:KK C.prog C.w K){a b:Addr}{kvs:List (K×V)}(hs:z0G C)(ha:At σ a (.dict (z0Y kk kvs)))(hn:(kvs.map (·.1)).Nodup)(hb:At σ b (.dict []))(q:Q (.bool (!kvs.isEmpty)) σ):
  AC2 C d (compareOp .NotEq) (.ref a) (.ref b) σ Q:=λA G D s v u hA R hv hu=>by
 obtain⟨oa,ha⟩:=ha;obtain⟨ob,hb⟩:=hb
 obtain⟨_,cvs,e,hD,hk⟩:=(Has.refD ha).isD kk hn R hv
 obtain⟨_,cv2,e2,hD2,hk2⟩:=Has.isD (x:= .ref b) (kvs:=[]) kk (Has.refD hb) .nil R hu
 obtain rfl:=VR.refI hv;obtain rfl:=VR.refI hu;cases e;cases e2;cases hk2
 refine W.keq_ne (r:=true) (R.notSys hs ha) (R.notSys hs hb) hD hD2 hA.line0 (λhl=> ?_) (PostC.now R (.bool _) ?_)
 ·cases cvs with
  |nil=>exact .nil
  |cons _ _=>simp at hl
 ·have:(cvs.length==([]:List (K×Value)).length&&true)=kvs.isEmpty:=by rw[hk.length];cases kvs<;>simp
  rw[this];exact q
theorem y2Y(kk:KK C.prog C.w K){l:Expr}{p p':Pos}{whole:Sem Value}(hs:z0G C)(h:AT C env vars gl own d (eval l env) m σ λX σ₁=>∃a kvs,X= .ref a/\At σ₁ a (.dict (z0Y kk kvs))/\(kvs.map (·.1)).Nodup/\P (!kvs.isEmpty) σ₁):
  AB C env vars gl own d (isTrue (.Compare l [.NotEq] [.Dict [] [] p'] p) env whole) m σ P:=
 y1P (z1x (h.mono λX σ₁ hpp=>by obtain⟨a,kvs,hX,hat,hn,q⟩:=hpp;exact z3w λb o hf=>by subst hX;exact y2q kk hs (hat.cons _) hn .hd (z0j ⟨σ₁,List.sublist_cons_self _ _,q⟩)))
theorem z7v(kk:KK C.prog C.w K){ke ve:Expr}{p:Pos}(h:∀a o,Fresh σ a->AT C env vars gl own d (eval ke env) m ((a,o,.dict [])::σ) λX σ₁=>AT C env vars gl own d (eval ve env) m σ₁ λY σ₂=>
   ∃k,X=kk.v k/\σ₂=(a,o,.dict [])::σ/\∀o',Q (.ref a) ((a,o',.dict (z0Y kk [(k,Y)]))::σ)):
  AT C env vars gl own d (eval (.Dict [some ke] [ve] p) env) m σ Q:=λA G D s hA R=>by
 refine wpAny_Dict_pairs (knd:=kk.knd) (pairs:=[(eval ke env,do let x <-eval ve env;standAt p;pure x)]) rfl (by simp) (by simp) ?_
 have R₁:RelF C env vars gl own G D m ((s.heap.objs.size,z1Z #[] 0,.dict [])::σ) {s with heap:=s.heap.push (z1Z #[] 0)}:=
  R.back (R.lifted.newM (z1Z #[] 0) (.dict []) ⟨#[],0,rfl,.nil⟩ rfl (λ_ _=>rfl)) (DX.refl _ _)
 refine evalPairs_cons ((h _ _ R.toRelC.fresh).run hA R₁ λv s₁ X D₁ σ₁ a b c e=> ?_)
 refine wpAny_bind (e.run hA c λu s₂ Y D₂ σ₂ a' b' c' hpp=> ?_)
 obtain⟨k,hX,hσ,q⟩:=hpp
 refine wpAny_bind (wpAny_standAt (wpAny_pure (evalPairs_nil ?_)))
 subst hX hσ
 have ho:s₂.heap.get? s.heap.objs.size=some (z1Z #[] 0):=c'.pl _ (.head _)
 refine⟨[(k,u)],⟨kk.isOf (b.mono a'.sub),rfl,trivial⟩,⟨_,#[],0,ho,⟨rfl,rfl,rfl⟩,rfl,λe he=>by simp at he,.nil,.nil⟩,λh' hD' hs'=> ?_⟩
 have hm:merged ([]:List (K×Value)) [(k,u)]=[(k,u)]:=by simp[merged,stored]
 rw[hm] at hD'
 obtain⟨o',ho',hr'⟩:=HR.ofDict kk hD' (kvs:=[(k,Y)]) (.cons b' .nil)
 exact⟨.ref _,D₂,_,a.trans a',.ref _,c'.back (c'.lifted.upd (Upd.head (o':=o') (x':= .dict (z0Y kk [(k,Y)]))) _ (z0u _ _) hs' rfl ho' hr') (DX.refl _ _),q o'⟩
theorem z3x{x:V}{xs:List Str}{k:Str}{P:Sto->Prop}(h:Has σ x (.list (xs.map V.str)) P)(q:Q (.bool (!(xs.any (·==k)))) σ):AC2 C d (compareOp .NotIn) (.str k) x σ Q:=λA G D s v u hA R hv hu=>by
 apply Has.isLE h R hu;intro a ws hL hr
 apply VR.strE hv;intro _
 exact PyProof.Rows.notin_list_strs (vs:=ws.toList) (by simpa using hL) hr.strs (PostC.now R (.bool _) q)
theorem IW.ofWalksT{elts:List Expr}{k:Nat}{pos:Pos}{I:Addr}{fp wr:List Addr}{n:Nat}{Pw:Nat->Array Value->Prop}{St:Nat->Heap->Prop}{Mid:Nat->Addr->Heap->Prop}{xs:List V}(W:WalksT C.prog C.w A I fp wr n Pw St Mid)(hn:n=xs.length)
  (hx:∀(i:Nat) vals X,Pw i vals->xs[i]? =some X->∃Xs,X= .tup Xs/\VRs C.w D vals.toList Xs) (hl:∀i h,St i h->∀a∈wr,∃o,h.get? a=some o/\¬frk o)
  (hold:∀b∈fp,b∉wr->∀h:Heap,St 0 h->h.get? b=none->False):IW C A (.Tuple elts k pos) I fp wr D xs St where
 live:=hl
 sub:=W.sub
 old:=hold
 frame:=W.frame
 item:=λi X s K hX st h=>W.item i s K _ (by rw[hn];exact(List.getElem?_eq_some_iff.mp hX).1) st λT vals h' tk hP hT ht hM hk=>h (.ref T) _ λQ' q=>by
  obtain⟨Xs,rfl,hv⟩:=hx i vals X hP hX
  refine W.go elts k pos i T _ Q' _ hM λh'' st' hk'=> ?_
  obtain⟨o,ho,hc,n',hd⟩:=ht
  exact q h'' tk (.inr ⟨T,o,vals.toList,n',Xs,rfl,rfl,hv,hT,hk' T o (W.apart _ _ _ hM) ho,hc,by simpa using hd⟩) st' λb ob hb e=>hk' b ob hb (hk b ob hb e)
 self:=λi s K st h=>W.self i s K _ st h
 done:=λs K st h=>W.done s K _ (by rw[hn];exact st) λh' tk hk=>h h' tk hk
noncomputable def z3r(xs:List V):List V:=xs.zipIdx.map λp=>V.tup [.int p.2,p.1]
variable {QI:List V->(Sto->Prop)->Sto->Prop}
theorem y18 [HM C]{np p:Pos}{e:Expr}{elts:List Expr}{k:Nat}{pos:Pos}(h:AT C env vars gl own d (eval (.Name "enumerate" np) env) m σ λF σ₁=>F= .type "enumerate"/\AL C env vars gl own d (spliced (backTo p (starEach [e] env))) m σ₁ λXs σ₂=>∃X xs P,Xs=[X]/\Has σ₂ X (.list xs) P/\QI (z3r xs) P σ₂)
  (he:autoParam (starEach [e] env=(false,eval e env)::starEach [] env) auR) (hplain:autoParam ((backTo p (starEach [] env)).any (·.1)=false) auR):
  AI C env vars gl own d (.Call (.Name "enumerate" np) [e] [] p) (.Tuple elts k pos) m σ QI:=λA G D s hA R=>by
 refine wpAny_Call_ofName (h.run hA R λv s₁ F D₁ σ₁ a b c hpp=> ?_)
 obtain⟨hF,hk⟩:=hpp
 subst hF
 refine z1c (F:= .type "enumerate") trivial b (by rw[he];exact hplain) ?_
 rw[he] at hk⊢
 refine Calls.evalArgs_plain (AL.run hk hA c λvs s₂ Xs D₂ σ₂ a' b' c' hpp=> ?_)
 obtain⟨X,xs,P,hX,hH,q⟩:=hpp
 refine⟨c'.toRelC.baseIn,?_⟩
 subst hX
 apply VR.typeE b
 apply VRs.consE b';intro _ _ h1 h2
 ·skip
  apply VRs.nilE h2
  apply Has.runLE hH c'.toRelC h1;intro ax ws n ho hr hP hst
  refine call_enumerate_1 ho λh' hen hit hsz hkp=>wpAny_pyIter_enum hen ?_
  have hlt:=Heap.lt_size ho
  have hl:h'.IsList ax ws:=⟨_,hkp _ _ ho,rfl,n,rfl⟩
  have R':RelF C env vars gl own G D₂ m σ₂ {s₂ with heap:=h'}:=by
   have:=R.ok
   exact c'.back (c'.lifted.keep s₂.toks hkp) (DX.refl _ _)
  have offn:∀b,s₂.heap.objs.size<=b->G b=none/\D₂ b=none/\b∉foot σ₂/\¬z2j env vars b:=λb hb=>⟨by
    cases e:G b with
    |none=>rfl
    |some o=>obtain⟨_,h,_⟩:=c'.g _ _ e;exact absurd (Heap.lt_size h) (Nat.not_lt.mpr hb),by
    cases e:D₂ b with
    |none=>rfl
    |some o=>exact absurd (Heap.lt_size (c'.d _ _ e)) (Nat.not_lt.mpr hb),λhf=>absurd (c'.toRelC.footLt hf) (Nat.not_lt.mpr hb),λhm=>by
    obtain⟨o,eo⟩:=c'.mineLives hm
    exact absurd (Heap.lt_size eo) (Nat.not_lt.mpr hb)⟩
  refine⟨D₂,σ₂,z3r xs,P,a.trans a',⟨s₂.heap.objs.size+1,_,_,_,rfl,IW.ofWalksT (WalksT.enumerate hA.hh (s₂.heap.objs.size+1) s₂.heap.objs.size ax (Nat.succ_ne_self _) (Nat.ne_of_lt (Nat.lt_succ_of_lt hlt)) (Nat.ne_of_lt hlt) ws) (by simp[z3r];rw[<-hr.length];simp) ?_ ?_ ?_,⟨⟨_,hen⟩,hit,hl⟩,R',?_,hP,?_⟩,q⟩
  ·rintro i vals X ⟨t,x,hx,rfl⟩ hX
   have h3:∃Y,xs[i]? =some Y/\X= .tup [.int i,Y]:=by
    simp only[z3r,List.getElem?_map,List.getElem?_zipIdx,Nat.zero_add] at hX
    cases e3:xs[i]? with
    |none=>rw[e3] at hX;simp at hX
    |some Y=>rw[e3] at hX;simp at hX;exact⟨Y,rfl,hX.symm⟩
   obtain⟨Y,hY,rfl⟩:=h3
   obtain⟨u',e',r⟩:=hr.get hY
   rw[Array.getElem?_toList,hx] at e';cases e'
   exact⟨_,rfl,.cons (.int _ _) (.cons r .nil)⟩
  ·rintro i h ⟨⟨old,he1⟩,⟨o1,ho1,hc1,_⟩,_⟩ b hb
   simp at hb
   rcases hb with rfl|rfl
   ·exact⟨_,he1,nfC (frN (by decide))⟩
   ·exact⟨_,ho1,nfC (by rw[hc1];exact frN (by decide))⟩
  ·rintro b hb hbw h ⟨_,_,⟨o1,ho1,_⟩⟩ e1
   simp at hb hbw
   rcases hb with rfl|rfl|rfl
   ·exact hbw.1 rfl
   ·exact hbw.2 rfl
   ·rw[ho1] at e1;cases e1
  ·intro b hb
   simp at hb
   rcases hb with rfl|rfl
   ·exact offn _ (Nat.le_succ _)
   ·exact offn _ (Nat.le_refl _)
  ·intro G' D' σ' s' Rx hsb hP' b hb hbw o' e1
   simp at hb hbw
   rcases hb with rfl|rfl|rfl
   ·exact absurd rfl hbw.1
   ·exact absurd rfl hbw.2
   ·have e2:h'.get? b=some o':=e1
    rw[hkp _ _ ho] at e2;cases e2;exact hst G' D' σ' s' Rx hsb hP'
end
end
section
section
variable {C:Cx} {d:Nat} {σ:Sto} {Q:V->Sto->Prop} {K:Type} [DecidableEq K]
theorem y2B(kk:KK C.prog C.w K){a:Addr}{o:Obj}{kvs:List (K×V)}{k:K}(hs:z0G C)(hm:(a,o,AO.dict (z0Y kk kvs))∈σ)(hn:(kvs.map (·.1)).Nodup)(q:Q (.bool (!(vAt kvs k).isSome)) σ):
  AC2 C d (compareOp .NotIn) (kk.v k) (.ref a) σ Q:=λA G D s v u hA R hv hu=>by
 obtain⟨b,cvs,e,hD,hk⟩:=(Has.refD hm).isD kk hn R hu
 obtain rfl:=VR.refI hu;cases e
 refine wpAny_notIn_of (kk.isOf hv) (R.notSys hs hm) hD.mapOf ?_
 have:(valueAt cvs k).isSome=(vAt kvs k).isSome:=by
  rcases hk.at k with⟨e1,e2⟩|⟨_,_,e1,e2,_⟩<;>rw[e1,e2]<;>rfl
 rw[this]
 exact PostC.now (R.tok _) (.bool _) q
end
noncomputable abbrev dS(kvs:List (Str×V)):AO:= .dict (kvs.map λp=>(V.str p.1,p.2))
section
variable {C:Cx} {env:Env} {vars:List Str} {gl:List (Str×V)} {own:Bool} {d:Nat} {m m':Loc} {σ:Sto} {Q:V->Sto->Prop} {QS:Fl->Loc->Sto->Prop} {PB:Bool->Sto->Prop} {PS:Sto->Prop} {a:Addr} {kvs:List (Str×V)} {k:Str} {X:V}
theorem z1F(h:At σ a (dS kvs))(hn:(kvs.map (·.1)).Nodup)(hx:vAt kvs k=some X)(q:Q X σ):SubR C d (.ref a) (V.str k) σ Q:=by
 obtain⟨o,h⟩:=h
 exact z9N (KK.str C.prog C.w) (Has.refD h) hn hx q
theorem z29(hs:z0G C)(h:At σ a (dS kvs))(hn:(kvs.map (·.1)).Nodup)(q:Q (.bool (vAt kvs k).isSome) σ):AC2 C d (compareOp .In) (V.str k) (.ref a) σ Q:=by
 obtain⟨o,h⟩:=h
 exact y2p (KK.str C.prog C.w) hs h hn q
theorem z50(hs:z0G C)(h:At σ a (dS kvs))(hn:(kvs.map (·.1)).Nodup)(q:Q (.bool (!(vAt kvs k).isSome)) σ):AC2 C d (compareOp .NotIn) (V.str k) (.ref a) σ Q:=by
 obtain⟨o,h⟩:=h
 exact y2B (KK.str C.prog C.w) hs h hn q
theorem z6s(hs:z0G C)(h:At σ a (dS kvs))(hn:(kvs.map (·.1)).Nodup)(q:Q ((vAt kvs k).getD X) σ):KW C d (.bi "dict.get") [.ref a,V.str k,X] σ Q:=by
 obtain⟨o,h⟩:=h
 exact y3d (KK.str C.prog C.w) hs h hn q
theorem y16(h:At σ a (dS kvs))(hn:(kvs.map (·.1)).Nodup)(hl:kvs.length<=sizeLine)(hx:vAt kvs k=some X)(q:∀σ',UpdS σ σ' a (dS (z2n kvs k))->Q X σ'):KW C d (.bi "dict.pop") [.ref a,V.str k] σ Q:=by
 obtain⟨o,σ',U,US⟩:=h.upd (dS (z2n kvs k))
 exact z96 (KK.str C.prog C.w) U hn hl hx λo'=>q _ (US o')
theorem z4x(hs:z0G C)(h:At σ a (dS kvs))(hn:(kvs.map (·.1)).Nodup)(hl:kvs.length<=sizeLine)(q1:∀Y,vAt kvs k=some Y->Q Y σ)(q2:vAt kvs k=none->∀σ',UpdS σ σ' a (dS (z13 kvs k X))->Q X σ'):
  KW C d (.bi "dict.setdefault") [.ref a,V.str k,X] σ Q:=by
 obtain⟨o,σ',U,US⟩:=h.upd (dS (z13 kvs k X))
 exact z53 (KK.str C.prog C.w) hs U hn hl q1 λe o'=>q2 e _ (US o')
theorem y3u(h:At σ a (dS kvs))(hn:(kvs.map (·.1)).Nodup)(hl:kvs.length<=sizeLine)(q:∀σ',UpdS σ σ' a (dS (z13 kvs k X))->PS σ'):SetR C d (.ref a) (V.str k) X σ PS:=by
 obtain⟨o,σ',U,US⟩:=h.upd (dS (z13 kvs k X))
 exact z4S (KK.str C.prog C.w) U hn hl λo'=>q _ (US o')
theorem z2O(hs:z0G C)(h:At σ a (dS kvs))(hn:(kvs.map (·.1)).Nodup)(hl:kvs.length<=sizeLine)(q:Q (.int kvs.length) σ):KW C d (.bi "len") [.ref a] σ Q:=by
 obtain⟨o,h⟩:=h
 exact y00 (KK.str C.prog C.w) hs h hn hl q
theorem z4D [HM C](hs:z0G C)(h:At σ a (dS kvs))(hn:(kvs.map (·.1)).Nodup)(hl:kvs.length<=sizeLine)(q:NLf Q (kvs.map λp=>V.str p.1) σ):KW C d (.type "list") [.ref a] σ Q:=
 z8y (KK.str C.prog C.w) hs h hn hl q
theorem z67 [HM C](hs:z0G C)(h:At σ a (dS kvs))(hn:(kvs.map (·.1)).Nodup)(hl:kvs.length<64)(q:NLf Q ((z1n (kvs.map (·.1))).map V.str) σ):KW C d (.bi "sorted") [.ref a] σ Q:=
 z73 hs h hn hl q
end
noncomputable abbrev dI(kvs:List (Int×V)):AO:= .dict (kvs.map λp=>(V.int p.1,p.2))
section
variable {C:Cx} {env:Env} {vars:List Str} {gl:List (Str×V)} {own:Bool} {d:Nat} {m m':Loc} {σ:Sto} {Q:V->Sto->Prop} {QS:Fl->Loc->Sto->Prop} {PB:Bool->Sto->Prop} {PS:Sto->Prop} {a:Addr} {kvs:List (Int×V)} {k:Int} {X:V}
theorem z8Z(h:At σ a (dI kvs))(hn:(kvs.map (·.1)).Nodup)(hx:vAt kvs k=some X)(q:Q X σ):SubR C d (.ref a) (V.int k) σ Q:=by
 obtain⟨o,h⟩:=h
 exact z9N (KK.int C.prog C.w) (Has.refD h) hn hx q
theorem y3p(hs:z0G C)(h:At σ a (dI kvs))(hn:(kvs.map (·.1)).Nodup)(q:Q (.bool (vAt kvs k).isSome) σ):AC2 C d (compareOp .In) (V.int k) (.ref a) σ Q:=by
 obtain⟨o,h⟩:=h
 exact y2p (KK.int C.prog C.w) hs h hn q
theorem y0U(hs:z0G C)(h:At σ a (dI kvs))(hn:(kvs.map (·.1)).Nodup)(q:Q (.bool (!(vAt kvs k).isSome)) σ):AC2 C d (compareOp .NotIn) (V.int k) (.ref a) σ Q:=by
 obtain⟨o,h⟩:=h
 exact y2B (KK.int C.prog C.w) hs h hn q
theorem z6l(h:At σ a (dI kvs))(hn:(kvs.map (·.1)).Nodup)(hl:kvs.length<=sizeLine)(hx:vAt kvs k=some X)(q:∀σ',UpdS σ σ' a (dI (z2n kvs k))->Q X σ'):KW C d (.bi "dict.pop") [.ref a,V.int k] σ Q:=by
 obtain⟨o,σ',U,US⟩:=h.upd (dI (z2n kvs k))
 exact z96 (KK.int C.prog C.w) U hn hl hx λo'=>q _ (US o')
theorem z5M(h:At σ a (dI kvs))(hn:(kvs.map (·.1)).Nodup)(hl:kvs.length<=sizeLine)(q:∀σ',UpdS σ σ' a (dI (z13 kvs k X))->PS σ'):SetR C d (.ref a) (V.int k) X σ PS:=by
 obtain⟨o,σ',U,US⟩:=h.upd (dI (z13 kvs k X))
 exact z4S (KK.int C.prog C.w) U hn hl λo'=>q _ (US o')
theorem y19(hs:z0G C)(h:At σ a (dI kvs))(hn:(kvs.map (·.1)).Nodup)(hl:kvs.length<=sizeLine)(q:Q (.int kvs.length) σ):KW C d (.bi "len") [.ref a] σ Q:=by
 obtain⟨o,h⟩:=h
 exact y00 (KK.int C.prog C.w) hs h hn hl q
theorem y1f [HM C](hs:z0G C)(h:At σ a (dI kvs))(hn:(kvs.map (·.1)).Nodup)(hl:kvs.length<=sizeLine)(q:NLf Q (kvs.map λp=>V.int p.1) σ):KW C d (.type "list") [.ref a] σ Q:=
 z8y (KK.int C.prog C.w) hs h hn hl q
theorem z2E [HM C](hs:z0G C)(h:At σ a (dI kvs))(hn:(kvs.map (·.1)).Nodup)(hl:kvs.length<64)(q:NLf Q ((z1g (kvs.map (·.1))).map V.int) σ):KW C d (.bi "sorted") [.ref a] σ Q:=
 z7O hs h hn hl q
noncomputable def y4o(Y:V)(τ:Sto)(P:List (Int×V)->Prop):Prop:=∃b l,Y= .ref b/\At τ b (dI l)/\(l.map (·.1)).Nodup/\P l
theorem y4E{P:List (Int×V)->Prop}(h:At σ a (dI kvs))(hn:(kvs.map (·.1)).Nodup)(q:P kvs):y4o (.ref a) σ P:=⟨a,kvs,rfl,h,hn,q⟩
theorem y1X{l:Expr}{p p':Pos}{whole:Sem Value}(hs:z0G C)(h:AT C env vars gl own d (eval l env) m σ λY τ=>y4o Y τ λl=>PB (!l.isEmpty) τ):
  AB C env vars gl own d (isTrue (.Compare l [.NotEq] [.Dict [] [] p'] p) env whole) m σ PB:=y2Y (KK.int C.prog C.w) hs h
end
section
variable {C:Cx} {env:Env} {vars:List Str} {gl:List (Str×V)} {own:Bool} {d:Nat} {m m':Loc} {σ:Sto} {Q:V->Sto->Prop} {QS:Fl->Loc->Sto->Prop} {a:Addr}
theorem z7e{xs:List V}{X:V}(h:At σ a (.list xs))(hl:xs.length<=sizeLine)(q:∀σ',UpdS σ σ' a (.list (xs++[X]))->Q .none σ'):KW C d (.bi "list.append") [.ref a,X] σ Q:=by
 obtain⟨o,σ',U,US⟩:=h.upd (.list (xs++[X]))
 exact z4y U hl λo'=>q _ (US o')
noncomputable def z5i(c:Addr)(name:Str)(Y:V)(τ:Sto)(P:Addr->Prop):Prop:=∃x dx fs,Y= .ref x/\At τ x (.inst c dx fs)/\fs.lookup name=none/\P x
theorem y4v{c dx:Addr}{name:Str}{fs:List (Str×V)}{P:Addr->Prop}(h:At σ a (.inst c dx fs))(hl:fs.lookup name=none)(q:P a):z5i c name (.ref a) σ P:=⟨a,dx,fs,rfl,h,hl,q⟩
noncomputable def z8m(c:Addr)(name:Str)(Y:V)(τ:Sto)(P:V->Prop):Prop:=∃x dx fs Z,Y= .ref x/\At τ x (.inst c dx fs)/\fs.lookup name=some Z/\(∀n,Z≠ .bi n)/\P Z
theorem y4n{c dx:Addr}{name:Str}{fs:List (Str×V)}{b:Addr}{P:V->Prop}(h:At σ a (.inst c dx fs))(hl:fs.lookup name=some (.ref b))(q:P (.ref b)):z8m c name (.ref a) σ P:=⟨a,dx,fs,_,rfl,h,hl,(λn e=>by cases e),q⟩
theorem z9C{K:W.Frag}{c f:Addr}{o e:Expr}{rest:List Expr}{name:Str}{ap p:Pos}(hM:MethAt C K c name f)
  (h:AT C env vars gl own d (eval o env) m σ λX σ₁=>z5i c name X σ₁ λx=>AL C env vars gl own d (spliced (backTo p (starEach (e::rest) env))) m σ₁ λXs σ₂=>KW C d (.ref f) (.ref x::Xs) σ₂ Q)
  (hbase:autoParam (attributeBase o name env (eval o env)=eval o env) auR) (hline:autoParam ((ap.endLine==p.line)=true) auR)
  (he:autoParam (starEach (e::rest) env=(false,eval e env)::starEach rest env) auR) (hplain:autoParam ((backTo p (starEach rest env)).any (·.1)=false) auR)
  (hfew:autoParam (((backTo p (starEach (e::rest) env)).all (λx=> !x.1)&&(backToKw p (keywordEach [] env)).all (λx=>x.1.isSome)&&decide ((e::rest).length+([]:List Keyword).length+(if([]:List Keyword).isEmpty then 0 else 1)<30))=true) auR):
  AT C env vars gl own d (eval (.Call (.Attribute o name ap) (e::rest) [] p) env) m σ Q:=
 y1e hM (h.mono λX σ₁ hpp=>by obtain⟨x,dx,fs,hX,⟨ob,hm⟩,hl,k⟩:=hpp;exact⟨x,ob,dx,fs,hX,hm,hl,k⟩) hbase hline he hplain hfew
theorem z9v{K:W.Frag}{c f:Addr}{o:Expr}{name:Str}{ap p:Pos}(hM:MethAt C K c name f)
  (h:AT C env vars gl own d (eval o env) m σ λX σ₁=>z5i c name X σ₁ λx=>KW C d (.ref f) [.ref x] σ₁ Q)
  (hbase:autoParam (attributeBase o name env (eval o env)=eval o env) auR) (hline:autoParam ((ap.endLine==p.line)=true) auR):
  AT C env vars gl own d (eval (.Call (.Attribute o name ap) [] [] p) env) m σ Q:=z9f hM h hbase hline
theorem y0T{K:W.Frag}{c:Addr}{o:Expr}{name:Str}{p:Pos}(hM:AttrAt C K c name)
  (h:AT C env vars gl own d (eval o env) m σ λX σ₁=>z8m c name X σ₁ λY=>Q Y σ₁)
  (hbase:autoParam (attributeBase o name env (eval o env)=eval o env) auR) (ht:∀u r,letTemporaryGo o u r=pure ():=by intro _ _;with_unfolding_all exact rfl):
  AT C env vars gl own d (eval (.Attribute o name p) env) m σ Q:=
 y1u hM (h.mono λX σ₁ hpp=>by obtain⟨x,dx,fs,Y,hX,⟨ob,hm⟩,hl,hb,k⟩:=hpp;exact⟨x,ob,dx,fs,Y,hX,hm,hl,hb,k⟩) hbase ht
theorem tyD{es:List (V×V)}(h:At σ a (.dict es)):TyR C (.ref a) σ "dict":=by
 obtain⟨o,h⟩:=h
 exact z9R (Has.refD h)
theorem tyL{xs:List V}(h:At σ a (.list xs)):TyR C (.ref a) σ "list":=by
 obtain⟨o,h⟩:=h
 exact z9z (Has.refL h)
end
end
section
theorem keys_miss:typeLookup (.type "list") "keys"=pure none:=by rw[typeLookup_type,builtinLookup_eq_fast];kernel_rfl
theorem getAttr?_miss{prog:Program}{w:World}{A:Around}{E:Value->Shared->Prop}{s:Shared}{a:Addr}{xs:Array Value}{k:Nat}{Q:Option Value->Shared->Prop}
  (hx:s.heap.get? a=some (z0p xs k)) (hA:A.handled=none)
  (h:∀h' tk,(∀b o,s.heap.get? b=some o->h'.get? b=some o)->Q none {s with heap:=h',toks:=tk}):
  wpAny (model prog w) A (getAttr? (.ref a) "keys") Q E s:=by
 obtain⟨hp,g,d,tk,os⟩:=s
 have hT:∀tk',(⟨hp,g,d,tk',os⟩:Shared).TypeIs (.ref a) "list":=λ_=>⟨_,hx,rfl⟩
 have f1:=sub_AttributeError
 have f3:=F.slot_list_getattribute.lookup
 have f4:=F.slot_list_getattribute.bind (.ref a)
 have f5:=am_list_getattr_none
 unfold getAttr? getAttrBy? getAttrBy
 repeat (any_goals (first|assumption|exact hT _|((with_reducible show wpAny _ _ (call (Value.builtin "list.__getattribute__") _ _) _ _ _);refine call_meets F.slot_list_getattribute (hT _) am_entry_list_getattribute (F.args_list_getattribute_2 _ _) (meets_getattribute_miss_list a xs k #[] "keys" _ keys_miss (by decide+kernel) (by decide+kernel)) ⟨hx,hA,λh' tk' e hx'=> ?_⟩)|wp_step))
 obtain⟨t',u',he⟩:=hx'.there
 show wpAny _ _ (getattributeRaised _ _ _ _ _ _ _) _ _ _
 unfold getattributeRaised
 repeat (any_goals (first|assumption|wp_step))
 exact h _ _ hx'.keeps
theorem entry_update_loop:entryFor table "dict.update.loop"=some Builtin.«dict.update.loop»:=entryFor_of_tree (by kernel_rfl)
theorem plain_update_loop:plainId "dict.update.loop"=true:=by decide+kernel
section
variable {prog:Program} {w:World} {K:Type} [DecidableEq K] {knd:KeyKind prog w K} {A:Around} {E:Value->Shared->Prop}
noncomputable def y0u(knd:KeyKind prog w K)(h:Heap)(v:Value)(p:K×Value):Prop:=∃t o key n,v= .ref t/\h.get? t=some o/\o.cls= .type "tuple"/\o.data= .seq #[key,p.2] n/\knd.is p.1 key=true
theorem z7I{S I ax:Addr}{ws:Array Value}{R:Result->Shared->Prop}(hh:A.handled=none)(hIS:I≠S)(hax:ax≠I)(hxS:ax≠S)(ps:List (K×Value))(hl:ps.length=ws.size)(hz:ps.length<=1000):
  ∀(k i:Nat) (s:Shared) (acc:List (K×Value)),ws.size-i=k->i<=ws.size->s.heap.IsListIter I ax i->s.heap.IsList ax ws->s.heap.DictOf knd S acc->acc.length<=i->
   (∀(j:Nat) v p,ws[j]? =some v->ps[j]? =some p->y0u knd s.heap v p)->(∀(j:Nat) t,ws[j]? =some (.ref t)->t≠I/\t≠S)->
   (∀h' tk,h'.DictOf knd S (merged acc (ps.drop i))->(∀b o,b≠S->b≠I->s.heap.get? b=some o->h'.get? b=some o)->R (.ok (.ret .none)) {s with heap:=h',toks:=tk})->
   codeAny (model prog w) A (.builtin "dict.update.loop" ⟨[.ref S,.ref I,rawInt i,.none],[]⟩) R s:=by
 intro k
 induction k with
 |zero=>
  intro i s acc hk hi hit hL hD hacc hP hne hR
  have hin:i=ws.size:=Nat.le_antisymm hi (Nat.le_of_sub_eq_zero hk)
  subst hin
  have W:=Walks.list (prog:=prog) (w:=w) (A:=A.in1) hh I ax hax ws
  refine codeAny_builtin entry_update_loop ?_
  rw[Around.under_plainId plain_update_loop _]
  show wpAny _ A.in1 (pyNext (.ref I)>>=_) _ _ s
  refine wpAny_bind (W.done s _ _ ⟨hit,hL⟩ λh' tk hkp=> ?_)
  show wpAny _ _ (Builtin.Dict.addKeywords S []>>=_) _ _ _
  refine wpAny_bind (wpAny_pure (wpAny_pure (hR h' tk ?_ λb o hb hbI e=>hkp b o (by simpa using hbI) e)))
  rw[List.drop_eq_nil_of_le (Nat.le_of_eq hl)]
  show h'.DictOf knd S acc
  obtain⟨o,es,ep,ho,r⟩:=hD
  exact⟨o,es,ep,hkp S o (by simpa using hIS.symm) ho,r⟩
 |succ k ih=>
  intro i s acc hk hi hit hL hD hacc hP hne hR
  have hlt:i<ws.size:=Nat.lt_of_sub_eq_succ hk
  have W:=Walks.list (prog:=prog) (w:=w) (A:=A.in1) hh I ax hax ws
  refine codeAny_builtin entry_update_loop ?_
  rw[Around.under_plainId plain_update_loop _]
  show wpAny _ A.in1 (pyNext (.ref I)>>=_) _ _ s
  refine wpAny_bind (W.item i s _ _ hlt ⟨hit,hL⟩ λv h' tk hv hst' hkp=> ?_)
  have hv':ws[i]? =some v:=hv
  obtain⟨p,hp⟩:∃p,ps[i]? =some p:=⟨_,List.getElem?_eq_getElem (hl▸hlt)⟩
  obtain⟨t,o,key,n,rfl,ho,hc,hd,hkey⟩:=hP i v p hv' hp
  have hnt:=hne i t hv'
  have ho':h'.get? t=some o:=hkp t o (by simpa using hnt.1) ho
  have hD':h'.DictOf knd S acc:=by
   obtain⟨o,es,ep,ho,r⟩:=hD
   exact⟨o,es,ep,hkp S o (by simpa using hIS.symm) ho,r⟩
  refine wpAny_bind (wpAny_holding ?_)
  refine wpAny_bind (wpAny_tryCatch ?_)
  unfold Builtin.Dict.pairItems
  refine wpAny_bind (wpAny_typeOf (T:="tuple") ⟨o,ho',hc⟩ ?_)
  rw[if_pos (by decide)]
  unfold seqItems?
  refine wpAny_bind (wpAny_bind (wpAny_loadPart ho' ?_))
  rw[hd]
  refine wpAny_pure (wpAny_pure ?_)
  show wpAny _ _ (holding [key,p.2] (dictSet S key p.2)) _ _ _
  refine wpAny_holding (wpAny_dictSet_pairs (hsz:=z0x (Nat.le_trans (Nat.le_of_lt (Nat.lt_of_le_of_lt hacc (hl▸hlt))) (Nat.le_trans hz (by decide)))) hkey hD' λh₁ hm₁ hs₁=> ?_)
  refine wpAny_pure ⟨plainId_quiet plain_update_loop _,?_⟩
  have kp2:∀b o,b≠S->b≠I->s.heap.get? b=some o->h₁.get? b=some o:=λb o hb hbI e=>(hs₁.2 b hb).trans (hkp b o (by simpa using hbI) e)
  have e1:rawInt (i:Int)= .int i 0:=rfl
  refine ih (i+1) _ (stored acc p.1 p.2) (by rw[Nat.sub_add_eq,hk];rfl) hlt ?_ ?_ hm₁ (Nat.le_trans (stored_length_le _ _ _) (Nat.succ_le_succ hacc)) (λj v q hv hq=> ?_) hne λh'' tk'' hD'' hk''=> ?_
  ·obtain⟨oi,h1,h2⟩:=hst'.1;exact⟨oi,(hs₁.2 I hIS).trans h1,h2⟩
  ·obtain⟨ol,h1,h2⟩:=hst'.2;exact⟨ol,(hs₁.2 ax hxS).trans h1,h2⟩
  ·obtain⟨t2,o2,key2,n2,rfl,ho2,r2⟩:=hP j v q hv hq
   exact⟨t2,o2,key2,n2,rfl,kp2 t2 o2 (hne j t2 hv).2 (hne j t2 hv).1 ho2,r2⟩
  ·refine hR h'' tk'' ?_ λb o hb hbI e=>hk'' b o hb hbI (kp2 b o hb hbI e)
   have:ps.drop i=p::ps.drop (i+1):=by
    obtain⟨hlt',e⟩:=List.getElem?_eq_some_iff.mp hp
    rw[List.drop_eq_getElem_cons hlt',e]
   rw[this]
   exact hD''
end
section
variable {C:Cx} {d:Nat} {σ:Sto} {Q:V->Sto->Prop} {G D:Gh} {s:Shared} {K:Type} [DecidableEq K]
noncomputable def y02(ps:List (K×V)):List (K×V):=ps.foldl (λacc p=>z13 acc p.1 p.2) []
theorem KR.merged{w:World}{l:List (K×Value)}{r:List (K×V)}(h:KR w D l r):∀{a:List (K×Value)} {b:List (K×V)},KR w D a b->KR w D (PySem.merged a l) (r.foldl (λacc p=>z13 acc p.1 p.2) b):=by
 induction h with
 |nil=>intro a b hab;exact hab
 | @cons k v x l r hv _ ih=>intro a b hab;exact ih (hab.stored hv)
theorem z95(kk:KK C.prog C.w K)(R:RelC C G D σ s):∀{ps:List (K×V)} {vs:List Value},VRs C.w D vs (ps.map λp=>V.tup [kk.v p.1,p.2])->
  ∃cps,KR C.w D cps ps/\(∀(j:Nat) v p,vs[j]? =some v->cps[j]? =some p->y0u kk.knd s.heap v p)/\∀(j:Nat) t,vs[j]? =some (.ref t)->∃o,s.heap.get? t=some o:=λ{ps}=>by
 induction ps with
 |nil=>intro vs h;obtain rfl:=VRs.nilI h;exact⟨[],.nil,(λj v p e=>by simp at e),λj t e=>by simp at e⟩
 |cons p ps ih=>
  intro vs h
  obtain⟨y,r,rfl,h1,h2⟩:=VRs.consI h
  obtain⟨cps,hk,hp,ht⟩:=ih h2
  obtain⟨t,o,us,n,rfl,e,hc,hd,hr⟩:=VR.tupI h1
  obtain⟨key,_,rfl,a1,hr⟩:=VRs.consI hr
  obtain⟨val,_,rfl,a3,hr⟩:=VRs.consI hr
  obtain rfl:=VRs.nilI hr
  refine⟨(p.1,val)::cps,.cons (k:=p.1) a3 hk,λj=> ?_,λj=> ?_⟩
  ·cases j with
   |zero=>intro v q e1 e2;obtain rfl:=Option.some.inj e1;obtain rfl:=Option.some.inj e2;exact⟨t,o,key,n,rfl,R.d _ _ e,hc,hd,kk.isOf a1⟩
   |succ j=>exactλv q e1 e2=>hp j v q e1 e2
  ·cases j with
   |zero=>intro t' e1;cases Option.some.inj e1;exact⟨o,R.d _ _ e⟩
   |succ j=>exact ht j
theorem y2g [HM C](kk:KK C.prog C.w K){x:V}{ps:List (K×V)}{P:Sto->Prop}(h:Has σ x (.list (ps.map λp=>V.tup [kk.v p.1,p.2])) P)(hz:ps.length<=1000)
  (q:∀a o,Fresh σ a->Q (.ref a) ((a,o,.dict (z0Y kk (y02 ps)))::σ)):KW C d (.type "dict") [x] σ Q:=λA G D s v vs hA R hv hss=>by
 apply VR.typeE hv
 apply VRs.consE hss;intro _ _ h1 h2
 ·skip
  apply VRs.nilE h2
  apply Has.isListE h R h1;intro ax ws n ho hr
  obtain⟨cps,hk,hp,ht⟩:=z95 kk R hr
  have hlen:cps.length=ws.size:=by rw[hk.length];have:=hr.length;simp at this;lia
  refine callType_codes (Q₁:=λobj s₁=>obj= .ref s.heap.objs.size/\s₁={s with heap:=s.heap.push {cls:= .type "dict",data:= .dict #[]}}) F.kt_called_dict (F.kt_typeCall_dict_1 _) F.entry_dict_init (kt_code_dict_new _ ⟨rfl,rfl⟩) ?_
  rintro obj s₁ ⟨rfl,rfl⟩
  have hnew:(s.heap.push {cls:= .type "dict",data:= .dict #[]}).DictOf kk.knd s.heap.objs.size []:=Heap.DictOf.new s.heap
  have ho1:(s.heap.push {cls:= .type "dict",data:= .dict #[]}).get? ax=some (z0p ws n):=Heap.get?_push_of_some _ ho
  refine⟨hnew.typeIs,F.args_dict_init_2 _ _,?_⟩
  unfold Builtin.«dict.__init__»
  refine wpAny_bind ?_
  unfold Builtin.Dict.selfAndRest
  refine wpAny_bind (wpAny_notOrdered_dict hnew.typeIs ?_)
  show wpAny _ _ (pure (s.heap.objs.size,[Value.ref ax])) _ _ _
  refine wpAny_pure ?_
  show wpAny _ _ (Builtin.Dict.updateFrom "dict.__init__" s.heap.objs.size (.ref ax) [] .none) _ _ _
  unfold Builtin.Dict.updateFrom
  refine wpAny_bind (wpAny_typeOf (T:="list") ⟨_,ho1,rfl⟩ ?_)
  rw[if_pos (by decide)]
  refine wpAny_bind (getAttr?_miss ho1 hA.hh λh' tk hkp=> ?_)
  simp only[Option.isNone_none,if_true]
  refine wpAny_bind (wpAny_rule ?_)
  have ho2:h'.get? ax=some (z0p ws n):=hkp _ _ ho1
  have hL:h'.IsList ax ws:=⟨_,ho2,rfl,n,rfl⟩
  have hD2:h'.DictOf kk.knd s.heap.objs.size []:=by
   obtain⟨o,es,ep,ho,r⟩:=hnew
   exact⟨o,es,ep,hkp _ o ho,r⟩
  have hdlt:s.heap.objs.size<h'.objs.size:=by obtain⟨o,es,ep,ho,r⟩:=hD2;exact Heap.lt_size ho
  have haxlt:ax<h'.objs.size:=Heap.lt_size ho2
  refine wpAny_bind (wpAny_pyIter_list (s:={s with heap:=h',toks:=tk}) hL ?_)
  have liveS:∀t o,s.heap.get? t=some o->t≠s.heap.objs.size/\t≠h'.objs.size:=λt o e=>⟨Nat.ne_of_lt (Heap.lt_size e),Nat.ne_of_lt (Heap.lt_size (hkp _ _ (Heap.get?_push_of_some _ e)))⟩
  have kp3:∀(oI:Obj) b o,s.heap.get? b=some o->(h'.push oI).get? b=some o:=λoI b o e=>Heap.get?_push_of_some _ (hkp _ _ (Heap.get?_push_of_some _ e))
  refine wpAny_pure ⟨plainId_quiet plain_update_loop _,z7I (knd:=kk.knd) (A:=A.in1) hA.hh (Nat.ne_of_gt hdlt) (Nat.ne_of_lt haxlt) (liveS _ _ ho).1 cps hlen (by rw[hk.length];exact hz) _ 0 _ [] rfl (Nat.zero_le _) ⟨_,Heap.get?_push_size _ rfl,rfl,rfl⟩ (hL.push _) (by
   obtain⟨o,es,ep,ho,r⟩:=hD2
   exact⟨o,es,ep,Heap.get?_push_of_some _ ho,r⟩) (Nat.le_refl _) (λj v p e1 e2=> ?_) (λj t e1=> ?_) λh'' tk'' hD'' hk''=>⟨rfl,?_⟩⟩
  ·obtain⟨t,o,key,n',rfl,ho',r⟩:=hp j v p (by rw[Array.getElem?_toList];exact e1) e2
   exact⟨t,o,key,n',rfl,kp3 _ _ _ ho',r⟩
  ·obtain⟨o,e⟩:=ht j t (by rw[Array.getElem?_toList];exact e1)
   exact⟨(liveS t o e).2,(liveS t o e).1⟩
  ·obtain⟨o',ho',hr'⟩:=HR.ofDict kk hD'' (hk.merged (.nil:KR C.w D ([]:List (K×Value)) []))
   have kp4:∀b o,s.heap.get? b=some o->h''.get? b=some o:=λb o e=>hk'' b o (liveS b o e).1 (liveS b o e).2 (kp3 _ b o e)
   have R':=R.keep (h':=h'') tk'' kp4
   refine⟨.ref _,D,_,DX.refl _ _,.ref _,?_,q _ o' R.fresh⟩
   refine⟨R'.same,R'.bs,R'.g,R'.d,R'.base,?_,λa ha=> ?_,λa ha=> ?_,λp hp'=> ?_,λp hp'=> ?_⟩
   ·exact List.nodup_cons.mpr ⟨R.new_notFoot,R.nd⟩
   ·rcases List.mem_cons.mp ha with rfl|h
    ·exact R.new_G
    ·exact R.offG a h
   ·rcases List.mem_cons.mp ha with rfl|h
    ·exact R.new_D
    ·exact R.offD a h
   ·rcases List.mem_cons.mp hp' with rfl|h
    ·exact ho'
    ·exact R'.pl p h
   ·rcases List.mem_cons.mp hp' with rfl|h
    ·exact hr'
    ·exact R'.sto p h
end
end
section
section
variable {C:Cx} {env:Env} {vars:List Str} {gl:List (Str×V)} {own:Bool} {d:Nat} {m:Loc} {σ:Sto} {tgt:Expr} {body:List Stmt} {P:Sto->Prop} {QS:Fl->Loc->Sto->Prop}
noncomputable def LS(I:Loc->Sto->Prop)(P:Sto->Prop)(QS:Fl->Loc->Sto->Prop):Fl->Loc->Sto->Prop
 | .next,m,σ=>P σ/\I m σ
 | .cont,m,σ=>P σ/\I m σ
 | .brk,m,σ=>QS .next m σ
 | .ret v,m,σ=>QS (.ret v) m σ
theorem y0e{I:Loc->Sto->Prop}{X:V}(q:QS (.ret X) m σ):LS I P QS (.ret X) m σ:=q
theorem z8D{I:Loc->Sto->Prop}(hP:P σ)(q:I m σ):LS I P QS .next m σ:=⟨hP,q⟩
theorem z6A(I:Nat->Loc->Sto->Prop):∀(ys:List V) (k:Nat) (m:Loc) (σ:Sto),
  (∀(i:Nat) X,ys[i]? =some X->∀m σ,I (k+i) m σ->AA C env vars gl own d (assign tgt env) X m σ λm₁ σ₁=>AS C env vars gl own d (execs body env) m₁ σ₁ (LS (I (k+i+1)) P QS))->
  (∀m σ,I (k+ys.length) m σ->QS .next m σ)->I k m σ->z47 C env vars gl own d tgt body P QS ys m σ
 |[],k,m,σ,_,hq,hI=>hq m σ hI
 |X::ys,k,m,σ,h,hq,hI=>by
  intro A G D s v hA R hv
  refine wpAny_mono (h 0 X rfl m σ hI A G D s v hA R hv) (λu s' hpp=> ?_) λ_ _ e=>e
  obtain⟨m',D',σ',a,c,e⟩:=hpp
  refine⟨m',D',σ',a,c,e.mono λfl m₂ σ₂ q=> ?_⟩
  have ih:I (k+1) m₂ σ₂->z47 C env vars gl own d tgt body P QS ys m₂ σ₂:=λhI'=>z6A I ys (k+1) m₂ σ₂ (λi Y hY m σ hm=>by
    have:=h (i+1) Y (by simpa using hY) m σ (by rw[show k+(i+1)=k+1+i by lia];exact hm)
    rw[show k+(i+1)+1=k+1+i+1 by lia] at this
    exact this) (λm σ hm=>hq m σ (by rw[List.length_cons,show k+(ys.length+1)=k+1+ys.length by lia];exact hm)) hI'
  cases fl with
  |next=>exact⟨q.1,ih q.2⟩
  |cont=>exact⟨q.1,ih q.2⟩
  |brk=>exact q
  |ret v=>exact q
theorem y0m{n:Int}(h0:0<=n)(h1:n<=1000):Builtin.Range.small 0 n 1=true:=small_one (by decide) (by decide) (by lia) (by lia)
theorem y1J{n:Int}(h0:0<=n):Builtin.Range.rangeSize 0 n 1=(n.toNat:Int):=by rw[rangeSize_one];split<;>lia
theorem y0f{n:Nat}(h:n<=1000):Builtin.Range.small 0 (n:Int) 1=true:=y0m (Int.natCast_nonneg n) (Int.ofNat_le.mpr h)
theorem y1n(n:Nat):Builtin.Range.rangeSize 0 (n:Int) 1=((n:Nat):Int):=y1J (Int.natCast_nonneg n)
theorem z5I{n i:Nat}{X:V}(h:(z1j 0 1 n)[i]? =some X):i<n/\X=V.int (i:Int):=by
 have hi:i<n:=by simpa[z1j] using(List.getElem?_eq_some_iff.mp h).1
 rw[z1j,List.getElem?_map,List.getElem?_range hi] at h
 exact⟨hi,by simpa using h.symm⟩
theorem z17{n:Nat}{X:V}(h:X∈z1j 0 1 n):∃i:Nat,i<n/\X=V.int (i:Int):=by
 obtain⟨i,hi⟩:=List.mem_iff_getElem?.mp h
 exact⟨i,z5I hi⟩
theorem z1u(n:Nat):(z1j 0 1 n).length=n:=by unfold z1j;rw[List.length_map,List.length_range]
theorem z3P(n:Nat):z1j 0 1 n=(List.range n).map λi:Nat=>V.int (i:Int):=by
 unfold z1j
 exact List.map_congr_left λi _=>by rw[Int.zero_add,Int.mul_one]
theorem z3u{α:Type}{l:List α}{i:Nat}(hn:l.Nodup)(hi:i<l.length):l[i]∉l.take i:=λhm=>by
 obtain⟨j,hj,e⟩:=List.mem_iff_getElem.mp hm
 rw[List.getElem_take] at e
 have:=(List.getElem_inj hn).mp e
 rw[List.length_take] at hj
 lia
theorem z7h{α:Type}{l:List α}{i:Nat}(hi:i<l.length):l.take (i+1)=l.take i++[l[i]]:=by rw[List.take_succ,List.getElem?_eq_getElem hi];rfl
theorem z4u{α β:Type}{l:List α}{r:List β}{f:β->α}{i:Nat}(h:r.map f=l.take i)(hi:i<=l.length):r.length=i:=by
 have:=congrArg List.length h
 rw[List.length_map,List.length_take] at this
 lia
theorem z0A{α β:Type}{l:List α}{f:α->β}{n:Nat}(h:l.length<=n)(hn:n<=100000):(l.map f).length<=sizeLine:=by rw[List.length_map];exact z0x (Nat.le_trans h hn)
theorem z1b{α β:Type}{l:List α}{f:α->β}{i:Nat}{x:α}(h:l[i]? =some x):(l.map f)[i]? =some (f x):=by rw[List.getElem?_map,h];rfl
theorem y3s(I:Nat->Loc->Sto->Prop){iter:Expr}{p:Pos}(h:AI C env vars gl own d iter tgt m σ λys P σ₁=>I 0 m σ₁/\(∀(i:Nat) X,ys[i]? =some X->∀m σ,I i m σ->AA C env vars gl own d (assign tgt env) X m σ λm₁ σ₁=>AS C env vars gl own d (execs body env) m₁ σ₁ (LS (I (i+1)) P QS))/\(∀m σ,I ys.length m σ->QS .next m σ))
  (hs:autoParam (∀x,foldedSetIterable iter env x=pure x) auF):AS C env vars gl own d (exec (.For tgt iter body [] p) env) m σ QS:=
 z4e (λA G D s hA R=>wpAny_mono (h A G D s hA R) (λx s₁ h₁=>wpAny_mono h₁ (λit s₂ hpp=>by obtain⟨D',σ',xs,P,a,b,c1,c2,c3⟩:=hpp;exact⟨D',σ',xs,P,a,b,z6A I xs 0 m σ' (λi X hX m σ hm=>by
  have:=c2 i X hX m σ (by simpa using hm)
  simpa using this) (λm σ hm=>c3 m σ (by simpa using hm)) c1⟩) λ_ _ e=>e) λ_ _ e=>e) hs
theorem z4L(I:Nat->Loc->Sto->Prop){iter:Expr}{p:Pos}(h:AI C env vars gl own d iter tgt m σ λys P σ₁=>I 0 m σ₁/\(∀(i:Nat) X,ys[i]? =some X->∀m σ,I i m σ->∀QB:Fl->Loc->Sto->Prop,(∀m σ,P σ->I (i+1) m σ->QB .next m σ)->(∀Y m σ,QS (.ret Y) m σ->QB (.ret Y) m σ)->AA C env vars gl own d (assign tgt env) X m σ λm₁ σ₁=>AS C env vars gl own d (execs body env) m₁ σ₁ QB)/\(∀m σ,I ys.length m σ->QS .next m σ))
  (hs:autoParam (∀x,foldedSetIterable iter env x=pure x) auF):AS C env vars gl own d (exec (.For tgt iter body [] p) env) m σ QS:=
 y3s I (λA G D s hA R=>wpAny_mono (h A G D s hA R) (λx s₁ h₁=>wpAny_mono h₁ (λit s₂ hpp=>by obtain⟨D',σ',xs,P,a,b,c1,c2,c3⟩:=hpp;exact⟨D',σ',xs,P,a,b,c1,λi X hX m σ hm=>c2 i X hX m σ hm _ (λm σ hP hI=>z8D hP hI) λY m σ q=>y0e q,c3⟩) λ_ _ e=>e) λ_ _ e=>e) hs
variable {x:Str} {pp:Pos} {caps:List Str} {elt c:Expr} {ms:Loc} {Z:List V->Sto->Prop}
theorem z6U(I:Nat->List V->Sto->Prop)(hk:env.kindOf x=some .local):∀(xs:List V) (k:Nat) (acc:List V) (o:Option V) (σ:Sto),
  (∀(i:Nat) X,xs[i]? =some X->∀acc σ,I (k+i) acc σ->AT C env (x::caps) gl false d (eval elt env) (some X::ms) σ λY σ'=>P σ'/\I (k+i+1) (acc++[Y]) σ')->
  (∀acc σ,I (k+xs.length) acc σ->Z acc σ)->I k acc σ->z0S C env (x::caps) gl d (.Name x pp) elt [] P Z xs acc (o::ms) σ
 |[],k,acc,o,σ,_,hq,hI=>hq acc σ hI
 |X::xs,k,acc,o,σ,h,hq,hI=>by
  refine z0v Put.head ?_ (.inr hk)
  refine⟨λ_=>(h 0 X rfl acc σ hI).mono λY σ' ⟨hP,hI'⟩=>⟨hP,z6U I hk xs (k+1) (acc++[Y]) (some X) σ' (λi Y hY acc σ hm=> ?_) (λacc σ hm=>hq acc σ ?_) hI'⟩,λe=>by cases e⟩
  ·have:=h (i+1) Y (by simpa using hY) acc σ (by rw[show k+(i+1)=k+1+i by lia];exact hm)
   rw[show k+(i+1)+1=k+1+i+1 by lia] at this
   exact this
  ·rw[List.length_cons,show k+(xs.length+1)=k+1+xs.length by lia];exact hm
variable {Q:V->Sto->Prop}
theorem y3Y{X Y:V}{k:Int}(h0:0<=k)(h1:k<2)(q:Q X σ)(q':Q Y σ):SubR C d (.lst [X,Y]) (.int k) σ Q:=by
 rcases(show k=0∨k=1 by lia) with rfl|rfl
 ·exact z3V (.lst _) (by decide) (by decide) (X:=X) rfl q
 ·exact z3V (.lst _) (by decide) (by decide) (X:=Y) rfl q'
theorem z0U{x:V}{xs:List V}{P:Sto->Prop}{i:Nat}{X:V}(h:Has σ x (.list xs) P)(hi:i<1000)(hx:xs[i]? =some X)(q:Q X σ):SubR C d x (.int (i:Int)) σ Q:=
 z3V h (Int.natCast_nonneg i) (by lia) (by rw[Int.toNat_natCast];exact hx) q
theorem z33{xs:List V}{k:Int}(h0:0<=k)(h1:k<xs.length)(hs:xs.length<2^40)(q:∀X∈xs,Q X σ):SubR C d (.lst xs) (.int k) σ Q:=by
 have hk:k.toNat<xs.length:=by lia
 exact z3V (.lst _) h0 (by lia) (X:=xs[k.toNat]) (List.getElem?_eq_getElem hk) (q _ (List.getElem_mem hk))
theorem y2G{x y:Str}(q:Q (.bool (x !=y)) σ):AC2 C d (compareOp .NotEq) (.str x) (.str y) σ Q:=λA G D s v u hA R hv hu=>by
 apply VR.strE hv;intro _;apply VR.strE hu;intro _;exact PyProof.Rows.ne_str (PostC.now R (.bool _) q)
theorem z7P{y:Str}{p' pe p:Pos}(q:∀a o,Fresh σ a->∃m',Put vars m y (.ref a) m'/\QS .next m' ((a,o,.list [])::σ))(hk:autoParam (own=true) auR)
  (hs:autoParam (swapsWith (.List [] pe) (some (.Name y p')) p.line env=pure false) auR):AS C env vars gl own d (exec (.Assign [.Name y p'] (.List [] pe) p) env) m σ QS:=
 z14 (z16 (z0r ⟨Nat.zero_le _,q⟩)) hk hs
theorem z7X{y:Str}{p' pe p:Pos}(q:∀a o,Fresh σ a->∃m',Put vars m y (.ref a) m'/\QS .next m' ((a,o,.dict [])::σ))(hk:autoParam (own=true) auR)
  (hs:autoParam (swapsWith (.Dict [] [] pe) (some (.Name y p')) p.line env=pure false) auR):AS C env vars gl own d (exec (.Assign [.Name y p'] (.Dict [] [] pe) p) env) m σ QS:=
 z14 (z3w q) hk hs
theorem z2C{a:Addr}{o:Obj}{xs:List V}{X:V}(hl:xs.length<=sizeLine)(q:∀o',Q .none ((a,o',.list (xs++[X]))::σ)):KW C d (.bi "list.append") [.ref a,X] ((a,o,.list xs)::σ) Q:=
 z4y (λo'=>Upd.head) hl q
theorem z8j{a:Addr}{o:Obj}{kvs:List (Str×V)}{k:Str}{X:V}{PS:Sto->Prop}(hn:(kvs.map (·.1)).Nodup)(hl:kvs.length<=sizeLine)(q:∀o',PS ((a,o',dS (z13 kvs k X))::σ)):SetR C d (.ref a) (.str k) X ((a,o,dS kvs)::σ) PS:=
 z4S (KK.str C.prog C.w) (σ':=λo'=>(a,o',dS (z13 kvs k X))::σ) (λo'=>Upd.head) hn hl q
theorem z1N{K:Type}[DecidableEq K]{kvs:List (K×V)}{k:K}{X:V}(h:k∉kvs.map (·.1)):z13 kvs k X=kvs++[(k,X)]:=by
 unfold z13
 rw[if_neg]
 intro e
 obtain⟨p,hp,hk⟩:=List.any_eq_true.mp e
 exact h (List.mem_map.mpr ⟨p,hp,by simpa using hk⟩)
theorem z1E{K:Type}[DecidableEq K]{kvs:List (K×V)}{k:K}(h:k∉kvs.map (·.1)):vAt kvs k=none:=by
 unfold vAt
 rw[List.find?_eq_none.mpr]
 ·rfl
 ·intro p hp e;exact h (List.mem_map.mpr ⟨p,hp,by simpa using e⟩)
theorem z0B{K:Type}[DecidableEq K]{kvs:List (K×V)}{k:K}{X:V}(hn:(kvs.map (·.1)).Nodup)(h:(k,X)∈kvs):vAt kvs k=some X:=by
 induction kvs with
 |nil=>cases h
 |cons p r ih=>
  obtain⟨k',Y⟩:=p
  have hn':=List.nodup_cons.mp hn
  rcases List.mem_cons.mp h with e|h
  ·cases e;simp[vAt]
  ·have hne:k'≠k:=λe=>hn'.1 (by rw[e];exact List.mem_map.mpr ⟨_,h,rfl⟩)
   have:=ih hn'.2 h
   unfold vAt at this⊢
   rw[List.find?_cons];simpa[hne] using this
theorem z5Y{P:Str->Prop}:∀{ys:List V},(∀y∈ys,∃w,y= .str w/\P w)->∃ws:List Str,ys=ws.map V.str/\∀w∈ws,P w
 |[],_=>⟨[],rfl,λ_ h=>by cases h⟩
 |y::ys,h=>by
  obtain⟨ws,rfl,hw⟩:=z5Y λz hz=>h z (.tail _ hz)
  obtain⟨w,rfl,hp⟩:=h y (.head _)
  exact⟨w::ws,rfl,λz hz=>by rcases List.mem_cons.mp hz with rfl|hz;exact hp;exact hw z hz⟩
end
end
section
section
variable {C:Cx} {d:Nat} {σ:Sto} {Q:V->Sto->Prop}
theorem z1e{f:Addr}{xs:List V}(h:CW C d (.ref f) xs σ λx σ'=>∃a o ys τ,x= .ref a/\σ'=(a,o,.list ys)::τ/\Q (.lst ys) τ):CW C d (.ref f) xs σ Q:=λA G D s vs hA R hv=>
 codeAny_mono (h A G D s vs hA R hv) λr s' q=>by
  cases r with
  |error e=>exact q
  |ok fl=>
   cases fl<;>first|exact q.elim|skip
   obtain⟨x,D',σ',dx,hx,R',a,o,ys,τ,rfl,rfl,q⟩:=q
   cases hx
   obtain⟨R3,dx3,hv3⟩:=R'.freezeL (u:=[]) (v:=τ) rfl
   exact⟨.lst ys,_,τ,dx.trans dx3,hv3,R3,q⟩
end
end
section
section
variable {C:Cx} {env:Env} {vars:List Str} {gl:List (Str×V)} {own:Bool} {d:Nat} {m m':Loc} {σ:Sto} {Q:V->Sto->Prop} {QS:Fl->Loc->Sto->Prop} {G D:Gh} {s:Shared} {A:Around} {K:Type} [DecidableEq K]
theorem VRs.hd{w:World}{vs:List Value}{X:V}{xs:List V}(h:VRs w D vs (X::xs)):∃y r,vs=y::r/\VR w D y X/\VRs w D r xs:=by
 cases h with
 |cons h1 h2=>exact⟨_,_,rfl,h1,h2⟩
theorem VRs.lt{w:World}:∀{vs:List Value} {xs:List V} {X:V},VRs w D vs (xs++[X])->∃y r,vs=r++[y]/\VR w D y X/\VRs w D r xs
 |_,[],X,h=>by
  obtain⟨y,r,rfl,h1,h2⟩:=h.hd
  cases h2
  exact⟨y,[],rfl,h1,.nil⟩
 |_,x::xs,X,h=>by
  obtain⟨y,r,rfl,h1,h2⟩:=VRs.hd h
  obtain⟨z,r',rfl,h3,h4⟩:=VRs.lt h2
  exact⟨z,y::r',rfl,h3,.cons h1 h4⟩
theorem y10{a:Addr}{o:Obj}{σ':Obj->Sto}{X:V}{xs:List V}(U:∀o',Upd a o (.list (X::xs)) o' (.list xs) σ (σ' o'))(hl:(X::xs).length<=sizeLine)(q:∀o',Q X (σ' o')):KW C d (.bi "list.pop") [.ref a,.int 0] σ Q:=λA G D s v vs hA R hv hss=>by
 apply VR.biE hv
 apply VRs.consE hss;intro _ _ h1 hr2
 apply VRs.consE hr2;intro _ _ h2 hr3
 apply VRs.nilE hr3
 apply VR.refE h1
 apply VR.intE h2;intro t
 obtain⟨ws,n,rfl,hr⟩:∃ws n,o=z0p ws n/\VRs C.w D ws.toList (X::xs):=R.sto _ (U o).mem
 have ho:s.heap.get? a=some (z0p ws n):=R.pl _ (U (z0p ws n)).mem
 have hz:ws.size=(X::xs).length:=by rw[<-hr.length];simp
 obtain⟨y,r,e,hy,hr'⟩:=hr.hd
 have ew:ws=(y::r).toArray:=by rw[<-e,Array.toArray_toList]
 subst ew
 refine call_meets F.slot_list_pop ⟨_,ho,rfl⟩ F.entry_list_pop (F.args_list_pop_2 _ _) (MeetsSeq.list_pop_at a _ n 0 _ 0 y (by decide) (by simp[seqIndex?]) (by simp) (by rw[hz];exact hl)) ⟨ho,?_⟩
 have h1:=PyProof.Rows.get?_update_seq (c:="list") ho (λxs=>xs.eraseIdxIfInBounds 0)
 have:=R.upd (U _) s.toks (z0u _ _) (Heap.SameBut.update ..) rfl h1 ⟨_,_,rfl,by simpa using hr'⟩
 exact⟨X,D,_,DX.refl _ _,hy,this,q _⟩
theorem z8G{a:Addr}{o:Obj}{X:V}{xs:List V}(hl:(X::xs).length<=sizeLine)(q:∀o',Q X ((a,o',.list xs)::σ)):KW C d (.bi "list.pop") [.ref a,.int 0] ((a,o,.list (X::xs))::σ) Q:=
 y10 (σ':=λo'=>(a,o',.list xs)::σ) (λo'=>Upd.head) hl q
theorem Has.p{x:V}{ao:AO}{P:Sto->Prop}(h:Has σ x ao P):P σ:=by cases h<;>first|trivial|assumption
theorem Has.mono{τ:Sto}{x:V}{ao:AO}{P:Sto->Prop}(h:Has σ x ao P)(hs:∀p∈σ,p∈τ):Has τ x ao P:=by
 cases h with
 |lst=>exact .lst _
 |dct=>exact .dct _
 |refL h=>exact .refL (hs _ h)
 |refD h=>exact .refD (hs _ h)
theorem y27{a:Addr}{X:V}{xs:List V}(hm:At σ a (.list (xs++[X])))(hl:(xs++[X]).length<=sizeLine)(q:∀σ',UpdS σ σ' a (.list xs)->Q X σ'):KW C d (.bi "list.pop") [.ref a] σ Q:=λA G D s v vs hA R hv hss=>by
 apply VR.biE hv
 obtain⟨o,σ',U,US⟩:=hm.upd (.list xs)
 apply VRs.consE hss;intro _ _ h1 h2
 apply VRs.nilE h2
 apply VR.refE h1
 ·skip
  obtain⟨ws,n,rfl,hr⟩:∃ws n,o=z0p ws n/\VRs C.w D ws.toList (xs++[X]):=R.sto _ (U o).mem
  have ho:s.heap.get? a=some (z0p ws n):=R.pl _ (U (z0p ws n)).mem
  have hz:ws.size=(xs++[X]).length:=by rw[<-hr.length];simp
  obtain⟨y,r,e,hy,hr'⟩:=hr.lt
  have ew:ws=(r++[y]).toArray:=by rw[<-e,Array.toArray_toList]
  subst ew
  refine call_meets F.slot_list_pop ⟨_,ho,rfl⟩ F.entry_list_pop (F.args_list_pop_1 _) (MeetsSeq.list_pop_last a _ n y (by simp) (by rw[hz];exact hl)) ⟨ho,?_⟩
  have h1:=PyProof.Rows.get?_update_seq (c:="list") ho (λxs=>xs.eraseIdxIfInBounds ((r++[y]).toArray.size-1))
  have e3:((r++[y]).toArray.eraseIdxIfInBounds ((r++[y]).toArray.size-1)).toList=r:=by
   have:(r++[y]).eraseIdx r.length=r:=by rw[List.eraseIdx_append_of_length_le (Nat.le_refl _)];simp
   simpa[Array.eraseIdxIfInBounds] using this
  have:=R.upd (U _) s.toks (z0u _ _) (Heap.SameBut.update ..) rfl h1 ⟨_,_,rfl,by rw[e3];exact hr'⟩
  exact⟨X,D,_,DX.refl _ _,hy,this,q _ (US _)⟩
theorem y1I(kk:KK C.prog C.w K){a:Addr}{kvs:List (K×V)}(hs:z0G C)(hm:At σ a (.dict (z0Y kk kvs)))(hn:(kvs.map (·.1)).Nodup)(hl:kvs.length<=sizeLine)
  (q:∀b o,Fresh σ b->Q (.ref b) ((b,o,.dict (z0Y kk kvs))::σ)):KW C d (.type "dict") [.ref a] σ Q:=λA G D s v vs hA R hv hss=>by
 apply VR.typeE hv
 obtain⟨o,hm⟩:=hm
 apply VRs.consE hss;intro _ _ h1 h2
 apply VRs.nilE h2
 apply VR.refE h1
 ·skip
  obtain⟨cvs,hD,hk⟩:=RelC.dcH R kk hm hn
  refine kt_call_dict (R.notSys hs hm) hD (by rw[hk.length];exact hl) λh' hD' hsb=> ?_
  have R1:=R.newM (z1Z #[] 0) (.dict []) ⟨#[],0,rfl,.nil⟩ rfl (λ_ _=>rfl)
  obtain⟨o',ho',hr'⟩:=HR.ofDict kk hD' hk
  exact⟨.ref _,D,_,DX.refl _ _,.ref _,R1.upd (Upd.head (o':=o') (x':= .dict (z0Y kk kvs))) s.toks (z0u _ _) hsb rfl ho' hr',q _ _ R.fresh⟩
theorem z9Q{a:Addr}{kvs:List (Str×V)}(hs:z0G C)(hm:At σ a (dS kvs))(hn:(kvs.map (·.1)).Nodup)(hl:kvs.length<=sizeLine)
  (q:∀b o,Fresh σ b->Q (.ref b) ((b,o,dS kvs)::σ)):KW C d (.type "dict") [.ref a] σ Q:=y1I (KK.str C.prog C.w) hs hm hn hl q
end
end
section
section
variable {C:Cx} {env:Env} {vars:List Str} {gl:List (Str×V)} {own:Bool} {d:Nat} {m m':Loc} {σ:Sto} {Q:V->Sto->Prop} {QS:Fl->Loc->Sto->Prop} {G D:Gh} {s:Shared} {A:Around} {K:Type} [DecidableEq K]
noncomputable def y3r(C:Cx)(A:Around)(s:Shared)(v u:Value):Prop:=∀(E:Value->Shared->Prop) (Z:Bool->Shared->Prop),Z true s->wpAny (model C.prog C.w) A (eqBool v u) Z E s
noncomputable def EqW(C:Cx)(σ:Sto)(x y:V):Prop:=∀(A:Around) (G D:Gh) (s:Shared) (v u:Value),A.units+70<cLine->RelC C G D σ s->VR C.w D v x->VR C.w D u y->y3r C A.in1 s v u
open AutoSeq1 (wpAny_loadPart')
open MeetsSeq MeetsSeq2 MeetsSeq3
theorem z5P(l b:Addr)(items items2:Array Value)(n n2:Nat)(hsz:items.size=items2.size)(k:Nat):
  ∀i:Nat,items.size-i=k->MeetsIn C.prog C.w (Builtin.«list.__eq__.loop» ⟨[.ref l,.ref b,rawInt i,rawInt 3],[]⟩)
   (λA R s=>s.heap.get? l=some (z0p items n)/\s.heap.get? b=some (z0p items2 n2)/\
    (∀j (h1:j<items.size) (h2:j<items2.size),y3r C A.in1 s items[j] items2[j])/\R (.ok (.ret (.bool false))) s):=by
 induction k with
 |zero=>
  intro i hk A R s h
  obtain⟨hp,g,d,tk,os⟩:=s;obtain⟨hl,hb,he,h⟩:=h
  wp_walk using wpAny_loadPart' hl,wpAny_loadPart' hb
  have hi1:items[((i:Nat):Int).toNat]? =none:=by simp;lia
  have hi2:items2[((i:Nat):Int).toNat]? =none:=by simp;lia
  rw[hi1,hi2]
  wp_walk using wpAny_loadPart' hl,wpAny_loadPart' hb
  show R (.ok (.ret (.bool (items.size !=items2.size)))) _
  rw[hsz]
  simpa using h
 |succ k ih=>
  intro i hk A R s h
  obtain⟨hp,g,d,tk,os⟩:=s;obtain⟨hl,hb,he,h⟩:=h
  wp_walk using wpAny_loadPart' hl,wpAny_loadPart' hb
  have hlt:i<items.size:=by lia
  have hlt2:i<items2.size:=by lia
  have hi1:items[((i:Nat):Int).toNat]? =some items[i]:=by simp[hlt]
  have hi2:items2[((i:Nat):Int).toNat]? =some items2[i]:=by simp[hlt2]
  have hc:((i:Int)+1)=((i+1:Nat):Int):=by push_cast;rfl
  rw[hi1,hi2]
  refine wpAny_bind (he i hlt hlt2 _ _ ?_)
  wp_walk
  rw[hc]
  exact⟨plainId_quiet plain_eq_loop _,codeAny_builtin entry_eq_loop (by
   rw[Around.under_plainId plain_eq_loop _]
   exact ih (i+1) (by lia) A R _ ⟨hl,hb,he,h⟩)⟩
theorem y2i(l b:Addr)(items items2:Array Value)(n n2:Nat)(hsz:items.size=items2.size):
  MeetsIn C.prog C.w (Builtin.«list.__ne__» ⟨[.ref l,.ref b],[]⟩)
   (λA R s=>s.heap.get? l=some (z0p items n)/\s.heap.get? b=some (z0p items2 n2)/\
    (∀j (h1:j<items.size) (h2:j<items2.size),y3r C A.in1 s items[j] items2[j])/\R (.ok (.ret (.bool false))) s):=by
 intro A R s h
 obtain⟨hp,g,d,tk,os⟩:=s;obtain⟨hl,hb,he,h⟩:=h
 have f3:=AutoSeq1.sub_list_list
 have hne:¬(items.size !=items2.size)=true:=by simp[hsz]
 wp_walk using wpAny_loadPart' hl,wpAny_loadPart' hb
 exact⟨plainId_quiet plain_eq_loop _,codeAny_builtin entry_eq_loop (by
  rw[Around.under_plainId plain_eq_loop _]
  exact z5P l b items items2 n n2 hsz _ 0 rfl A R _ ⟨hl,hb,he,h⟩)⟩
theorem y0o{x y:V}{xs ys:List V}{P P':Sto->Prop}(hx:Has σ x (.list xs) P)(hy:Has σ y (.list ys) P')(hz:xs.length=ys.length)(h:∀(j:Nat) X Y,xs[j]? =some X->ys[j]? =some Y->EqW C σ X Y)(q:Q (.bool false) σ):AC2 C d (compareOp .NotEq) x y σ Q:=λA G D s v u hA R hv hu=>by
 apply Has.isListE hx R hv;intro a ws n ho hr
 apply Has.isListE hy R hu;intro b zs n' ho' hr'
 have e1:ws.size=xs.length:=by rw[<-hr.length];simp
 have e2:zs.size=ys.length:=by rw[<-hr'.length];simp
 refine wpAny_richCompare_same_room (op:= .NotEq) (T:="list") ⟨_,ho,rfl⟩ ⟨_,ho',rfl⟩ F.slot_list_ne (call_meetsIn F.slot_list_ne ⟨_,ho,rfl⟩ F.entry_list_ne (F.args_list_ne_2 _ _) (y2i a b ws zs n n' (by lia)) ⟨ho,ho',λj h1 h2=> ?_,?_⟩) hA.line0
 ·obtain⟨u1,hu1,r1⟩:=hr.get (List.getElem?_eq_getElem (by lia:j<xs.length))
  obtain⟨u2,hu2,r2⟩:=hr'.get (List.getElem?_eq_getElem (by lia:j<ys.length))
  rw[Array.getElem?_toList,Array.getElem?_eq_getElem h1] at hu1
  rw[Array.getElem?_toList,Array.getElem?_eq_getElem h2] at hu2
  cases hu1;cases hu2
  exact h j _ _ (List.getElem?_eq_getElem (by lia)) (List.getElem?_eq_getElem (by lia)) A G D s _ _ (by have:=hA.units;show A.units+70<9900;lia) R r1 r2
 ·exact⟨(λx=>nomatch x),PostC.now R (.bool _) q⟩
end
end
section
noncomputable def z2L(c:Nat):Bool:=decide (97<=c)&&decide (c<=122)
noncomputable def Lt(x:Str):Prop:=∀c∈x.cps.toList,z2L c=true
theorem Lt.append{x y:Str}(hx:Lt x)(hy:Lt y):Lt (x++y):=by
 intro c hc
 have:c∈(x.cps++y.cps).toList:=hc
 rw[Array.toList_append,List.mem_append] at this
 rcases this with h|h
 ·exact hx c h
 ·exact hy c h
theorem z1h(x y:Str):(x++y).length=x.length+y.length:=by
 show(x.cps++y.cps).size=_
 rw[Array.size_append];rfl
theorem Lt.slice{x:Str}(hx:Lt x)(l u:Option Int):Lt (Txt.slice x l u):=by
 unfold Txt.slice
 split
 ·exact hx
 ·intro c hc
  simp only[List.mem_filterMap] at hc
  obtain⟨i,_,e⟩:=hc
  exact hx c (by simpa using Array.mem_of_getElem? e)
theorem z2X{α:Type}(xs:Array α):∀(l:List Nat),(∀i∈l,i<xs.size)->(l.filterMap (xs[·]?)).length=l.length
 |[],_=>rfl
 |i::l,h=>by
  have hi:=h i (.head _)
  rw[List.filterMap_cons,Array.getElem?_eq_getElem hi]
  simp[z2X xs l λj hj=>h j (.tail _ hj)]
set_option tactic.hygienic true in
theorem z5H{x:Str}(l u:Option Int)(h:∀i∈Builtin.Str.strSliceIndices l u 1 x.length,i<x.length):(Txt.slice x l u).length=(Builtin.Str.strSliceIndices l u 1 x.length).length:=by
 unfold Txt.slice
 split
 ·rename_i h1;simp at h1;exact h1.symm
 ·show(List.toArray _).size=_
  rw[List.size_toArray,z2X x.cps _ h]
theorem sr1{a b:Nat}(h:a<=b):sliceRange (a:Int) (b:Int) 1=(List.range (b-a)).map λk=>a+k:=by
 obtain⟨c,rfl⟩:=Nat.exists_eq_add_of_le h
 have e:(if(a:Int)<((a+c:Nat):Int) then(((a+c:Nat):Int)-a+1-1)/1 else 0)=(c:Int):=by
  rw[Int.ediv_one]
  split<;>lia
 show(List.range (if(a:Int)<((a+c:Nat):Int) then(((a+c:Nat):Int)-a+1-1)/1 else 0).toNat).map _=_
 rw[e,Int.toNat_natCast,Nat.add_sub_cancel_left]
 refine List.map_congr_left λk _=> ?_
 rw[Int.one_mul]
 exact Int.toNat_natCast (a+k)
theorem y0C{n l:Nat}(h:n<=l):max 0 (min (if(n:Int)<0 then(n:Int)+l else n) (l:Int))=(n:Int):=by
 rw[if_neg (Int.not_lt.mpr (Int.natCast_nonneg n)),Int.min_eq_left (Int.ofNat_le.mpr h),Int.max_eq_right (Int.natCast_nonneg n)]
theorem z5z{x:Str}{n:Nat}(h:n<=x.length):(Txt.slice x none (some (n:Int))).length=n:=by
 have e:Builtin.Str.strSliceIndices none (some (n:Int)) 1 x.length=(List.range (n-0)).map λk=>0+k:=by
  show sliceRange ((0:Nat):Int) (max 0 (min (if(n:Int)<0 then(n:Int)+x.length else n) (x.length:Int))) 1=_
  rw[y0C h,sr1 (Nat.zero_le n)]
 rw[z5H,e,List.length_map,List.length_range]
 ·rfl
 ·rw[e];intro i hi
  obtain⟨j,hj,rfl⟩:=List.mem_map.mp hi
  rw[Nat.zero_add];exact Nat.lt_of_lt_of_le (List.mem_range.mp hj) h
theorem z5x{x:Str}{n:Nat}(h:n<=x.length):(Txt.slice x (some (n:Int)) none).length=x.length-n:=by
 have e:Builtin.Str.strSliceIndices (some (n:Int)) none 1 x.length=(List.range (x.length-n)).map λk=>n+k:=by
  show sliceRange (max 0 (min (if(n:Int)<0 then(n:Int)+x.length else n) (x.length:Int))) (x.length:Int) 1=_
  rw[y0C h,sr1 h]
 rw[z5H,e,List.length_map,List.length_range]
 rw[e];intro i hi
 obtain⟨j,hj,rfl⟩:=List.mem_map.mp hi
 exact Nat.add_lt_of_lt_sub' (List.mem_range.mp hj)
theorem y1l(ps:List Str):∀(acc:Array Nat),(∀c∈acc.toList,z2L c=true)->(∀p∈ps,Lt p/\p.length=1)->
  (∀c∈(ps.foldl (λacc p=>acc++(Str.ofString "").cps++p.cps) acc).toList,z2L c=true)/\(ps.foldl (λacc p=>acc++(Str.ofString "").cps++p.cps) acc).size=acc.size+ps.length:=by
 have e0:(Str.ofString "").cps= #[]:=by decide+kernel
 rw[e0]
 induction ps with
 |nil=>intro acc h _;exact⟨h,rfl⟩
 |cons p ps ih=>
  intro acc h hp
  have h1:=hp p (.head _)
  have:=ih (acc++ #[]++p.cps) (by
   intro c hc
   simp only[Array.append_empty,Array.toList_append,List.mem_append] at hc
   rcases hc with hc|hc
   ·exact h c hc
   ·exact h1.1 c hc) (λq hq=>hp q (.tail _ hq))
  refine⟨this.1,?_⟩
  rw[List.foldl_cons,this.2]
  have:p.cps.size=1:=h1.2
  simp[this];lia
theorem y1q{ps:List Str}(hp:∀p∈ps,Lt p/\p.length=1):Lt (Txt.join "" ps)/\(Txt.join "" ps).length=ps.length:=by
 unfold Txt.join Builtin.Str.glued
 cases ps with
 |nil=>exact⟨λc hc=>by simp[Str.empty] at hc,rfl⟩
 |cons p ps=>
  have h1:=hp p (.head _)
  have:=y1l ps p.cps h1.1 λq hq=>hp q (.tail _ hq)
  refine⟨this.1,?_⟩
  show(ps.foldl (λacc p=>acc++(Str.ofString "").cps++p.cps) p.cps).size=_
  rw[this.2]
  have:p.cps.size=1:=h1.2
  simp[this];lia
theorem z51{ps:List Str}(hp:∀p∈ps,p.length=1)(hl:ps.length<=1000):JoinOk "" ps=true:=by
 unfold JoinOk
 have e0:(Str.ofString "").length=0:=by decide+kernel
 have:∀(l:List Str) (n:Nat),(∀p∈l,p.length=1)->l.foldl (λ(a:Nat) (p:Str)=>a+p.length+(Str.ofString "").length) n=n+l.length:=by
  intro l
  induction l with
  |nil=>intro n _;rfl
  |cons p l ih=>intro n h;rw[List.foldl_cons,ih _ (λq hq=>h q (.tail _ hq)),h p (.head _),e0];simp;lia
 have h2:ps.toArray.foldl (λ(a:Nat) (p:Str)=>a+p.length+(Str.ofString "").length) 0=ps.length:=by
  rw[<-Array.foldl_toList];rw[this _ _ hp];simp
 rw[h2]
 unfold Builtin.Str.tooLong
 simp
 show ps.length<=16777216
 lia
theorem z2r{α:Type}(xs:List α):∀(l:List Nat),(∀i∈l,i<xs.length)->(l.filterMap (xs[·]?)).length=l.length
 |[],_=>rfl
 |i::l,h=>by
  have hi:=h i (.head _)
  rw[List.filterMap_cons,List.getElem?_eq_getElem hi]
  simp[z2r xs l λj hj=>h j (.tail _ hj)]
theorem srm{n:Nat}:sliceRange ((n:Int)-1) (-1) (-1)=(List.range n).map λk=>n-1-k:=by
 have e:(if(n:Int)-1> -1 then((n:Int)-1- -1- -1-1)/ -(-1) else 0)=(n:Int):=by
  rw[show-(-1:Int)=1 from rfl,Int.ediv_one]
  split<;>lia
 show(List.range (if(n:Int)-1> -1 then((n:Int)-1- -1- -1-1)/ -(-1) else 0).toNat).map _=_
 rw[e,Int.toNat_natCast]
 exact List.map_congr_left λk hk=>by have:=List.mem_range.mp hk;lia
theorem z9L{xs:List V}{k:Int}(h:k=1∨k= -1):(slL xs none none (some k)).length=xs.length:=by
 have key:∀l:List Nat,(∀i∈l,i<xs.length)->l.length=xs.length->(l.filterMap (xs[·]?)).length=xs.length:=λl h1 h2=>(z2r xs l h1).trans h2
 rcases h with rfl|rfl
 ·have e:sliceRange ((0:Nat):Int) (xs.length:Int) 1=_:=sr1 (Nat.zero_le xs.length)
  show((sliceRange ((0:Nat):Int) (xs.length:Int) 1).filterMap (xs[·]?)).length=_
  rw[e]
  refine key _ (λi hi=> ?_) (by rw[List.length_map,List.length_range];rfl)
  obtain⟨j,hj,rfl⟩:=List.mem_map.mp hi
  rw[Nat.zero_add];exact List.mem_range.mp hj
 ·show((sliceRange ((xs.length:Int)-1) (-1) (-1)).filterMap (xs[·]?)).length=_
  rw[srm]
  refine key _ (λi hi=> ?_) (by rw[List.length_map,List.length_range])
  obtain⟨j,hj,rfl⟩:=List.mem_map.mp hi
  have hj:=List.mem_range.mp hj
  lia
theorem let_size:("abcdefghijklmnopqrstuvwxyz":Str).cps.size=26:=by decide+kernel
theorem let_lt:Lt ("abcdefghijklmnopqrstuvwxyz":Str):=by
 have:("abcdefghijklmnopqrstuvwxyz":Str).cps.toList.all z2L=true:=by decide+kernel
 intro c hc
 exact List.all_eq_true.mp this c hc
theorem z74{k:Int}(h0:0<=k)(h1:k<26):∃c,("abcdefghijklmnopqrstuvwxyz":Str).cps[k.toNat]? =some c/\z2L c=true:=by
 have hk:k.toNat<("abcdefghijklmnopqrstuvwxyz":Str).cps.size:=by rw[let_size];lia
 refine⟨_,Array.getElem?_eq_getElem hk,let_lt _ (by simp)⟩
theorem let_small:∀c<128,(!(Builtin.Str.occurrences ("abcdefghijklmnopqrstuvwxyz":Str) ⟨#[c]⟩ 0 (Str.length "abcdefghijklmnopqrstuvwxyz") 1).isEmpty)=z2L c:=by
 decide+kernel
theorem z9y{c:Nat}(h:z2L c=true):Lt ⟨#[c]⟩:=by
 intro k hk
 simp at hk
 subst hk;exact h
structure Ware(x:Str):Prop where
 lo:1<=x.length
 hi:x.length<=8
 lt:Lt x
end
section
inductive Bf(nx:Str->List Str):Nat->List Str->List Str->List Str->Prop
 |nil {f:List Str}:Bf nx 0 f [] f
 |skip {n:Nat} {f w r:List Str} {x:Str}:x∈f->Bf nx n f w r->Bf nx (n+1) f (x::w) r
 |take {n:Nat} {f w r:List Str} {x:Str}:x∉f->Bf nx n (f++[x]) (w++nx x) r->Bf nx (n+1) f (x::w) r
section
variable {nx:Str->List Str}
theorem Bf.len{n:Nat}{f w r:List Str}(h:Bf nx n f w r):w.length<=n:=by
 induction h with
 |nil=>exact Nat.le_refl _
 |skip _ _ ih=>simp;lia
 |take _ _ ih=>simp at ih⊢;lia
theorem Bf.rlen{n:Nat}{f w r:List Str}(h:Bf nx n f w r):r.length<=f.length+n:=by
 induction h with
 |nil=>exact Nat.le_refl _
 |skip _ _ ih=>lia
 |take _ _ ih=>simp at ih;lia
theorem Bf.all{P:Str->Prop}(hn:∀x,∀y∈nx x,P y){n:Nat}{f w r:List Str}(h:Bf nx n f w r):(∀x∈f,P x)->(∀x∈w,P x)->∀x∈r,P x:=by
 induction h with
 |nil=>exactλh _=>h
 |skip _ _ ih=>exactλh1 h2=>ih h1 λx hx=>h2 x (.tail _ hx)
 | @take n f w r x _ _ ih=>
  intro h1 h2
  refine ih (λy hy=> ?_) λy hy=> ?_
  ·rcases List.mem_append.mp hy with h|h
   ·exact h1 y h
   ·rw[List.mem_singleton.mp h];exact h2 _ (.head _)
  ·rcases List.mem_append.mp hy with h|h
   ·exact h2 y (.tail _ h)
   ·exact hn x y h
theorem Bf.drop{n:Nat}{f u r:List Str}(h:Bf nx n f u r):∀{w1 w2:List Str} {y:Str},u=w1++y::w2->(y∈f∨y∈w1)->∃k,k<=n/\Bf nx k f (w1++w2) r:=by
 induction h with
 |nil=>intro w1 w2 y e _;simp at e
 | @skip n f w r x hx h ih=>
  intro w1 w2 y e hy
  cases w1 with
  |nil=>simp at e;obtain⟨rfl,rfl⟩:=e;exact⟨n,by lia,h⟩
  |cons z w1=>
   simp at e;obtain⟨rfl,rfl⟩:=e
   obtain⟨k,hk,hb⟩:=ih rfl (by
    rcases hy with h|h
    ·exact .inl h
    ·rcases List.mem_cons.mp h with rfl|h
     ·exact .inl hx
     ·exact .inr h)
   exact⟨k+1,by lia,.skip hx hb⟩
 | @take n f w r x hx h ih=>
  intro w1 w2 y e hy
  cases w1 with
  |nil=>
   simp at e;obtain⟨rfl,rfl⟩:=e
   rcases hy with h|h
   ·exact absurd h hx
   ·cases h
  |cons z w1=>
   simp at e;obtain⟨rfl,rfl⟩:=e
   obtain⟨k,hk,hb⟩:=ih (w1:=w1) (w2:=w2++nx x) (y:=y) (by simp) (by
    rcases hy with h|h
    ·exact .inl (List.mem_append_left _ h)
    ·rcases List.mem_cons.mp h with rfl|h
     ·exact .inl (List.mem_append_right _ (.head _))
     ·exact .inr h)
   exact⟨k+1,by lia,.take hx (by simpa using hb)⟩
noncomputable def z03(f ys:List Str):List Str:=ys.foldl (λg y=>if g.any (·==y) then g else g++[y]) f
theorem any_mem{xs:List Str}{k:Str}:xs.any (·==k)=true↔k∈xs:=by simp[List.any_eq_true]
theorem addNew_nodup:∀{ys f:List Str},f.Nodup->(z03 f ys).Nodup
 |[],f,h=>h
 |y::ys,f,h=>by
  show(z03 (if f.any (·==y) then f else f++[y]) ys).Nodup
  refine addNew_nodup ?_
  by_cases e:f.any (·==y)=true
  ·rw[if_pos e];exact h
  ·rw[if_neg e]
   exact List.nodup_append.mpr ⟨h,by simp,λa ha b hb=>by rw[List.mem_singleton.mp hb];exactλe2=>e (any_mem.mpr (e2▸ha))⟩
theorem z7G(f ys:List Str)(y:Str):z03 f (ys++[y])=if(z03 f ys).any (·==y) then z03 f ys else z03 f ys++[y]:=by
 unfold z03;rw[List.foldl_append];rfl
theorem addNew_len:∀(ys f:List Str),(z03 f ys).length<=f.length+ys.length
 |[],f=>Nat.le_refl _
 |y::ys,f=>by
  show(z03 (if f.any (·==y) then f else f++[y]) ys).length<=_
  have:=addNew_len ys (if f.any (·==y) then f else f++[y])
  split at this<;>simp at this⊢<;>split<;>simp_all<;>lia
theorem Bf.news{r f:List Str}:∀{ys w:List Str} {n:Nat},Bf nx n f (w++ys) r->∃k v,k<=n/\Bf nx k f v r/\z03 (f++w) ys=f++v
 |[],w,n,h=>⟨n,w,Nat.le_refl _,by simpa using h,rfl⟩
 |y::ys,w,n,h=>by
  show∃k v,k<=n/\Bf nx k f v r/\z03 (if(f++w).any (·==y) then f++w else(f++w)++[y]) ys=f++v
  by_cases e:(f++w).any (·==y)=true
  ·rw[if_pos e]
   obtain⟨k,hk,hb⟩:=h.drop rfl (List.mem_append.mp (any_mem.mp e))
   obtain⟨k',v,hk',hb',e'⟩:=Bf.news hb
   exact⟨k',v,by lia,hb',e'⟩
  ·rw[if_neg e]
   obtain⟨k',v,hk',hb',e'⟩:=Bf.news (ys:=ys) (w:=w++[y]) (n:=n) (by simpa using h)
   exact⟨k',v,hk',hb',by rw[<-e'];simp⟩
noncomputable def rest(nx:Str->List Str)(U f:List Str):Nat:=((U.filter λx=> !f.any (·==x)).map λx=>(nx x).length).sum
theorem z8u(U f:List Str)(x:Str):rest nx U (f++[x])<=rest nx U f:=by
 induction U with
 |nil=>exact Nat.le_refl _
 |cons u U ih=>
  unfold rest at*
  simp only[List.filter_cons]
  by_cases e:f.any (·==u)=true
  ·have e2:(f++[x]).any (·==u)=true:=by rw[List.any_append,e];rfl
   simp only[e,e2,Bool.not_true,Bool.false_eq_true,if_false];exact ih
  ·have e':f.any (·==u)=false:=eq_false_of_ne_true e
   simp only[e',Bool.not_false,if_true]
   split
   ·simp only[List.map_cons,List.sum_cons];lia
   ·simp only[List.map_cons,List.sum_cons];lia
theorem y1t{U f:List Str}{x:Str}(hx:x∈U)(hf:x∉f):rest nx U (f++[x])+(nx x).length<=rest nx U f:=by
 induction U with
 |nil=>cases hx
 |cons u U ih=>
  by_cases e:u=x
  ·subst e
   have h1:f.any (·==u)=false:=by
    cases h:f.any (·==u) with
    |false=>rfl
    |true=>exact absurd (any_mem.mp h) hf
   have h2:(f++[u]).any (·==u)=true:=any_mem.mpr (by simp)
   have:=z8u (nx:=nx) U f u
   unfold rest at*
   simp only[List.filter_cons,h1,h2,Bool.not_true,Bool.not_false,Bool.false_eq_true,if_false,if_true,List.map_cons,List.sum_cons]
   lia
  ·have ih:=ih (by
    rcases List.mem_cons.mp hx with h|h
    ·exact absurd h.symm e
    ·exact h)
   have h2:(f++[x]).any (·==u)=f.any (·==u):=by
    rw[List.any_append]
    have:([x].any λy=>y==u)=false:=by simp;exactλh=>e h.symm
    rw[this,Bool.or_false]
   unfold rest at*
   simp only[List.filter_cons,h2]
   split
   ·simp only[List.map_cons,List.sum_cons];lia
   ·exact ih
theorem y0P{U:List Str}(hU:∀x,x∉U->nx x=[]):∀(n:Nat) (f w:List Str),w.length+rest nx U f<=n->∃k r,k<=n/\Bf nx k f w r
 |n,f,[],_=>⟨0,f,Nat.zero_le _,.nil⟩
 |0,f,x::w,h=>by simp at h
 |n+1,f,x::w,h=>by
  simp at h
  by_cases e:x∈f
  ·obtain⟨k,r,hk,hb⟩:=y0P hU n f w (by lia)
   exact⟨k+1,r,by lia,.skip e hb⟩
  ·obtain⟨k,r,hk,hb⟩:=y0P hU n (f++[x]) (w++nx x) (by
    by_cases hx:x∈U
    ·have:=y1t (nx:=nx) hx e;simp;lia
    ·have:=z8u (nx:=nx) U f x;rw[hU x hx];simp;lia)
   exact⟨k+1,r,by lia,.take e hb⟩
theorem y0a{U f:List Str}{b:Nat}(h:∀x,(nx x).length<=b):rest nx U f<=b*U.length:=by
 induction U with
 |nil=>exact Nat.zero_le _
 |cons u U ih=>
  have:=h u
  unfold rest at*
  simp only[List.filter_cons]
  rw[List.length_cons,Nat.mul_succ]
  split
  ·simp;lia
  ·lia
end
end
section
section
variable {nx:Str->List Str}
theorem Bf.pre{n:Nat}{f w r:List Str}(h:Bf nx n f w r):f<+:r:=by
 induction h with
 |nil=>exact List.prefix_refl _
 |skip _ _ ih=>exact ih
 |take _ _ ih=>exact List.IsPrefix.trans (List.prefix_append _ _) ih
theorem z4n{α:Type}:∀{l:List α} {j:Nat} {x:α},l[j]? =some x->l.drop j=x::l.drop (j+1)
 |[],_,_,h=>by simp at h
 |a::l,0,x,h=>by simp at h;subst h;rfl
 |a::l,j+1,x,h=>z4n (l:=l) (by simpa using h)
end
end
section
section
variable {nx nx1 nx2:Str->List Str}
theorem Bf.nodup{n:Nat}{f w r:List Str}(h:Bf nx n f w r):f.Nodup->r.Nodup:=by
 induction h with
 |nil=>exact id
 |skip _ _ ih=>exact ih
 |take hx _ ih=>exactλhf=>ih (List.nodup_append.mpr ⟨hf,by simp,λa ha b hb=>by rw[List.mem_singleton.mp hb];exactλe=>hx (e▸ha)⟩)
theorem Bf.det{n1 n2:Nat}{f w r1 r2:List Str}(h:Bf nx n1 f w r1):Bf nx n2 f w r2->r1=r2:=by
 induction h generalizing n2 with
 |nil=>intro h2;cases h2;rfl
 |skip hx _ ih=>intro h2;cases h2 with
  |skip _ h2=>exact ih h2
  |take hn _=>exact absurd hx hn
 |take hx _ ih=>intro h2;cases h2 with
  |skip h _=>exact absurd h hx
  |take _ h2=>exact ih h2
theorem Bf.closed{n:Nat}{f w r:List Str}(h:Bf nx n f w r):(∀x∈f,x∈r)/\(∀x∈w,x∈r)/\∀y∈r,y∉f->∀x∈nx y,x∈r:=by
 induction h with
 |nil=>exact⟨λ_ h=>h,(λ_ h=>by cases h),λy hy hn=>absurd hy hn⟩
 |skip hx _ ih=>
  obtain⟨h1,h2,h3⟩:=ih
  refine⟨h1,λx hx'=> ?_,h3⟩
  rcases List.mem_cons.mp hx' with rfl|h
  ·exact h1 _ hx
  ·exact h2 _ h
 | @take n f w r x hx _ ih=>
  obtain⟨h1,h2,h3⟩:=ih
  refine⟨λy hy=>h1 y (List.mem_append_left _ hy),λy hy=> ?_,λy hy hn z hz=> ?_⟩
  ·rcases List.mem_cons.mp hy with rfl|h
   ·exact h1 _ (List.mem_append_right _ (.head _))
   ·exact h2 _ (List.mem_append_left _ h)
  ·by_cases e:y=x
   ·subst e;exact h2 z (List.mem_append_right _ hz)
   ·exact h3 y hy (λh=>by
     rcases List.mem_append.mp h with h|h
     ·exact hn h
     ·exact e (List.mem_singleton.mp h)) z hz
theorem Bf.agree{n1 n2:Nat}{f w r1 r2:List Str}{m:Nat}(h:Bf nx1 n1 f w r1):Bf nx2 n2 f w r2->(∀x∈r1.take m,nx1 x=nx2 x)->r1.take (m+1)=r2.take (m+1):=by
 induction h generalizing n2 with
 |nil=>intro h2 _;cases h2;rfl
 |skip hx _ ih=>intro h2 ha;cases h2 with
  |skip _ h2=>exact ih h2 ha
  |take hn _=>exact absurd hx hn
 | @take n f w r x hx hb ih=>intro h2 ha;cases h2 with
  |skip h _=>exact absurd h hx
  |take _ h2=>
   by_cases hl:f.length<m
   ·have h0:x∈r.take m:=List.mem_iff_getElem?.mpr ⟨f.length,by
     rw[List.getElem?_take_of_lt hl]
     obtain⟨t,rfl⟩:=hb.pre
     rw[List.append_assoc,List.getElem?_append_right (Nat.le_refl _),Nat.sub_self];rfl⟩
    rw[<-ha x h0] at h2
    exact ih h2 ha
   ·obtain⟨t,rfl⟩:=hb.pre
    obtain⟨t2,rfl⟩:=h2.pre
    have:m+1<=(f++[x]).length:=by rw[List.length_append];simp;lia
    rw[List.take_append_of_le_length this,List.take_append_of_le_length this]
end
end
section
section
variable {M:Model} {A:Around} {E:Value->Shared->Prop} {s:Shared}
end
section
variable {C:Cx} {env:Env} {vars:List Str} {gl gl':List (Str×V)} {own:Bool} {d:Nat} {m m':Loc} {σ σ':Sto}
variable {A:Around} {G D D₀ D₁:Gh} {s:Shared}
theorem y1D{Q:V->Sto->Prop}{x y:V}{xs ys:List V}{P P':Sto->Prop}(h:Has σ x (.list xs) P)(h':Has σ y (.list ys) P')(hl:xs.length+ys.length<=sizeLine)(q:∀a o,Fresh σ a->Q (.ref a) ((a,o,.list (xs++ys))::σ)):AC2 C d (binaryOp .Add) x y σ Q:=λA G D s v u hA R hv hu=>by
 apply Has.isListE h R hv;intro a ws n ho hr
 apply Has.isListE h' R hu;intro b zs n' ho' hr'
 have e1:ws.size=xs.length:=by rw[<-hr.length];simp
 have e2:zs.size=ys.length:=by rw[<-hr'.length];simp
 refine concat_meets ⟨_,ho,rfl⟩ ⟨_,ho',rfl⟩ noFill_list_add seq_list_add F.slot_list_add F.entry_list_add (F.args_list_add_2 _ _) (PyProof.Rows.list_addW a b ws zs n n' none none #[] #[] (by lia)) ⟨ho,ho',?_⟩
 have e:ws++zs=(ws.toList++zs.toList).toArray:=by simp
 rw[e]
 exact⟨.ref _,D,_,DX.refl _ _,.ref _,R.newM (z0p (ws.toList++zs.toList).toArray 0) (.list (xs++ys)) ⟨_,0,rfl,by simpa using hr.append hr'⟩ rfl (λ_ _=>rfl),q _ _ R.fresh⟩
end
end
section
section
variable {C:Cx} {env:Env} {vars:List Str} {gl:List (Str×V)} {own:Bool} {d:Nat} {m m':Loc} {σ:Sto} {Q:V->Sto->Prop} {QS:Fl->Loc->Sto->Prop} {G D:Gh} {s:Shared} {A:Around} {K:Type} [DecidableEq K]
inductive F2{α β:Type}(R:α->β->Prop):List α->List β->Prop
 |nil:F2 R [] []
 |cons {a:α} {b:β} {as:List α} {bs:List β}:R a b->F2 R as bs->F2 R (a::as) (b::bs)
theorem z8a [HM C]{caps:List Str}{x y:Str}{elt:Expr}{p1 p2 pt:Pos}{kt:Nat}{P:Sto->Prop}{Z:List V->Sto->Prop}{ms:Loc}{Gd:V×V->V->Prop}(hk1:env.kindOf x=some .local)(hk2:env.kindOf y=some .local)(hP:P σ)(ps:List (V×V)):
  ∀(acc:List V) (o1 o2:Option V),(∀p∈ps,∀K:V->Sto->Prop,(∀Y,Gd p Y->K Y σ)->AT C env (x::y::caps) gl false d (eval elt env) (some p.1::some p.2::ms) σ K)->(∀ys:List V,F2 Gd ps ys->Z (acc++ys) σ)->
   z0S C env (x::y::caps) gl d (.Tuple [.Name x p1,.Name y p2] kt pt) elt [] P Z (ps.map λp=>V.tup [p.1,p.2]) acc (o1::o2::ms) σ:=by
 induction ps with
 |nil=>intro acc o1 o2 _ q;simpa[z0S] using q [] .nil
 |cons p ps ih=>
  intro acc o1 o2 h q
  refine y0D (z0v Put.head (z0v (Put.tail Put.head) ?_ (.inr hk2)) (.inr hk1))
  refine⟨λ_=>h p (.head _) _ λY hY=>⟨hP,ih (acc++[Y]) _ _ (λY hY=>h Y (.tail _ hY)) λys hs=> ?_⟩,λe=>by cases e⟩
  rw[List.append_assoc]
  exact q (Y::ys) (.cons hY hs)
open AutoSeq1 (wpAny_loadPart')
open MeetsSeq
theorem y1y(l b:Addr)(items items2:Array Value)(n n2:Nat)(hsz:(items.size !=items2.size)=true):
  MeetsIn C.prog C.w (Builtin.«list.__ne__» ⟨[.ref l,.ref b],[]⟩)
   (λA R s=>s.heap.get? l=some (z0p items n)/\s.heap.get? b=some (z0p items2 n2)/\R (.ok (.ret (.bool true))) s):=by
 intro A R s h
 obtain⟨hp,g,d,tk,os⟩:=s;obtain⟨hl,hb,h⟩:=h
 have f3:=AutoSeq1.sub_list_list
 wp_walk using wpAny_loadPart' hl,wpAny_loadPart' hb
 exact h
theorem z5Q{x:V}{xs:List V}{P:Sto->Prop}(hx:Has σ x (.list xs) P)(q:Q (.bool (!xs.isEmpty)) σ):AC2 C d (compareOp .NotEq) x (.lst []) σ Q:=by
 cases xs with
 |nil=>exact y0o hx (.lst _) rfl (λj X Y h=>by cases h) q
 |cons X xs=>
  intro A G D s v u hA R hv hu
  apply Has.isListE hx R hv;intro a ws n ho hr
  apply Has.isListE (Has.lst (σ:=σ) []) R hu;intro b zs n' ho' hr'
  have e1:ws.size=xs.length+1:=by rw[<-Array.length_toList,hr.length,List.length_cons]
  have e2:zs.size=0:=by rw[<-Array.length_toList,hr'.length];rfl
  refine wpAny_richCompare_same_room (op:= .NotEq) (T:="list") ⟨_,ho,rfl⟩ ⟨_,ho',rfl⟩ F.slot_list_ne (call_meetsIn F.slot_list_ne ⟨_,ho,rfl⟩ F.entry_list_ne (F.args_list_ne_2 _ _) (y1y a b ws zs n n' (by rw[e1,e2];rfl)) ⟨ho,ho',?_⟩) hA.line0
  exact⟨(λx=>nomatch x),PostC.now R (.bool _) q⟩
end
end
section
section
variable {C:Cx} {env:Env} {vars:List Str} {gl:List (Str×V)} {own:Bool} {d:Nat} {m m':Loc} {σ:Sto} {Q:V->Sto->Prop} {QI:List V->(Sto->Prop)->Sto->Prop}
theorem y25 [HM C]{np p:Pos}{e tgt:Expr}(h:AT C env vars gl own d (eval (.Name "reversed" np) env) m σ λF σ₁=>F= .type "reversed"/\AL C env vars gl own d (spliced (backTo p (starEach [e] env))) m σ₁ λXs σ₂=>∃X xs P,Xs=[X]/\Has σ₂ X (.list xs) P/\QI xs.reverse P σ₂)
  (he:autoParam (starEach [e] env=(false,eval e env)::starEach [] env) auR) (hplain:autoParam ((backTo p (starEach [] env)).any (·.1)=false) auR):
  AI C env vars gl own d (.Call (.Name "reversed" np) [e] [] p) tgt m σ QI:=λA G D s hA R=>by
 refine wpAny_Call_ofName (h.run hA R λv s₁ F D₁ σ₁ a b c hpp=> ?_)
 obtain⟨hF,hk⟩:=hpp
 subst hF
 refine z1c (F:= .type "reversed") trivial b (by rw[he];exact hplain) ?_
 rw[he] at hk⊢
 refine Calls.evalArgs_plain (AL.run hk hA c λvs s₂ Xs D₂ σ₂ a' b' c' hpp=> ?_)
 obtain⟨X,xs,P,hX,hH,q⟩:=hpp
 refine⟨c'.toRelC.baseIn,?_⟩
 subst hX
 apply VR.typeE b
 apply VRs.consE b';intro _ _ h1 h2
 apply VRs.nilE h2
 apply Has.runLE hH c'.toRelC h1;intro ax vs n ho hr hP hst
 have hl:s₂.heap.IsList ax vs:=⟨_,ho,rfl,n,rfl⟩
 have hne:ax≠s₂.heap.objs.size:=Nat.ne_of_lt (Heap.lt_size ho)
 have hz:vs.size=xs.length:=by rw[<-hr.length,Array.length_toList]
 have hit:(s₂.heap.push (revObj ax ((vs.size:Int)-1))).IsRevIter s₂.heap.objs.size ax ((vs.size:Int)-1-((0:Nat):Int)):=⟨_,Heap.get?_push_size _ rfl,rfl,by simp[revObj]⟩
 refine call_reversed_list hl (wpAny_pyIter_revIter hit ⟨D₂,σ₂,xs.reverse,P,a.trans a',⟨s₂.heap.objs.size,_,_,_,rfl,IW.two (Walks.listRev hA.hh s₂.heap.objs.size ax hne vs) (by rw[List.length_reverse];exact hz) ?_ (λi h st=>by obtain⟨_,⟨o,ho,hc,_⟩,_⟩:=st;exact⟨o,_,ho,hc,by decide⟩) (λh st=>by obtain⟨_,_,o,ho,_⟩:=st;exact⟨o,ho⟩),⟨Nat.zero_le _,hit,hl.push _⟩,c'.push _,c'.offNew (z0p #[] 0),hP,z8A ho hst⟩,q⟩)
 ·intro i u X e hX
  have hi:i<xs.length:=by rw[<-List.length_reverse];exact(List.getElem?_eq_some_iff.mp hX).1
  rw[List.getElem?_reverse hi] at hX
  obtain⟨u',e',r⟩:=hr.get hX
  rw[Array.getElem?_toList,<-hz,e] at e';cases e';exact r
theorem y3v{x:V}{ns:List Int}{k:Int}{P:Sto->Prop}(h:Has σ x (.list (ns.map V.int)) P)(q:Q (.bool (ns.any (·==k))) σ):AC2 C d (compareOp .In) (.int k) x σ Q:=λA G D s v u hA R hv hu=>by
 apply Has.isLE h R hu;intro a ws hL hr
 apply VR.intE hv;intro t
 exact PyProof.Rows.in_list_ints (vs:=ws.toList) (by simpa using hL) hr.ints (PostC.now R (.bool _) q)
theorem y04{σ:Sto}:(foot σ).Nodup->∀{a:Addr} {o o':Obj} {x y:AO},(a,o,x)∈σ->(a,o',y)∈σ->x=y:=by
 induction σ with
 |nil=>exactλ_ _ _ _ _ _ h=>by cases h
 |cons p σ ih=>
  obtain⟨b,ob,z⟩:=p
  intro hn a o o' x y h1 h2
  obtain⟨_,hn2,hd⟩:=List.nodup_append.mp (show(z0F b z++foot σ).Nodup from hn)
  rcases List.mem_cons.mp h1 with e1|h1
  ·cases e1
   rcases List.mem_cons.mp h2 with e2|h2
   ·cases e2;rfl
   ·exact absurd rfl (hd _ (z0u _ _) _ (z1J h2))
  ·rcases List.mem_cons.mp h2 with e2|h2
   ·cases e2
    exact absurd rfl (hd _ (z0u _ _) _ (z1J h1))
   ·exact ih hn2 h1 h2
theorem At.inj{a:Addr}{x y:AO}(hn:(foot σ).Nodup)(h:At σ a x)(h':At σ a y):x=y:=by
 obtain⟨_,h⟩:=h;obtain⟨_,h'⟩:=h'
 exact y04 hn h h'
theorem y4w{t:Sem Value}(h:(foot σ).Nodup->AT C env vars gl own d t m σ Q):AT C env vars gl own d t m σ Q:=λA G D s hA R=>h R.toRelC.nd A G D s hA R
end
end
section
section
variable {C:Cx} {env:Env} {vars:List Str} {gl:List (Str×V)} {own:Bool} {d:Nat} {m:Loc} {σ:Sto} {Q:V->Sto->Prop} {QI:List V->(Sto->Prop)->Sto->Prop}
noncomputable def y0j(xs ys:List V):List V:=(xs.zip ys).map λp=>V.tup [p.1,p.2]
theorem z5T{xs ys:List V}{i:Nat}{X:V}(h:(y0j xs ys)[i]? =some X):∃Y Z,xs[i]? =some Y/\ys[i]? =some Z/\X= .tup [Y,Z]:=by
 unfold y0j at h
 rw[List.getElem?_map] at h
 cases e:(xs.zip ys)[i]? with
 |none=>rw[e] at h;cases h
 |some p=>rw[e] at h;cases h;obtain⟨h1,h2⟩:=List.getElem?_zip_eq_some.mp e;exact⟨_,_,h1,h2,rfl⟩
theorem IW.more{A:Around}{D:Gh}{tgt:Expr}{I:Addr}{fp wr:List Addr}{xs:List V}{St:Nat->Heap->Prop}(W:IW C A tgt I fp wr D xs St){t:Addr}(ht:t∈fp)(hl:∀i h,St i h->∃o,h.get? t=some o/\¬frk o):IW C A tgt I fp (t::wr) D xs St where
 live:=λi h st a ha=>by
  rcases List.mem_cons.mp ha with rfl|ha
  ·exact hl i h st
  ·exact W.live i h st a ha
 sub:=λb hb=>by
  rcases List.mem_cons.mp hb with rfl|hb
  ·exact ht
  ·exact W.sub b hb
 old:=λb hb hn=>W.old b hb λh=>hn (.tail _ h)
 frame:=W.frame
 item:=λi X s K hX st h=>W.item i X s K hX st λv s₁ hq=>h v s₁ λQ' q=>hq Q' λh' tk a b c=>q h' tk a b λb o hb e=>c b o (λh=>hb (.tail _ h)) e
 self:=W.self
 done:=λs K st h=>W.done s K st λh' tk c=>h h' tk λb o hb e=>c b o (λh=>hb (.tail _ h)) e
theorem y0E [HM C]{np p:Pos}{e1 e2:Expr}{elts:List Expr}{k:Nat}{pos:Pos}(h:AT C env vars gl own d (eval (.Name "zip" np) env) m σ λF σ₁=>F= .type "zip"/\AL C env vars gl own d (spliced (backTo p (starEach [e1,e2] env))) m σ₁ λXs σ₂=>∃X Y xs ys P P',Xs=[X,Y]/\Has σ₂ X (.list xs) P/\Has σ₂ Y (.list ys) P'/\QI (y0j xs ys) (λσ=>P σ/\P' σ) σ₂)
  (he:autoParam (starEach [e1,e2] env=(false,eval e1 env)::starEach [e2] env) auR) (hplain:autoParam ((backTo p (starEach [e2] env)).any (·.1)=false) auR):
  AI C env vars gl own d (.Call (.Name "zip" np) [e1,e2] [] p) (.Tuple elts k pos) m σ QI:=λA G D s hA R=>by
 refine wpAny_Call_ofName (h.run hA R λv s₁ F D₁ σ₁ a b c hpp=> ?_)
 obtain⟨hF,hk⟩:=hpp
 subst hF
 refine z1c (F:= .type "zip") trivial b (by rw[he];exact hplain) ?_
 rw[he] at hk⊢
 refine Calls.evalArgs_plain (AL.run hk hA c λvs s₂ Xs D₂ σ₂ a' b' c' hpp=> ?_)
 obtain⟨X,Y,xs,ys,P,P',hX,hH,hH',q⟩:=hpp
 refine⟨c'.toRelC.baseIn,?_⟩
 subst hX
 apply VR.typeE b
 apply VRs.consE b';intro _ _ h1 h2'
 apply VRs.consE h2';intro _ _ h2 h3
 apply VRs.nilE h3
 apply Has.runLE hH c'.toRelC h1;intro ax ws n ho hr hP hst
 apply Has.runLE hH' c'.toRelC h2;intro ay us n' ho' hr' hP' hst'
 refine call_zip_2 (xs:=ws) (ys:=us) ⟨_,ho,rfl,n,rfl⟩ ⟨_,ho',rfl,n',rfl⟩ λh' z1 z2 z3 z4 z5 hsz hkp=>wpAny_pyIter_zip z1 ?_
 have R':RelF C env vars gl own G D₂ m σ₂ {s₂ with heap:=h'}:=c'.back (c'.lifted.keep s₂.toks hkp) (DX.refl _ _)
 have offn:∀b,s₂.heap.objs.size<=b->G b=none/\D₂ b=none/\b∉foot σ₂/\¬z2j env vars b:=λb hb=>⟨by
   cases e:G b with
   |none=>rfl
   |some o=>obtain⟨_,h,_⟩:=c'.g _ _ e;exact absurd (Heap.lt_size h) (Nat.not_lt.mpr hb),by
   cases e:D₂ b with
   |none=>rfl
   |some o=>exact absurd (Heap.lt_size (c'.d _ _ e)) (Nat.not_lt.mpr hb),λhf=>absurd (c'.toRelC.footLt hf) (Nat.not_lt.mpr hb),λhm=>by
   obtain⟨o,eo⟩:=c'.mineLives hm
   exact absurd (Heap.lt_size eo) (Nat.not_lt.mpr hb)⟩
 have hlt0:=Heap.lt_size ho
 have hlt0':=Heap.lt_size ho'
 generalize hN:s₂.heap.objs.size=N at*
 have hlt: @LT.lt Nat _ ax N:=hlt0
 have hlt': @LT.lt Nat _ ay N:=hlt0'
 have Dz:ZipApart (N+4) (N+2) (N+3) N (N+1) ax ay:=by constructor<;>first|exact Nat.ne_of_lt (by lia)|exact Nat.ne_of_gt (by lia)
 refine⟨D₂,σ₂,y0j xs ys,(λσ=>P σ/\P' σ),a.trans a',⟨N+4,_,_,_,rfl,IW.more (t:=N+2) (IW.ofWalksT (WalksT.zip2 hA.hh (N+4) (N+2) (N+3) N (N+1) ax ay Dz ws us) (by simp[y0j];rw[<-hr.length,<-hr'.length];simp) ?_ ?_ ?_) (by simp) (λi h st=>⟨_,st.2.1,nfC (frN (by decide))⟩),⟨z1,z2,⟨_,_,z3⟩,z4,z5,⟨_,hkp _ _ ho,rfl,n,rfl⟩,⟨_,hkp _ _ ho',rfl,n',rfl⟩⟩,R',?_,⟨hP,hP'⟩,?_⟩,q⟩
 ·rintro i vals X ⟨x,y,hx,hy,rfl⟩ hX
  obtain⟨Y,Z,hY,hZ,rfl⟩:=z5T hX
  obtain⟨u,e,r⟩:=hr.get hY
  obtain⟨u',e',r'⟩:=hr'.get hZ
  rw[Array.getElem?_toList,hx] at e;cases e
  rw[Array.getElem?_toList,hy] at e';cases e'
  exact⟨_,rfl,.cons r (.cons r' .nil)⟩
 ·intro i h st
  obtain⟨y1,_,⟨_,_,y3⟩,⟨_,y4,c4,_⟩,⟨_,y5,c5,_⟩,_⟩:=st
  exact(List.forall_mem_cons.mpr ⟨⟨_,y1,nfC (frN (by decide))⟩,(List.forall_mem_cons.mpr ⟨⟨_,y3,nfC (frN (by decide))⟩,(List.forall_mem_cons.mpr ⟨⟨_,y4,nfC (by rw[c4];exact frN (by decide))⟩,(List.forall_mem_cons.mpr ⟨⟨_,y5,nfC (by rw[c5];exact frN (by decide))⟩,(λ_ h=>nomatch h)⟩)⟩)⟩)⟩)
 ·intro b hb _ h st e1
  obtain⟨y1,y2,⟨_,_,y3⟩,⟨_,y4,_⟩,⟨_,y5,_⟩,⟨_,y6,_⟩,⟨_,y7,_⟩⟩:=st
  obtain⟨o,ho⟩:=(show∀b∈[N+4,N+2,N+3,N,N+1,ax,ay],∃o,h.get? b=some o from(List.forall_mem_cons.mpr ⟨⟨_,y1⟩,(List.forall_mem_cons.mpr ⟨⟨_,y2⟩,(List.forall_mem_cons.mpr ⟨⟨_,y3⟩,(List.forall_mem_cons.mpr ⟨⟨_,y4⟩,(List.forall_mem_cons.mpr ⟨⟨_,y5⟩,(List.forall_mem_cons.mpr ⟨⟨_,y6⟩,(List.forall_mem_cons.mpr ⟨⟨_,y7⟩,(λ_ h=>nomatch h)⟩)⟩)⟩)⟩)⟩)⟩)⟩)) b hb
  rw[ho] at e1;cases e1
 ·exactλb hb=>offn b ((show∀b∈[N+2,N+4,N+3,N,N+1],N<=b from(List.forall_mem_cons.mpr ⟨Nat.le_add_right _ _,(List.forall_mem_cons.mpr ⟨Nat.le_add_right _ _,(List.forall_mem_cons.mpr ⟨Nat.le_add_right _ _,(List.forall_mem_cons.mpr ⟨Nat.le_refl _,(List.forall_mem_cons.mpr ⟨Nat.le_add_right _ _,(λ_ h=>nomatch h)⟩)⟩)⟩)⟩)⟩)) b hb)
 ·intro G' D' σ' s' Rx hsb hP2
  exact(List.forall_mem_cons.mpr ⟨λhn=>absurd (.tail _ (.head _)) hn,(List.forall_mem_cons.mpr ⟨λhn=>absurd (.head _) hn,(List.forall_mem_cons.mpr ⟨λhn=>absurd (.tail _ (.tail _ (.head _))) hn,(List.forall_mem_cons.mpr ⟨λhn=>absurd (.tail _ (.tail _ (.tail _ (.head _)))) hn,(List.forall_mem_cons.mpr ⟨λhn=>absurd (.tail _ (.tail _ (.tail _ (.tail _ (.head _))))) hn,(List.forall_mem_cons.mpr ⟨λ_ o2 e2=>by rw[hkp _ _ ho] at e2;cases e2;exact hst G' D' σ' s' Rx hsb hP2.1,(List.forall_mem_cons.mpr ⟨λ_ o2 e2=>by rw[hkp _ _ ho'] at e2;cases e2;exact hst' G' D' σ' s' Rx hsb hP2.2,(λ_ h=>nomatch h)⟩)⟩)⟩)⟩)⟩)⟩)⟩)
noncomputable def EqV(C:Cx)(σ:Sto)(n:Nat)(x y:V):Prop:=∀(A:Around) (G D:Gh) (s:Shared) (v u:Value),A.units+n<cLine->RelC C G D σ s->VR C.w D v x->VR C.w D u y->SeqAt.EqAt A s v u true
theorem EqV.mono{n n':Nat}{x y:V}(h:EqV C σ n x y)(hn:n<=n'):EqV C σ n' x y:=λA G D s v u hu=>h A G D s v u (Nat.lt_of_le_of_lt (Nat.add_le_add_left hn _) hu)
theorem EqV.none:EqV C σ 0 .none .none:=λA G D s v u hl R hv hu=>by rw[hv.noneI,hu.noneI];exact .same _
theorem EqV.bool{b:Bool}:EqV C σ 0 (.bool b) (.bool b):=λA G D s v u hl R hv hu=>by rw[hv.boolI,hu.boolI];exact .same _
theorem EqV.ref{a:Addr}:EqV C σ 0 (.ref a) (.ref a):=λA G D s v u hl R hv hu=>by rw[hv.refI,hu.refI];exact .same _
theorem EqV.int{i:Int}:EqV C σ 0 (.int i) (.int i):=λA G D s v u hl R hv hu=>by
 apply VR.intE hv;intro t1;apply VR.intE hu;intro t2
 have:=SeqAt.EqAt.int_int (A:=A) (s:=s) i t1 i t2
 rw[beq_self_eq_true] at this;exact this
theorem EqV.str{i:Str}:EqV C σ 0 (.str i) (.str i):=λA G D s v u hl R hv hu=>by
 apply VR.strE hv;intro t1;apply VR.strE hu;intro t2
 have:=SeqAt.EqAt.str_str (A:=A) (s:=s) i t1 i t2
 rw[beq_self_eq_true] at this;exact this
theorem z5O{n:Nat}{xs ys:List V}{A:Around}{G D:Gh}{s:Shared}{ws zs:Array Value}(hl:A.units+(n+1)<cLine)(R:RelC C G D σ s)(hr:VRs C.w D ws.toList xs)(hr':VRs C.w D zs.toList ys)
  (h:∀(j:Nat) X Y,xs[j]? =some X->ys[j]? =some Y->EqV C σ n X Y):∀j (h1:j<ws.size) (h2:j<zs.size),SeqAt.EqAt A.in1 s ws[j] zs[j] true:=λj h1 h2=>by
 obtain⟨X,eX,rX⟩:=hr.get' (i:=j) (u:=ws[j]) (by rw[Array.getElem?_toList];exact Array.getElem?_eq_getElem h1)
 obtain⟨Y,eY,rY⟩:=hr'.get' (i:=j) (u:=zs[j]) (by rw[Array.getElem?_toList];exact Array.getElem?_eq_getElem h2)
 exact h j X Y eX eY A.in1 G D s _ _ (by show A.units+1+n<cLine;lia) R rX rY
theorem z3t(n:Nat):(List.range n).all (λ_=>true)=true:=by simp
theorem EqV.tup{n:Nat}{xs ys:List V}(hz:xs.length=ys.length)(h:∀(j:Nat) X Y,xs[j]? =some X->ys[j]? =some Y->EqV C σ n X Y):EqV C σ (n+1) (.tup xs) (.tup ys):=λA G D s v u hl R hv hu=>by
 apply VR.isTE R hv;intro a ws _ hT hr
 apply VR.isTE R hu;intro b zs _ hT' hr'
 by_cases e:a=b
 ·subst e;exact .same _
 ·have:=SeqAt.RcAt.tuples (e:=λ_=>true) hT hT' (by lia) (z5O hl R hr hr' h)
  rw[z3t,show(ws.size==zs.size)=true by rw[<-Array.length_toList,hr.length,<-Array.length_toList,hr'.length,hz];simp] at this
  exact .of_refs e this
theorem EqV.list{n:Nat}{x y:V}{xs ys:List V}{P P':Sto->Prop}(hx:Has σ x (.list xs) P)(hy:Has σ y (.list ys) P')(hz:xs.length=ys.length)(h:∀(j:Nat) X Y,xs[j]? =some X->ys[j]? =some Y->EqV C σ n X Y):EqV C σ (n+1) x y:=λA G D s v u hl R hv hu=>by
 apply Has.isListE hx R hv;intro a ws k ho hr
 apply Has.isListE hy R hu;intro b zs k' ho' hr'
 by_cases e:a=b
 ·subst e;exact .same _
 ·have:=SeqAt.RcAt.lists (e:=λ_=>true) ⟨_,ho,rfl,k,rfl⟩ ⟨_,ho',rfl,k',rfl⟩ (by rw[<-Array.length_toList,hr.length,<-Array.length_toList,hr'.length,hz]) (by lia) (z5O hl R hr hr' h)
  rw[z3t] at this
  exact .of_refs e this
theorem EqV.le{n:Nat}{x y:V}(h:EqV C σ 0 x y):EqV C σ n x y:=h.mono (Nat.zero_le _)
theorem z7M{A:Around}{d n:Nat}(hA:AOk C A d)(hn:n<=100):A.units+n<cLine:=by have:=hA.units;show A.units+n<9900;lia
theorem y20{n:Nat}{xs ys:List V}(hz:xs.length=ys.length)(h:∀(j:Nat) X Y,xs[j]? =some X->ys[j]? =some Y->EqV C σ n X Y)(hn:n<=60)(q:Q (.bool false) σ):AC2 C d (compareOp .NotEq) (.tup xs) (.tup ys) σ Q:=λA G D s v u hA R hv hu=>by
 apply VR.isTE R hv;intro a ws _ hT hr
 apply VR.isTE R hu;intro b zs _ hT' hr'
 have:=SeqAt.RcNeAt.tuples (e:=λ_=>true) hT hT' hA.line0 (z5O (z7M hA (by lia)) R hr hr' h)
 rw[z3t,show(ws.size==zs.size)=true by rw[<-Array.length_toList,hr.length,<-Array.length_toList,hr'.length,hz];simp] at this
 exact this C.prog C.w _ _ (PostC.now R (.bool _) q)
theorem y0Z{n:Nat}{x y:V}{xs ys:List V}{P P':Sto->Prop}(hx:Has σ x (.list xs) P)(hy:Has σ y (.list ys) P')(hz:xs.length=ys.length)(h:∀(j:Nat) X Y,xs[j]? =some X->ys[j]? =some Y->EqV C σ n X Y)(hn:n<=60)(q:Q (.bool false) σ):AC2 C d (compareOp .NotEq) x y σ Q:=λA G D s v u hA R hv hu=>by
 apply Has.isListE hx R hv;intro a ws k ho hr
 apply Has.isListE hy R hu;intro b zs k' ho' hr'
 have:=SeqAt.RcNeAt.lists (e:=λ_=>true) ⟨_,ho,rfl,k,rfl⟩ ⟨_,ho',rfl,k',rfl⟩ (by rw[<-Array.length_toList,hr.length,<-Array.length_toList,hr'.length,hz]) hA.line0 (z5O (z7M hA (by lia)) R hr hr' h)
 rw[z3t] at this
 exact this C.prog C.w _ _ (PostC.now R (.bool _) q)
theorem y0d{x:V}{xs:List V}{P:Sto->Prop}(h:Has σ x (.list xs) P)(hl:xs.length<=sizeLine)(q:Q (.tup xs) σ):KW C d (.type "tuple") [x] σ Q:=λA G D s v vs hA R hv hss=>by
 apply VR.typeE hv
 apply VRs.consE hss;intro _ _ h1 h2
 apply VRs.nilE h2
 apply Has.isListE h R h1;intro a ws n ho hr
 refine call_tuple_list ⟨_,ho,rfl,n,rfl⟩ (λh' hk=> ?_) (by rw[<-Array.length_toList,hr.length];exact hl)
 obtain⟨R',dx⟩:=(R.keep s.toks hk).newF (y4k ws 0)
 exact⟨.tup xs,_,σ,dx,.tup (vs:=ws.toList) (n:=0) (z0T ..) rfl (by rw[Array.toArray_toList]) (hr.mono dx.sub),R',q⟩
theorem VRs.erase{w:World}{D:Gh}:∀{vs:List Value} {xs:List V} {j:Nat},VRs w D vs xs->VRs w D (vs.eraseIdx j) (xs.eraseIdx j):=λ{vs}=>by
 induction vs with
 |nil=>intro xs j h;cases h;exact .nil
 |cons v vs ih=>
  intro xs j h
  cases h with
  |cons a b=>
   cases j with
   |zero=>exact b
   |succ j=>exact .cons a (ih b)
theorem y23{a:Addr}{xs:List V}{i:Int}{j:Nat}{X:V}(hi:i=(j:Int))(hm:At σ a (.list xs))(hX:xs[j]? =some X)(hl:xs.length<=1000)(q:∀σ',UpdS σ σ' a (.list (xs.eraseIdx j))->Q X σ'):KW C d (.bi "list.pop") [.ref a,.int i] σ Q:=λA G D s v vs hA R hv hss=>by
 apply VR.biE hv
 obtain⟨o,σ',U,US⟩:=hm.upd (.list (xs.eraseIdx j))
 apply VRs.consE hss;intro _ _ h1 h2'
 apply VRs.consE h2';intro _ _ h2 h3
 apply VRs.nilE h3
 apply VR.refE h1
 apply VR.intE h2;intro tk
 obtain⟨ws,n,rfl,hr⟩:∃ws n,o=z0p ws n/\VRs C.w D ws.toList xs:=R.sto _ (U o).mem
 have ho:s.heap.get? a=some (z0p ws n):=R.pl _ (U (z0p ws n)).mem
 have hz:ws.size=xs.length:=by rw[<-Array.length_toList,hr.length]
 have hj:=(List.getElem?_eq_some_iff.mp hX).1
 obtain⟨y,hy,ry⟩:=hr.get hX
 rw[Array.getElem?_toList] at hy
 have hfit:Builtin.List.listFitsIndex i=true:=by
  unfold Builtin.List.listFitsIndex
  rw[Bool.and_eq_true]
  exact⟨decide_eq_true (by lia),decide_eq_true (by lia)⟩
 have hki:seqIndex? i ws.size=some j:=by
  unfold seqIndex?
  simp only[show¬(i<0) by lia,if_false,hz]
  rw[if_pos (by rw[Bool.and_eq_true];exact⟨decide_eq_true (by lia),decide_eq_true (by lia)⟩),hi,Int.toNat_natCast]
 have hs1:ws.size<=sizeLine:=by rw[hz];exact Nat.le_trans hl (by decide)
 have:=MeetsSeq.list_pop_at a ws n i tk j y hfit hki hy hs1
 refine call_meets F.slot_list_pop ⟨_,ho,rfl⟩ F.entry_list_pop (F.args_list_pop_2 _ _) this ⟨ho,?_⟩
 have h1:=PyProof.Rows.get?_update_seq (c:="list") ho (λxs=>xs.eraseIdxIfInBounds j)
 have e3:(ws.eraseIdxIfInBounds j).toList=ws.toList.eraseIdx j:=by simp[Array.eraseIdxIfInBounds,hz,hj]
 have:=R.upd (U _) s.toks (z0u _ _) (Heap.SameBut.update ..) rfl h1 ⟨_,_,rfl,by rw[e3];exact hr.erase⟩
 exact⟨X,D,_,DX.refl _ _,ry,this,q _ (US _)⟩
end
end
section
noncomputable def z4h(K:W.Frag)(a:Addr):FuncData:=match K.lookup a with
 |some o=>match o.data with
  | .func fd=>fd
  |_=>default
 |none=>default
noncomputable def y28(K:W.Frag)(a:Addr):Bool:=match K.lookup a with
 |some o=>match o.data with
  | .func _=>true
  |_=>false
 |none=>false
noncomputable def z7S(fd:FuncData):List Stmt:=match fd.body with
 | .stmts b=>b
 |_=>[]
noncomputable def y26(fd:FuncData):Bool:=match fd.body with
 | .stmts _=>true
 |_=>false
noncomputable def y4d(K:W.Frag)(a:Addr)(vars gs:List Str):Bool:=
 y28 K a&&(y26 (z4h K a)&&((z4h K a).closure.isEmpty&&(W.codeIn K (z4h K a).code (z4h K a).qualname&&(Nat.beq (z4h K a).globals mainGlobals&&(Nat.beq (z4h K a).builtins builtinsNs&&z4s (z4h K a).scope vars gs)))))
section
variable {C:Cx} {d:Nat} {σ:Sto} {Q:V->Sto->Prop}
theorem y3m{K:W.Frag}{a:Addr}(h:y28 K a=true):∃o,K.lookup a=some o/\o.data= .func (z4h K a):=by
 unfold y28 at h
 unfold z4h
 cases e:K.lookup a with
 |none=>rw[e] at h;cases h
 |some o=>
  rw[e] at h
  refine⟨o,rfl,?_⟩
  have h:(match o.data with
   | .func _=>true
   |_=>false)=true:=h
  show o.data= .func (match o.data with
   | .func fd=>fd
   |_=>default)
  cases e2:o.data<;>rw[e2] at h<;>first|(cases h;done)|rfl
theorem y2T{fd:FuncData}(h:y26 fd=true):fd.body= .stmts (z7S fd):=by
 unfold y26 at h
 unfold z7S
 cases e:fd.body<;>rw[e] at h<;>first|(cases h;done)|rfl
theorem z0D [NF C]{K:W.Frag}(H:K.In C.base){a:Addr}(vars:List Str)(gl:List (Str×V)){xs:List V}(e:y4d K a vars (gl.map (·.1))=true)(e8:∀vs:List Value,vs.length=xs.length->bindArgs (z4h K a) ⟨vs,[]⟩=pure ((vars.take xs.length).zip vs))(e9:Nat.ble xs.length vars.length=true)(hgl:∀p∈gl,z0f C p.1 p.2)
  (h:∀env,env.scope=(z4h K a).scope->AS C env vars gl true d (execs (z7S (z4h K a)) env) (xs.map some++(vars.drop xs.length).map λ_=>none) σ (y4b Q)):CW C (d+1) (.ref a) xs σ Q:=by
 unfold y4d at e
 simp only[Bool.and_eq_true] at e
 obtain⟨e1,e2,e3,e4,e5,e6,e7⟩:=e
 obtain⟨o,k1,k2⟩:=y3m e1
 have hl:(vars.take xs.length).length=xs.length:=by rw[List.length_take];exact Nat.min_eq_left (Nat.le_of_ble_eq_true e9)
 refine y4h (params:=vars.take xs.length) (others:=vars.drop xs.length) ⟨⟨o,H a o k1,k2⟩,y2T e2,List.isEmpty_iff.mp e3,W.codeRec_of H e4,Nat.eq_of_beq_eq_true e5,Nat.eq_of_beq_eq_true e6,λvs hv=>e8 vs (hv.trans hl)⟩ hl.symm ?_ hgl ?_
 ·rw[List.take_append_drop];exact e7
 ·rw[List.take_append_drop];exact h
theorem vs0{P:List Value->Prop}(h:P []):∀vs:List Value,vs.length=0->P vs:=λvs e=>by rw[List.length_eq_zero_iff.mp e];exact h
theorem vsS{P:List Value->Prop}{n:Nat}(h:∀a,∀vs:List Value,vs.length=n->P (a::vs)):∀vs:List Value,vs.length=n+1->P vs:=λvs e=>by
 cases vs with
 |nil=>cases e
 |cons a vs=>exact h a vs (Nat.succ.inj e)
theorem vs1{P:List Value->Prop}(h:∀a,P [a]):∀vs:List Value,vs.length=1->P vs:=vsS λa=>vs0 (P:=λvs=>P (a::vs)) (h a)
theorem vs2{P:List Value->Prop}(h:∀a b,P [a,b]):∀vs:List Value,vs.length=2->P vs:=vsS λa=>vs1 (P:=λvs=>P (a::vs)) (h a)
theorem vs3{P:List Value->Prop}(h:∀a b c,P [a,b,c]):∀vs:List Value,vs.length=3->P vs:=vsS λa=>vs2 (P:=λvs=>P (a::vs)) (h a)
theorem vs4{P:List Value->Prop}(h:∀a b c d,P [a,b,c,d]):∀vs:List Value,vs.length=4->P vs:=vsS λa=>vs3 (P:=λvs=>P (a::vs)) (h a)
theorem vs5{P:List Value->Prop}(h:∀a b c d e,P [a,b,c,d,e]):∀vs:List Value,vs.length=5->P vs:=vsS λa=>vs4 (P:=λvs=>P (a::vs)) (h a)
theorem vs6{P:List Value->Prop}(h:∀a b c d e f,P [a,b,c,d,e,f]):∀vs:List Value,vs.length=6->P vs:=vsS λa=>vs5 (P:=λvs=>P (a::vs)) (h a)
end
end
section
set_option genSizeOf false
set_option genInjectivity false
inductive TK where
 |str|int|bool|tup|lst|dct
noncomputable def TK.n:TK->String
 | .str=>"str"| .int=>"int"| .bool=>"bool"| .tup=>"tuple"| .lst=>"list"| .dct=>"dict"
noncomputable def TK.no:TK->Nat
 | .str=>0| .int=>1| .bool=>2| .tup=>3| .lst=>4| .dct=>5
noncomputable def TK.is(a b:TK):Bool:=Nat.beq a.no b.no||(Nat.beq a.no 2&&Nat.beq b.no 1)
noncomputable def tkOf:V->Option (Option TK)
 | .none=>some none| .bool _=>some (some .bool)| .int _=>some (some .int)| .str _=>some (some .str)| .tup _=>some (some .tup)| .lst _=>some (some .lst)| .dct _=>some (some .dct)|_=>none
noncomputable def y1F(x:V)(t:TK):Option Bool:=match tkOf x with
 |some (some k)=>some (k.is t)
 |some none=>some false
 |none=>none
noncomputable def inO(X:V):Option Int:=match X with
 | .int a=>some a
 |_=>none
noncomputable def stO(X:V):Option Str:=match X with
 | .str a=>some a
 |_=>none
noncomputable def boO(X:V):Option Bool:=match X with
 | .bool a=>some a
 |_=>none
noncomputable def tuO(X:V):Option (List V):=match X with
 | .tup a=>some a
 |_=>none
noncomputable def two{α β:Type}(x y:Option α)(f:α->α->Option β)(o:Option β):Option β:=match x with
 |some a=>match y with
  |some b=>f a b
  |none=>none
 |none=>o
noncomputable def z44(X Y:V)(f:Int->Int->Option V):Option V:=two (inO X) (inO Y) f none
noncomputable def y1v(b:Int)(f:Nat->Option V):Option V:=match b with
 | .ofNat (k+1)=>f k
 |_=>none
noncomputable def y1r(op:Operator)(X Y:V):Option V:=match op with
 | .Add=>z44 X Y λa b=>some (.int (a+b))
 | .Sub=>z44 X Y λa b=>some (.int (a-b))
 | .Mod=>z44 X Y λa b=>y1v b λk=>some (.int (a.fmod (.ofNat (k+1))))
 | .FloorDiv=>z44 X Y λa b=>y1v b λk=>match Nat.blt (k+1) 1073741824 with
  |true=>some (.int (a.fdiv (.ofNat (k+1))))
  |false=>none
 |_=>none
noncomputable def eqV(X Y:V)(n:Bool->V):Option V:=two (inO X) (inO Y) (λa b=>some (n (decide (a=b)))) (two (stO X) (stO Y) (λa b=>some (n (a==b))) none)
noncomputable def isV(X Y:V)(n:Bool->V):Option V:=match Y.isNone with
 |true=>some (n X.isNone)
 |false=>two (boO X) (boO Y) (λa b=>some (n (a==b))) none
noncomputable def y0W(op:CmpOp)(X Y:V):Option V:=match op with
 | .Lt=>z44 X Y λa b=>some (.bool (decide (a<b)))
 | .LtE=>z44 X Y λa b=>some (.bool (decide (a<=b)))
 | .Gt=>z44 X Y λa b=>some (.bool (decide (b<a)))
 | .GtE=>z44 X Y λa b=>some (.bool (decide (b<=a)))
 | .Eq=>eqV X Y .bool
 | .NotEq=>eqV X Y λb=> .bool (!b)
 | .Is=>isV X Y .bool
 | .IsNot=>isV X Y λb=> .bool (!b)
 |_=>none
noncomputable def y0G(X:V)(k:Nat):Option V:=match tuO X with
 |some xs=>xs[k]?
 |none=>none
structure Leaf(P:Prop):Prop where
 out:P
section
variable {C:Cx} {d:Nat} {X Y Z:V} {σ:Sto} {Q:V->Sto->Prop}
theorem ffo{α:Type}{a:α}{P:Prop}(h:none=some a):P:=nomatch h
theorem z8S{a:Int}(h:inO X=some a):X= .int a:=by
 cases X<;>first|exact congrArg V.int (Option.some.inj h)|exact ffo h
theorem y2z{a:Str}(h:stO X=some a):X= .str a:=by
 cases X<;>first|exact congrArg V.str (Option.some.inj h)|exact ffo h
theorem y2F{a:Bool}(h:boO X=some a):X= .bool a:=by
 cases X<;>first|exact congrArg V.bool (Option.some.inj h)|exact ffo h
theorem y35{a:List V}(h:tuO X=some a):X= .tup a:=by
 cases X<;>first|exact congrArg V.tup (Option.some.inj h)|exact ffo h
theorem V.isN_i(h:X.isNone=true):X= .none:=by
 cases X<;>first|rfl|exact ff h
theorem z8V{α:Type}{x y:Option α}{f:α->α->Option V}{o:Option V}(h:two x y f o=some Z):(∃a b,x=some a/\y=some b/\f a b=some Z)∨o=some Z:=by
 cases x with
 |none=>exact .inr h
 |some a=>cases y with
  |none=>exact nomatch h
  |some b=>exact .inl ⟨a,b,rfl,rfl,h⟩
theorem z4I{f:Int->Int->Option V}(h:z44 X Y f=some Z):∃a b,X= .int a/\Y= .int b/\f a b=some Z:=by
 rcases z8V h with⟨a,b,e1,e2,h⟩|h
 ·exact⟨a,b,z8S e1,z8S e2,h⟩
 ·exact nomatch h
theorem z7A{b:Int}{f:Nat->Option V}(h:y1v b f=some Z):∃k:Nat,b=((k+1:Nat):Int)/\f k=some Z:=by
 unfold y1v at h
 split at h
 ·exact⟨_,rfl,h⟩
 ·cases h
theorem y1c{k:Nat}:((k+1:Nat):Int)≠0:=by lia
theorem z2Q{f:Int->Int->V}{g:Value->Value->Sem Value}(h:z44 X Y (λa b=>some (f a b))=some Z)(q:Q Z σ)(k:∀a b,Q (f a b) σ->AC2 C d g (.int a) (.int b) σ Q):AC2 C d g X Y σ Q:=by
 obtain⟨a,b,rfl,rfl,h⟩:=z4I h
 exact k a b (Option.some.inj h▸q)
theorem y2e{op:Operator}(h:y1r op X Y=some Z)(q:Q Z σ):AC2 C d (binaryOp op) X Y σ Q:=by
 cases op with
 |Add=>exact z2Q h q λ_ _ q=>z5G q
 |Sub=>exact z2Q h q λ_ _ q=>y4f q
 |Mod=>
  obtain⟨a,b,rfl,rfl,h'⟩:=z4I h
  obtain⟨k,rfl,h2⟩:=z7A h'
  exact z5g (Option.some.inj h2▸q) y1c
 |FloorDiv=>
  obtain⟨a,b,rfl,rfl,h'⟩:=z4I h
  obtain⟨k,rfl,h2⟩:=z7A h'
  cases hk:Nat.blt (k+1) 1073741824 with
  |true=>rw[hk] at h2;exact z5l (Option.some.inj h2▸q) y1c (Nat.blt_eq.mp hk)
  |false=>rw[hk] at h2;exact nomatch h2
 |_=>exact ffo h
theorem z91{n:Bool->V}{op:CmpOp}(h:eqV X Y n=some Z)(q:Q Z σ)(h1:∀a b:Int,Q (n (decide (a=b))) σ->AC2 C d (compareOp op) (.int a) (.int b) σ Q)(h2:∀a b:Str,Q (n (a==b)) σ->AC2 C d (compareOp op) (.str a) (.str b) σ Q):AC2 C d (compareOp op) X Y σ Q:=by
 rcases z8V h with⟨a,b,e1,e2,h⟩|h
 ·rw[z8S e1,z8S e2];exact h1 a b (Option.some.inj h▸q)
 ·rcases z8V h with⟨a,b,e1,e2,h⟩|h
  ·rw[y2z e1,y2z e2];exact h2 a b (Option.some.inj h▸q)
  ·exact nomatch h
theorem y0p{n:Bool->V}{op:CmpOp}(h:isV X Y n=some Z)(q:Q Z σ)(h1:Q (n X.isNone) σ->AC2 C d (compareOp op) X .none σ Q)(h2:∀a b:Bool,Q (n (a==b)) σ->AC2 C d (compareOp op) (.bool a) (.bool b) σ Q):AC2 C d (compareOp op) X Y σ Q:=by
 unfold isV at h
 cases hn:Y.isNone with
 |true=>rw[hn] at h;rw[V.isN_i hn];exact h1 (Option.some.inj h▸q)
 |false=>
  rw[hn] at h
  rcases z8V h with⟨a,b,e1,e2,h⟩|h
  ·rw[y2F e1,y2F e2];exact h2 a b (Option.some.inj h▸q)
  ·exact nomatch h
theorem z2P{op:CmpOp}(h:y0W op X Y=some Z)(q:Q Z σ):AC2 C d (compareOp op) X Y σ Q:=by
 cases op with
 |Lt=>exact z2Q h q λ_ _ q=>y4x q
 |LtE=>exact z2Q h q λ_ _ q=>y4e q
 |Gt=>exact z2Q h q λ_ _ q=>y3Z q
 |GtE=>exact z2Q h q λ_ _ q=>y4H q
 |Eq=>exact z91 h q (λ_ _ q=>y4D q) λ_ _ q=>y2L q
 |NotEq=>exact z91 (n:=λb=> .bool (!b)) h q (λ_ _ q=>y33 q) λ_ _ q=>y2G q
 |Is=>exact y0p h q (λq=>z9B q) λ_ _ q=>y2X q
 |IsNot=>exact y0p (n:=λb=> .bool (!b)) h q (λq=>z7B q) λ_ _ q=>z83 q
 |_=>exact ffo h
theorem y0g{k:Nat}(h:y0G X k=some Z)(hk:Nat.blt k 1000=true)(q:Q Z σ):SubR C d X (.int (k:Int)) σ Q:=by
 unfold y0G at h
 cases e:tuO X with
 |none=>rw[e] at h;exact nomatch h
 |some xs=>
  rw[e] at h;rw[y35 e]
  exact z2w (Int.natCast_nonneg k) (Int.ofNat_lt.mpr (Nat.lt_trans (Nat.blt_eq.mp hk) (by decide))) h q
theorem y3j{i:Int}{t:TK}(q:Q (.bool (TK.int.is t)) σ):KW C d (.bi "isinstance") [.int i,.type t.n] σ Q:=z7N λA G D s v R h1=>by
 apply VR.intE h1;intro _
 cases t with
 |str=>exact IsiPair.int_str (PostC.now (R.tok _) (.bool _) q)
 |int=>exact IsiPair.int_int (PostC.now R (.bool _) q)
 |bool=>exact IsiPair.int_bool (PostC.now (R.tok _) (.bool _) q)
 |tup=>exact IsiPair.int_tuple (PostC.now (R.tok _) (.bool _) q)
 |lst=>exact IsiPair.int_list (PostC.now (R.tok _) (.bool _) q)
 |dct=>exact IsiPair.int_dict (PostC.now (R.tok _) (.bool _) q)
theorem y14{b:Bool}{t:TK}(q:Q (.bool (TK.bool.is t)) σ):KW C d (.bi "isinstance") [.bool b,.type t.n] σ Q:=z7N λA G D s v R h1=>by
 apply VR.boolE h1
 cases t with
 |str=>exact IsiPair.bool_str (PostC.now (R.tok _) (.bool _) q)
 |int=>exact IsiPair.bool_int (PostC.now R (.bool _) q)
 |bool=>exact IsiPair.bool_bool (PostC.now R (.bool _) q)
 |tup=>exact IsiPair.bool_tuple (PostC.now (R.tok _) (.bool _) q)
 |lst=>exact IsiPair.bool_list (PostC.now (R.tok _) (.bool _) q)
 |dct=>exact IsiPair.bool_dict (PostC.now (R.tok _) (.bool _) q)
theorem y2S{x:Str}{t:TK}(q:Q (.bool (TK.str.is t)) σ):KW C d (.bi "isinstance") [.str x,.type t.n] σ Q:=z7N λA G D s v R h1=>by
 apply VR.strE h1;intro _
 cases t with
 |str=>exact IsiPair.str_str (PostC.now R (.bool _) q)
 |int=>exact IsiPair.str_int (PostC.now (R.tok _) (.bool _) q)
 |bool=>exact IsiPair.str_bool (PostC.now (R.tok _) (.bool _) q)
 |tup=>exact IsiPair.str_tuple (PostC.now (R.tok _) (.bool _) q)
 |lst=>exact IsiPair.str_list (PostC.now (R.tok _) (.bool _) q)
 |dct=>exact IsiPair.str_dict (PostC.now (R.tok _) (.bool _) q)
theorem is_none{t:TK}(q:Q (.bool false) σ):KW C d (.bi "isinstance") [.none,.type t.n] σ Q:=z7N λA G D s v R h1=>by
 apply VR.noneE h1
 cases t with
 |str=>exact IsiPair.NoneType_str (PostC.now (R.tok _) (.bool _) q)
 |int=>exact IsiPair.NoneType_int (PostC.now (R.tok _) (.bool _) q)
 |bool=>exact IsiPair.NoneType_bool (PostC.now (R.tok _) (.bool _) q)
 |tup=>exact IsiPair.NoneType_tuple (PostC.now (R.tok _) (.bool _) q)
 |lst=>exact IsiPair.NoneType_list (PostC.now (R.tok _) (.bool _) q)
 |dct=>exact IsiPair.NoneType_dict (PostC.now (R.tok _) (.bool _) q)
theorem y3Q{xs:List V}{t:TK}(q:Q (.bool (TK.tup.is t)) σ):KW C d (.bi "isinstance") [.tup xs,.type t.n] σ Q:=z7N λA G D s v R h1=>by
 obtain⟨a,o,vs,n,rfl,e,hc,hd,hr⟩:=h1.tupI
 cases t with
 |str=>exact IsiPair.tuple_str (R.d _ _ e) hc (PostC.now (R.tok _) (.bool _) q)
 |int=>exact IsiPair.tuple_int (R.d _ _ e) hc (PostC.now (R.tok _) (.bool _) q)
 |bool=>exact IsiPair.tuple_bool (R.d _ _ e) hc (PostC.now (R.tok _) (.bool _) q)
 |tup=>exact IsiPair.tuple_tuple (R.d _ _ e) hc (PostC.now R (.bool _) q)
 |lst=>exact IsiPair.tuple_list (R.d _ _ e) hc (PostC.now (R.tok _) (.bool _) q)
 |dct=>exact IsiPair.tuple_dict (R.d _ _ e) hc (PostC.now (R.tok _) (.bool _) q)
theorem y0J{x:V}{xs:List V}{P:Sto->Prop}(h:Has σ x (.list xs) P){t:TK}(q:Q (.bool (TK.lst.is t)) σ):KW C d (.bi "isinstance") [x,.type t.n] σ Q:=z7N λA G D s v R h1=>by
 apply Has.isListE h R h1;intro a ws n ho hr
 cases t with
 |str=>exact IsiPair.list_str ho rfl (PostC.now (R.tok _) (.bool _) q)
 |int=>exact IsiPair.list_int ho rfl (PostC.now (R.tok _) (.bool _) q)
 |bool=>exact IsiPair.list_bool ho rfl (PostC.now (R.tok _) (.bool _) q)
 |tup=>exact IsiPair.list_tuple ho rfl (PostC.now (R.tok _) (.bool _) q)
 |lst=>exact IsiPair.list_list ho rfl (PostC.now R (.bool _) q)
 |dct=>exact IsiPair.list_dict ho rfl (PostC.now (R.tok _) (.bool _) q)
theorem y0N{x:V}{xs:List (V×V)}{P:Sto->Prop}(h:Has σ x (.dict xs) P){t:TK}(q:Q (.bool (TK.dct.is t)) σ):KW C d (.bi "isinstance") [x,.type t.n] σ Q:=z7N λA G D s v R h1=>by
 apply Has.isDictE h R h1;intro a ws n ho
 cases t with
 |str=>exact IsiPair.dict_str ho rfl (PostC.now (R.tok _) (.bool _) q)
 |int=>exact IsiPair.dict_int ho rfl (PostC.now (R.tok _) (.bool _) q)
 |bool=>exact IsiPair.dict_bool ho rfl (PostC.now (R.tok _) (.bool _) q)
 |tup=>exact IsiPair.dict_tuple ho rfl (PostC.now (R.tok _) (.bool _) q)
 |lst=>exact IsiPair.dict_list ho rfl (PostC.now (R.tok _) (.bool _) q)
 |dct=>exact IsiPair.dict_dict ho rfl (PostC.now R (.bool _) q)
theorem z2Z{t:TK}{b:Bool}(h:y1F X t=some b)(q:Q (.bool b) σ):KW C d (.bi "isinstance") [X,.type t.n] σ Q:=by
 have k:∀{a:Bool},some a=some b->Q (.bool a) σ:=λh=>(Option.some.inj h).symm▸q
 cases X with
 |none=>exact is_none (k h)
 |bool _=>exact y14 (k h)
 |int _=>exact y3j (k h)
 |str _=>exact y2S (k h)
 |tup _=>exact y3Q (k h)
 |lst _=>exact y0J (.lst _) (k h)
 |dct _=>exact y0N (.dct _) (k h)
 |_=>exact nomatch h
noncomputable def cQ(o:Option V)(σ:Sto)(Q:V->Sto->Prop)(L:Prop):Prop:=match o with
 |some Z=>Q Z σ
 |none=>Leaf L
theorem z6r{a b:Int}{L:Prop}(h:0<b)(q:Q (.int (a.fmod b)) σ):cQ (y1r .Mod (.int a) (.int b)) σ Q L:=by
 obtain⟨k,rfl⟩:∃k:Nat,b=((k+1:Nat):Int):=⟨b.toNat-1,by lia⟩
 exact q
theorem z1U{a:Int}{n:Nat}{L:Prop}(h:0<n)(q:∀k:Nat,k<n->Q (.int (k:Int)) σ):cQ (y1r .Mod (.int a) (.int (n:Int))) σ Q L:=by
 have hp:(0:Int)<(n:Int):=Int.ofNat_lt.mpr h
 refine z6r hp ?_
 obtain⟨k,e⟩:=Int.eq_ofNat_of_zero_le (Int.fmod_nonneg_of_pos a hp)
 rw[e]
 exact q k (Int.ofNat_lt.mp (e▸Int.fmod_lt_of_pos a hp))
theorem z0E{x:V}{xs:List V}{P:Sto->Prop}{n:Nat}(h:Has σ x (.list xs) P)(hn:xs.length=n)(hl:xs.length<=sizeLine)(q:Q (.int (n:Int)) σ):KW C d (.bi "len") [x] σ Q:=z2Y h hl (by rw[hn];exact q)
noncomputable def cB(o:Option V)(σ:Sto)(Q:Bool->Sto->Prop)(L:Prop):Prop:=match o with
 |some (.bool b)=>Q b σ
 |_=>Leaf L
noncomputable def cIf(b:Bool)(A B:Prop):Prop:=match b with
 |true=>A
 |false=>B
theorem z18{b:Bool}{A B:Prop}(h:b=true)(a:A):cIf b A B:=by subst h;exact a
theorem z0z{b:Bool}{A B:Prop}(h:b=false)(a:B):cIf b A B:=by subst h;exact a
theorem z02{b:Bool}{A B:Prop}(h:b=true->A)(k:b=false->B):cIf b A B:=by
 cases b with
 |true=>exact h rfl
 |false=>exact k rfl
theorem z31{b:Bool}{A B:Prop}(w:cIf b A B):(b=true->A)/\(b=false->B):=by
 cases b with
 |true=>exact⟨λ_=>w,λe=>nomatch e⟩
 |false=>exact⟨(λe=>nomatch e),λ_=>w⟩
end
set_option genCtorIdx false in
inductive T where
 |loc (i:Nat) (x:Str) (p:Pos)|glb (i:Nat) (X:V) (x:Str) (p:Pos)|con (c:Const) (k:Nat) (p:Pos)|raw (e:Expr)|no
 |sub (a b:T) (p:Pos)|subT (a:T) (k u:Nat) (q p:Pos)|binc (o:Operator) (a b:T) (p:Pos)|cmp (o:CmpOp) (a b:T) (p:Pos)|cmpc (o:CmpOp) (a b:T) (p:Pos)|cmp2 (o o2:CmpOp) (a b c:T) (p:Pos)
 |una (o:UnaryOp) (a:T) (p:Pos)|vbo (o:BoolOp) (as:T) (p:Pos)|tup (as:T) (k:Nat) (p:Pos)|lst (as:T) (p:Pos)|call (f:Nat) (G:V) (x:Str) (q:Pos) (as:T) (p:Pos)|len (f:Nat) (x:Str) (q:Pos) (a:T) (p:Pos)|isi (f g:Nat) (t:TK) (x y:Str) (q r:Pos) (a:T) (p:Pos)
 |meth (ty id:String) (a:T) (n:Str) (q:Pos) (as:T) (p:Pos)|methI (c f:Nat) (a:T) (n:Str) (q:Pos) (as:T) (p:Pos)|slc (a b c:T) (p:Pos)
 |att (c:Nat) (a:T) (n:Str) (p:Pos)|dic (p:Pos)|nil|cons (a as:T)
 |bnot (a:T) (p:Pos)|bcmp (o:CmpOp) (a b:T) (p:Pos)|bcmpc (o:CmpOp) (a b:T) (p:Pos)|bcmp2 (o o2:CmpOp) (a b c:T) (p:Pos)|bvalc (a:T)|bbo (o:BoolOp) (as:T) (p:Pos)
 |bnil|bcons (a as:T)
 |setI (e a b:T) (u p:Pos)|rawS (s:Stmt)|asg (i:Nat) (x:Str) (q:Pos) (e:T) (p:Pos)|asgL (i:Nat) (x:Str) (q r p:Pos)|asgD (i:Nat) (x:Str) (q r p:Pos)|asg2 (i j:Nat) (x y:Str) (q r:Pos) (k:Nat) (u:Pos) (e:T) (p:Pos)|asg3 (i j l:Nat) (x y z:Str) (q r s:Pos) (k:Nat) (u:Pos) (e:T) (p:Pos)
 |ret (e:T) (p:Pos)|exp (e:T) (p:Pos)|ife (c a b:T) (p:Pos)
 |forR (f:Nat) (x:Str) (q:Pos) (a:T) (u:Pos) (i:Nat) (y:Str) (q2:Pos) (b:T) (p:Pos)|forL (a:T) (i:Nat) (y:Str) (q2:Pos) (b:T) (p:Pos)|forL2 (a:T) (i j:Nat) (y z:Str) (q2 q3:Pos) (k:Nat) (u:Pos) (b:T) (p:Pos)
 |forDS (a:T) (i:Nat) (y:Str) (q2:Pos) (b:T) (p:Pos)|forDI (a:T) (i:Nat) (y:Str) (q2:Pos) (b:T) (p:Pos)
 |forV (f:Nat) (x:Str) (q:Pos) (a:T) (u:Pos) (i:Nat) (y:Str) (q2:Pos) (b:T) (p:Pos)|forE (f:Nat) (x:Str) (q:Pos) (a:T) (u:Pos) (i j:Nat) (y z:Str) (q2 q3:Pos) (k:Nat) (v:Pos) (b:T) (p:Pos)
 |done|seq (s r:T)|cut (s r:T)|dseq (s r:T)
structure Fx where
 C:Cx
 env:Env
 vars:List Str
 gl:List (Str×V)
 own:Bool
 d:Nat
 fns:List Nat
 ml:List (Nat×Str×Nat)
 al:List (Nat×Str)
set_option genCtorIdx false in
inductive Ins where
 |loc (i:Nat)|psh (X:V)|len|raw (e:Expr)|sub|subT (k:Nat)|binc (o:Operator)|cmp (o:CmpOp)|cmpc (o:CmpOp)|cm2 (o:CmpOp) (r:List Ins)|una (o:UnaryOp)
 |vop (o:BoolOp) (r:List Ins)|tup (n:Nat)|lst (n:Nat)|call (G:V) (n:Nat)|isi (t:TK)|mty (ty:String)|meth (G:V) (n:Nat)|mI (c:Nat) (nm:Str)|slc
 |tcmp (o:CmpOp)|tcmpc (o:CmpOp)|tcm2 (o:CmpOp) (r:List Ins)|tvalc|not|mop (o:BoolOp) (r:List Ins)
 |ife (a b:List Ins)|asg (i:Nat)|asgL (i:Nat)|asgD (i:Nat)|asg2 (i j:Nat)|asg3 (i j l:Nat)|ret|pop|att (c:Nat) (nm:Str)|dic|setI|drp|rawS (s:Stmt)|cut (a:List Ins)|forR (i:Nat) (b:List Ins)|forL (i:Nat) (b:List Ins)|forL2 (i j:Nat) (b:List Ins)|forDS (i:Nat) (b:List Ins)|forDI (i:Nat) (b:List Ins)|forV (i:Nat) (b:List Ins)|forE (i j:Nat) (b:List Ins)
inductive Cat where
 |e|o|l|b|m|s|r
structure Den where
 k:Cat
 ok:Fx->Bool
 ex:Expr
 exs:List Expr
 st:Stmt
 sts:List Stmt
 c:List Ins->List Ins
 cv:BoolOp->List Ins->List Ins
noncomputable def D0:Den:=⟨.o,λ_=>true,.Name "" ⟨0,0,0,0⟩,[],.Pass ⟨0,0,0,0⟩,[],λc=> .psh .none::c,λ_ c=>c⟩
noncomputable def dE(ex:Expr)(ok:Fx->Bool)(c:List Ins->List Ins):Den:={D0 with k:= .e,ok:=ok,ex:=ex,c:=c}
noncomputable def dL(exs:List Expr)(ok:Fx->Bool)(c:List Ins->List Ins)(cv:BoolOp->List Ins->List Ins):Den:={D0 with k:= .l,ok:=ok,exs:=exs,c:=c,cv:=cv}
noncomputable def dB(ex:Expr)(ok:Fx->Bool)(c:List Ins->List Ins):Den:={D0 with k:= .b,ok:=ok,ex:=ex,c:=c}
noncomputable def dM(exs:List Expr)(ok:Fx->Bool)(cv:BoolOp->List Ins->List Ins):Den:={D0 with k:= .m,ok:=ok,exs:=exs,cv:=cv}
noncomputable def d1(st:Stmt)(ok:Fx->Bool)(c:List Ins->List Ins):Den:={D0 with k:= .s,ok:=ok,st:=st,c:=c}
noncomputable def dS1(sts:List Stmt)(ok:Fx->Bool)(c:List Ins->List Ins):Den:={D0 with k:= .r,ok:=ok,sts:=sts,c:=c}
noncomputable def okE(F:Fx)(D:Den):Bool:=match D.k with| .e=>D.ok F|_=>false
noncomputable def okO(F:Fx)(D:Den):Bool:=match D.k with| .e=>D.ok F| .o=>true|_=>false
noncomputable def exo(D:Den):Option Expr:=match D.k with| .e=>some D.ex|_=>none
noncomputable def okL(F:Fx)(D:Den):Bool:=match D.k with| .l=>D.ok F|_=>false
noncomputable def okB(F:Fx)(D:Den):Bool:=match D.k with| .b=>D.ok F|_=>false
noncomputable def okM(F:Fx)(D:Den):Bool:=match D.k with| .m=>D.ok F|_=>false
noncomputable def ok1(F:Fx)(D:Den):Bool:=match D.k with| .s=>D.ok F|_=>false
noncomputable def okS(F:Fx)(D:Den):Bool:=match D.k with| .r=>D.ok F|_=>false
noncomputable def isK(e:Expr)(n:Nat):Bool:=Nat.beq e.ctorIdx n
noncomputable def z22(e:Expr):Bool:= !isK e 22
noncomputable def z4K(e:Expr):Bool:=isK e 23||(isK e 21||(isK e 16||(isK e 2||isK e 20)))
noncomputable def y29(e:Expr):Bool:=isK e 23
noncomputable def z8b(e:Expr):Bool:= !isK e 16
noncomputable def z27(e:Expr):Bool:= !(isK e 8||(isK e 9||isK e 10))
noncomputable def y0H(e:Expr):Bool:= !isK e 25
noncomputable def y0k(e:Expr):Bool:= !(isK e 0||(isK e 1||(isK e 3||(isK e 5||isK e 15))))
noncomputable def conV:Const->Option V
 | .int k=>some (.int k)| .str k=>some (.str k)| .bool k=>some (.bool k)| .none=>some .none|_=>none
noncomputable def veq(X Y:V):Bool:=match X with
 | .bi a=>match Y with| .bi b=>a==b|_=>false
 | .type a=>match Y with| .type b=>a==b|_=>false
 | .ref a=>match Y with| .ref b=>Nat.beq a b|_=>false
 | .int a=>match Y with| .int b=>a==b|_=>false
 | .str a=>match Y with| .str b=>a==b|_=>false
 |_=>false
noncomputable def okG(x:Str)(X:V):Option (Str×V)->Bool
 |some p=>(p.1==x)&&veq p.2 X
 |none=>false
noncomputable def isF(fns:List Nat):V->Bool
 | .bi _=>true
 | .type _=>true
 | .ref a=>fns.contains a
 |_=>false
noncomputable def y2W(id:String)(n:Str)(o:Option (Str×V)):Bool:=okG n (.bi id) o
noncomputable def z92(id:String)(n:Str)(o:Option (Str×V)):Bool:=okG n (.type id) o
noncomputable def bms:List (String×Str×String):=[("list","append","list.append"),("list","pop","list.pop"),("list","clear","list.clear"),("list","insert","list.insert"),("dict","get","dict.get"),("dict","pop","dict.pop"),("dict","setdefault","dict.setdefault"),("dict","update","dict.update"),("dict","clear","dict.clear"),("str","join","str.join")]
noncomputable def z1o(m:Loc)(i:Nat)(X:V)(k:Loc->Prop):Prop:=match Nat.blt i m.length with
 |true=>k (m.set i (some X))
 |false=>False
noncomputable def st1(s:List V)(k:V->List V->Prop):Prop:=match s with
 |X::s=>k X s
 |[]=>False
noncomputable def nlF(s:List V)(k:Prop):Prop:=match s with
 |[]=>k
 |_::_=>False
noncomputable def tpF(X:V)(k:List V->Prop):Prop:=match X with
 | .tup xs=>k xs
 |_=>False
noncomputable def y0n(X:V)(k:V->V->Prop):Prop:=tpF X λxs=>st1 xs λx xs=>st1 xs λy xs=>nlF xs (k x y)
noncomputable def y4t(X:V)(k:V->V->V->Prop):Prop:=tpF X λxs=>st1 xs λx xs=>st1 xs λy xs=>st1 xs λz xs=>nlF xs (k x y z)
noncomputable def z1P(R:Loc->Sto->Prop)(Q:Fl->Loc->Sto->Prop):Fl->Loc->Sto->Prop
 | .next,m,σ=>R m σ
 |f,m,σ=>Q f m σ
noncomputable def den:T->Den
 | .loc i x p=>dE (.Name x p) (λF=>F.vars[i]? ==some x) λc=> .loc i::c
 | .glb i X x p=>dE (.Name x p) (λF=>okG x X F.gl[i]?) λc=> .psh X::c
 | .con k n p=>dE (.Constant k n p) (λ_=>(conV k).isSome) λc=> .psh ((conV k).getD .none)::c
 | .raw e=>dE e (λ_=>true) λc=> .raw e::c
 | .no=>D0
 | .sub a b p=>dE (.Subscript (den a).ex (den b).ex p) (λF=>okE F (den a)&&okE F (den b)) λc=>(den a).c ((den b).c (.sub::c))
 | .subT a k u q p=>dE (.Subscript (den a).ex (.Constant (.int (k:Int)) u q) p) (λF=>okE F (den a)&&Nat.blt k 1000) λc=>(den a).c (.subT k::c)
 | .binc o a b p=>dE (.BinOp (den a).ex o (den b).ex p) (λF=>okE F (den a)&&okE F (den b)) λc=>(den a).c ((den b).c (.binc o::c))
 | .cmp o a b p=>dE (.Compare (den a).ex [o] [(den b).ex] p) (λF=>okE F (den a)&&(okE F (den b)&& !behindInMarks o (den b).ex)) λc=>(den a).c ((den b).c (.cmp o::c))
 | .cmpc o a b p=>dE (.Compare (den a).ex [o] [(den b).ex] p) (λF=>okE F (den a)&&(okE F (den b)&& !behindInMarks o (den b).ex)) λc=>(den a).c ((den b).c (.cmpc o::c))
 | .cmp2 o o2 a b e p=>dE (.Compare (den a).ex [o,o2] [(den b).ex,(den e).ex] p) (λF=>okE F (den a)&&(okE F (den b)&&(okE F (den e)&& !behindInMarks o2 (den e).ex))) λc=>(den a).c ((den b).c (.cm2 o ((den e).c [.cmpc o2])::c))
 | .una o a p=>dE (.UnaryOp o (den a).ex p) (λF=>okE F (den a)) λc=>(den a).c (.una o::c)
 | .vbo o as p=>dE (.BoolOp o (den as).exs p) (λF=>okL F (den as)&& !(den as).exs.isEmpty) λc=>(den as).cv o c
 | .tup as k p=>dE (.Tuple (den as).exs k p) (λF=>okL F (den as)&&Nat.ble (den as).exs.length 1000) λc=>(den as).c (.tup (den as).exs.length::c)
 | .lst as p=>dE (.List (den as).exs p) (λF=>okL F (den as)&&Nat.ble (den as).exs.length 1000) λc=>(den as).c (.lst (den as).exs.length::c)
 | .call f G x q as p=>dE (.Call (.Name x q) (den as).exs [] p) (λF=>(okG x G F.gl[f]? &&isF F.fns G)&&okL F (den as)) λc=>(den as).c (.call G (den as).exs.length::c)
 | .len f x q a p=>dE (.Call (.Name x q) [(den a).ex] [] p) (λF=>okE F (den a)&&(z22 (den a).ex&&y2W "len" x F.gl[f]?)) λc=>(den a).c (.len::c)
 | .isi f g t x y q r a p=>dE (.Call (.Name x q) [(den a).ex,.Name y r] [] p) (λF=>okE F (den a)&&(z22 (den a).ex&&(y2W "isinstance" x F.gl[f]? &&z92 t.n y F.gl[g]?))) λc=>(den a).c (.isi t::c)
 | .meth ty id a n q as p=>dE (.Call (.Attribute (den a).ex n q) (den as).exs [] p) (λF=>(okE F (den a)&&okL F (den as))&&((z8b (den a).ex&&(q.endLine==p.line&&Nat.blt (den as).exs.length 30))&&bms.contains (ty,n,id))) λc=>(den a).c (.mty ty::(den as).c (.meth (.bi id) (den as).exs.length::c))
 | .methI c' f a n q as p=>dE (.Call (.Attribute (den a).ex n q) (den as).exs [] p) (λF=>(okE F (den a)&&okL F (den as))&&((z8b (den a).ex&&(q.endLine==p.line&&Nat.blt (den as).exs.length 30))&&F.ml.contains (c',n,f))) λc=>(den a).c (.mI c' n::(den as).c (.meth (.ref f) (den as).exs.length::c))
 | .slc a b e p=>dE (.Slice (exo (den a)) (exo (den b)) (exo (den e)) p) (λF=>okO F (den a)&&(okO F (den b)&&okO F (den e))) λc=>(den a).c ((den b).c ((den e).c (.slc::c)))
 | .att k a n p=>dE (.Attribute (den a).ex n p) (λF=>okE F (den a)&&(y29 (den a).ex&&F.al.contains (k,n))) λc=>(den a).c (.att k n::c)
 | .dic p=>dE (.Dict [] [] p) (λ_=>true) λc=> .dic::c
 | .nil=>dL [] (λ_=>true) (λc=>c) λ_ c=>c
 | .cons a as=>dL ((den a).ex::(den as).exs) (λF=>okE F (den a)&&(z22 (den a).ex&&okL F (den as))) (λc=>(den a).c ((den as).c c)) λo c=>match(den as).exs with
   |[]=>(den a).c c
   |_::_=>(den a).c (.vop o ((den as).cv o [])::c)
 | .bnot a p=>dB (.UnaryOp .Not (den a).ex p) (λF=>okB F (den a)) λc=>(den a).c (.not::c)
 | .bcmp o a b p=>dB (.Compare (den a).ex [o] [(den b).ex] p) (λF=>okE F (den a)&&(okE F (den b)&& !behindInMarks o (den b).ex)) λc=>(den a).c ((den b).c (.tcmp o::c))
 | .bcmpc o a b p=>dB (.Compare (den a).ex [o] [(den b).ex] p) (λF=>okE F (den a)&&(okE F (den b)&& !behindInMarks o (den b).ex)) λc=>(den a).c ((den b).c (.tcmpc o::c))
 | .bcmp2 o o2 a b e p=>dB (.Compare (den a).ex [o,o2] [(den b).ex,(den e).ex] p) (λF=>okE F (den a)&&(okE F (den b)&&(okE F (den e)&& !behindInMarks o2 (den e).ex))) λc=>(den a).c ((den b).c (.tcm2 o ((den e).c [.tcmpc o2])::c))
 | .bvalc a=>dB (den a).ex (λF=>okE F (den a)&&y0k (den a).ex) λc=>(den a).c (.tvalc::c)
 | .bbo o as p=>dB (.BoolOp o (den as).exs p) (λF=>okM F (den as)) λc=>(den as).cv o c
 | .bnil=>dM [] (λ_=>true) λo c=>match o with
   | .And=> .psh (.bool true)::c
   | .Or=> .psh (.bool false)::c
 | .bcons a as=>dM ((den a).ex::(den as).exs) (λF=>okB F (den a)&&okM F (den as)) λo c=>(den a).c (.mop o ((den as).cv o [])::c)
 | .setI e a b u p=>d1 (.Assign [.Subscript (den a).ex (den b).ex u] (den e).ex p) (λF=>z27 (den e).ex&&(okE F (den e)&&(okE F (den a)&&okE F (den b)))) λc=>(den e).c ((den a).c ((den b).c (.setI::c)))
 | .rawS s=>d1 s (λ_=>true) λc=> .rawS s::c
 | .asg i x q e p=>d1 (.Assign [.Name x q] (den e).ex p) (λF=>F.vars[i]? ==some x&&(z27 (den e).ex&&okE F (den e))) λc=>(den e).c (.asg i::c)
 | .asgL i x q r p=>d1 (.Assign [.Name x q] (.List [] r) p) (λF=>F.vars[i]? ==some x) λc=> .asgL i::c
 | .asgD i x q r p=>d1 (.Assign [.Name x q] (.Dict [] [] r) p) (λF=>F.vars[i]? ==some x) λc=> .asgD i::c
 | .asg2 i j x y q r k u e p=>d1 (.Assign [.Tuple [.Name x q,.Name y r] k u] (den e).ex p) (λF=>F.vars[i]? ==some x&&(F.vars[j]? ==some y&&(z27 (den e).ex&&(y0H (den e).ex&&okE F (den e))))) λc=>(den e).c (.asg2 i j::c)
 | .asg3 i j l x y z q r s k u e p=>d1 (.Assign [.Tuple [.Name x q,.Name y r,.Name z s] k u] (den e).ex p) (λF=>F.vars[i]? ==some x&&(F.vars[j]? ==some y&&(F.vars[l]? ==some z&&(z27 (den e).ex&&(y0H (den e).ex&&okE F (den e)))))) λc=>(den e).c (.asg3 i j l::c)
 | .ret e p=>d1 (.Return (some (den e).ex) p) (λF=>okE F (den e)) λc=>(den e).c (.ret::c)
 | .exp e p=>d1 (.Expr (den e).ex p) (λF=>z27 (den e).ex&&okE F (den e)) λc=>(den e).c (.pop::c)
 | .ife e a b p=>d1 (.If (den e).ex (den a).sts (den b).sts p) (λF=>okB F (den e)&&(okS F (den a)&&okS F (den b))) λc=>(den e).c (.ife ((den a).c []) ((den b).c [])::c)
 | .forR f x q a u i y q2 b p=>d1 (.For (.Name y q2) (.Call (.Name x q) [(den a).ex] [] u) (den b).sts [] p) (λF=>okE F (den a)&&(z22 (den a).ex&&(z92 "range" x F.gl[f]? &&(F.vars[i]? ==some y&&okS F (den b))))) λc=>(den a).c (.forR i ((den b).c [])::c)
 | .forL a i y q2 b p=>d1 (.For (.Name y q2) (den a).ex (den b).sts [] p) (λF=>okE F (den a)&&(z4K (den a).ex&&(F.vars[i]? ==some y&&okS F (den b)))) λc=>(den a).c (.forL i ((den b).c [])::c)
 | .forL2 a i j y z q2 q3 k u b p=>d1 (.For (.Tuple [.Name y q2,.Name z q3] k u) (den a).ex (den b).sts [] p) (λF=>okE F (den a)&&(z4K (den a).ex&&(F.vars[i]? ==some y&&(F.vars[j]? ==some z&&okS F (den b))))) λc=>(den a).c (.forL2 i j ((den b).c [])::c)
 | .forDS a i y q2 b p=>d1 (.For (.Name y q2) (den a).ex (den b).sts [] p) (λF=>okE F (den a)&&(z4K (den a).ex&&(F.vars[i]? ==some y&&okS F (den b)))) λc=>(den a).c (.forDS i ((den b).c [])::c)
 | .forDI a i y q2 b p=>d1 (.For (.Name y q2) (den a).ex (den b).sts [] p) (λF=>okE F (den a)&&(z4K (den a).ex&&(F.vars[i]? ==some y&&okS F (den b)))) λc=>(den a).c (.forDI i ((den b).c [])::c)
 | .forV f x q a u i y q2 b p=>d1 (.For (.Name y q2) (.Call (.Name x q) [(den a).ex] [] u) (den b).sts [] p) (λF=>okE F (den a)&&(z22 (den a).ex&&((x==("reversed":Str))&&(z92 "reversed" x F.gl[f]? &&(F.vars[i]? ==some y&&okS F (den b)))))) λc=>(den a).c (.forV i ((den b).c [])::c)
 | .forE f x q a u i j y z q2 q3 k v b p=>d1 (.For (.Tuple [.Name y q2,.Name z q3] k v) (.Call (.Name x q) [(den a).ex] [] u) (den b).sts [] p) (λF=>okE F (den a)&&(z22 (den a).ex&&((x==("enumerate":Str))&&(z92 "enumerate" x F.gl[f]? &&(F.vars[i]? ==some y&&(F.vars[j]? ==some z&&okS F (den b))))))) λc=>(den a).c (.forE i j ((den b).c [])::c)
 | .done=>dS1 [] (λ_=>true) λc=>c
 | .seq s r=>dS1 ((den s).st::(den r).sts) (λF=>ok1 F (den s)&&okS F (den r)) λc=>(den s).c ((den r).c c)
 | .cut s r=>dS1 ((den s).st::(den r).sts) (λF=>ok1 F (den s)&&okS F (den r)) λc=> .cut ((den s).c [])::(den r).c c
 | .dseq s r=>dS1 ((den s).st::(den r).sts) (λF=>ok1 F (den s)&&okS F (den r)) λc=>(den s).c (.drp::(den r).c c)
noncomputable def inf:Ins->Nat×Nat×Nat×Nat×List Ins×List Ins×V
 | .loc i=>(1,i,0,0,[],[],.none)| .psh X=>(2,0,0,0,[],[],X)| .subT k=>(3,k,0,0,[],[],.none)| .cmp _=>(6,0,0,0,[],[],.none)| .cm2 _ r=>(8,0,0,0,r,[],.none)| .isi t=>(9,t.no,0,0,[],[],.none)| .len=>(10,0,0,0,[],[],.none)
 | .mty ty=>(11,0,0,0,[],[],.bi ty)| .rawS _=>(13,0,0,0,[],[],.none)| .tcmp _=>(14,0,0,0,[],[],.none)| .tcm2 _ r=>(15,0,0,0,r,[],.none)| .asgL i=>(17,i,0,0,[],[],.none)| .asgD i=>(18,i,0,0,[],[],.none)| .asg2 i j=>(19,i,j,0,[],[],.none)
 | .forR i b=>(20,i,0,0,b,[],.none)| .forV i b=>(21,i,0,0,b,[],.none)| .forE i j b=>(22,i,j,0,b,[],.none)| .forL i b=>(23,i,0,0,b,[],.none)| .forL2 i j b=>(24,i,j,0,b,[],.none)| .forDS i b=>(25,i,0,0,b,[],.none)| .forDI i b=>(26,i,0,0,b,[],.none)
 | .drp=>(27,0,0,0,[],[],.none)| .cut a=>(28,0,0,0,a,[],.none)| .vop _ r=>(0,0,0,0,r,[],.none)| .mop _ r=>(0,0,0,0,r,[],.none)| .ife a b=>(0,0,0,0,a,b,.none)| .asg i=>(0,i,0,0,[],[],.none)| .asg3 i j l=>(0,i,j,l,[],[],.none)| .att k _=>(0,k,0,0,[],[],.none)| .mI k _=>(0,k,0,0,[],[],.none)
 | .call G _=>(0,0,0,0,[],[],G)| .meth G _=>(0,0,0,0,[],[],G)|_=>(0,0,0,0,[],[],.none)
noncomputable abbrev RR:=T×List Ins
noncomputable def hd(k:RR):Nat×Nat×Nat×Nat×List Ins×List Ins×V:=inf (k.2.headD .slc)
noncomputable def ik(k:RR)(n:Nat):Bool:=Nat.beq (hd k).1 n
noncomputable def on(k:RR)(t:T):RR:=(t,k.2.tail)
noncomputable def n1(k:RR):Nat:=(hd k).2.1
noncomputable def n2(k:RR):Nat:=(hd k).2.2.1
noncomputable def bl(k:RR):List Ins:=(hd k).2.2.2.2.1
noncomputable def vl(k:RR):V:=(hd k).2.2.2.2.2.2
noncomputable def nm:Expr->Str×Pos
 | .Name x p=>(x,p)
 |_=>("",⟨0,0,0,0⟩)
noncomputable def lsE:Expr->List Expr×Nat×Pos×Expr
 | .Tuple es k p=>(es,k,p,.Slice none none none p)
 | .Call f es _ p=>(es,0,p,f)
 |e=>([],0,⟨0,0,0,0⟩,e)
noncomputable def cnK:Expr->Nat
 | .Constant _ k _=>k
 |_=>0
noncomputable def biS:V->String
 | .bi s=>s
 |_=>""
noncomputable def rfN:V->Nat
 | .ref a=>a
 |_=>0
noncomputable def tkN:Nat->TK
 |0=> .str|1=> .int|2=> .bool|3=> .tup|4=> .lst|_=> .dct
noncomputable def y4F(e:Expr):List Ins->Bool
 | .raw x::_=>x.pos==e.pos
 |_=>false
noncomputable def rdL(f:Expr->RR->RR):List Expr->RR->RR
 |[],k=>(.nil,k.2)
 |x::xs,k=>(.cons (f x k).1 (rdL f xs (f x k)).1,(rdL f xs (f x k)).2)
noncomputable def rdV(f:Expr->RR->RR):List Expr->RR->RR
 |[],k=>k
 |x::xs,k=>cond xs.isEmpty (.cons (f x k).1 .nil,(f x k).2) (on (f x k) (.cons (f x k).1 (rdV f xs (.no,bl (f x k))).1))
noncomputable def rdM(f:Expr->RR->RR):List Expr->RR->RR
 |[],k=>on k .bnil
 |x::xs,k=>on (f x k) (.bcons (f x k).1 (rdM f xs (.no,bl (f x k))).1)
noncomputable def rdO(f:Expr->RR->RR)(e:Option Expr)(k:RR):RR:=match e with
 |some e=>f e k
 |none=>on k .no
noncomputable def rdE(gl:List (Str×V)):Nat->Expr->RR->RR
 |0,_,k=>k
 |n+1,e,k=>cond (y4F e k.2) (on k (.raw e))<|let f:=rdE gl n;let ix:=λx:Str=>gl.findIdx λy=>y.1==x;match e with
  | .Name x p=>on k (cond (ik k 1) (.loc (n1 k) x p) (.glb (ix x) (vl k) x p))
  | .Constant c u p=>on k (.con c u p)
  | .Subscript a b p=>cond (ik (f a k) 3) (on (f a k) (.subT (f a k).1 (n1 (f a k)) (cnK b) b.pos p)) (on (f b (f a k)) (.sub (f a k).1 (f b (f a k)).1 p))
  | .BinOp a o b p=>on (f b (f a k)) (.binc o (f a k).1 (f b (f a k)).1 p)
  | .Compare a os cs p=>let B:=f (cs.headD e) (f a k);let o:=os.headD .Eq;on B (cond (ik B 8) (.cmp2 o (os.tail.headD .Eq) (f a k).1 B.1 (f (cs.tail.headD e) (.no,bl B)).1 p) (cond (ik B 6) (.cmp o (f a k).1 B.1 p) (.cmpc o (f a k).1 B.1 p)))
  | .UnaryOp o a p=>on (f a k) (.una o (f a k).1 p)
  | .BoolOp o es p=>(.vbo o (rdV f es k).1 p,(rdV f es k).2)
  | .Tuple es u p=>on (rdL f es k) (.tup (rdL f es k).1 u p)
  | .List es p=>on (rdL f es k) (.lst (rdL f es k).1 p)
  | .Dict _ _ p=>on k (.dic p)
  | .Slice a b c p=>let A:=rdO f a k;let B:=rdO f b A;let C:=rdO f c B;on C (.slc A.1 B.1 C.1 p)
  | .Attribute a x p=>on (f a k) (.att (n1 (f a k)) (f a k).1 x p)
  | .Call g es _ p=>match g with
   | .Name x q=>let A:=f (es.headD g) k;let L:=rdL f es k;cond (!es.isEmpty&&ik A 9) (let y:=nm (es.tail.headD e);on A (.isi (ix x) (ix y.1) (tkN (n1 A)) x y.1 q y.2 A.1 p)) (cond (!es.isEmpty&&ik A 10) (on A (.len (ix x) x q A.1 p)) (on L (.call (ix x) (vl L) x q L.1 p)))
   | .Attribute a x q=>let A:=f a k;let L:=rdL f es (on A .no);on L (cond (ik A 11) (.meth (biS (vl A)) (biS (vl L)) A.1 x q L.1 p) (.methI (n1 A) (rfN (vl L)) A.1 x q L.1 p))
   |_=>k
  |_=>k
noncomputable def rdB(f:Expr->RR->RR):Nat->Expr->RR->RR
 |0,_,k=>k
 |n+1,e,k=>match e with
  | .UnaryOp _ a p=>let A:=rdB f n a k;on A (.bnot A.1 p)
  | .Compare a os cs p=>let B:=f (cs.headD e) (f a k);let o:=os.headD .Eq;on B (cond (ik B 15) (.bcmp2 o (os.tail.headD .Eq) (f a k).1 B.1 (f (cs.tail.headD e) (.no,bl B)).1 p) (cond (ik B 14) (.bcmp o (f a k).1 B.1 p) (.bcmpc o (f a k).1 B.1 p)))
  | .BoolOp o es p=>(.bbo o (rdM (rdB f n) es k).1 p,(rdM (rdB f n) es k).2)
  |_=>on (f e k) (.bvalc (f e k).1)
noncomputable def rdR(f:Stmt->RR->RR):List Stmt->RR->RR
 |[],k=>(.done,k.2)
 |s::ss,k=>cond (ik k 28) (let A:=f s (.no,bl k);let B:=rdR f ss (on k .no);(.cut A.1 B.1,B.2)) (let A:=f s k;cond (ik A 27) (let B:=rdR f ss (on A .no);(.dseq A.1 B.1,B.2)) (let B:=rdR f ss A;(.seq A.1 B.1,B.2)))
noncomputable def rdS(f g:Expr->RR->RR)(gl:List (Str×V)):Nat->Stmt->RR->RR
 |0,_,k=>k
 |n+1,s,k=>cond (ik k 13) (on k (.rawS s))<|let R:=λss l=>(rdR (rdS f g gl n) ss (.no,l)).1;let ix:=λx:Str=>gl.findIdx λy=>y.1==x;match s with
  | .Assign ts e p=>let A:=f e k;match ts.headD e with
   | .Name x q=>cond (ik k 17) (on k (.asgL (n1 k) x q e.pos p)) (cond (ik k 18) (on k (.asgD (n1 k) x q e.pos p)) (on A (.asg (n1 A) x q A.1 p)))
   | .Tuple es u q=>let x:=nm (es.headD e);let y:=nm (es.tail.headD e);let z:=nm (es.tail.tail.headD e);on A (cond (ik A 19) (.asg2 (n1 A) (n2 A) x.1 y.1 x.2 y.2 u q A.1 p) (.asg3 (n1 A) (n2 A) (hd A).2.2.2.1 x.1 y.1 z.1 x.2 y.2 z.2 u q A.1 p))
   | .Subscript a b u=>let B:=f a A;let C:=f b B;on C (.setI A.1 B.1 C.1 u p)
   |_=>k
  | .Return o p=>on (rdO f o k) (.ret (rdO f o k).1 p)
  | .Expr e p=>on (f e k) (.exp (f e k).1 p)
  | .If c a b p=>let A:=g c k;on A (.ife A.1 (R a (bl A)) (R b (hd A).2.2.2.2.2.1) p)
  | .For t it b _ p=>let c:=lsE it;let x:=nm c.2.2.2;let A:=f (c.1.headD it) k;let B:=f it k;let y:=nm t;let ys:=lsE t;let v:=nm (ys.1.headD it);let w:=nm (ys.1.tail.headD it)
   cond (ik A 20) (on A (.forR (ix x.1) x.1 x.2 A.1 c.2.2.1 (n1 A) y.1 y.2 (R b (bl A)) p))
   (cond (ik A 21) (on A (.forV (ix x.1) x.1 x.2 A.1 c.2.2.1 (n1 A) y.1 y.2 (R b (bl A)) p))
   (cond (ik A 22) (on A (.forE (ix x.1) x.1 x.2 A.1 c.2.2.1 (n1 A) (n2 A) v.1 w.1 v.2 w.2 ys.2.1 ys.2.2.1 (R b (bl A)) p))
   (on B (cond (ik B 23) (.forL B.1 (n1 B) y.1 y.2 (R b (bl B)) p) (cond (ik B 24) (.forL2 B.1 (n1 B) (n2 B) v.1 w.1 v.2 w.2 ys.2.1 ys.2.2.1 (R b (bl B)) p) (cond (ik B 25) (.forDS B.1 (n1 B) y.1 y.2 (R b (bl B)) p) (.forDI B.1 (n1 B) y.1 y.2 (R b (bl B)) p)))))))
  |_=>k
noncomputable def rdT(gl:List (Str×V))(k:List Ins)(ss:List Stmt):T:=(rdR (rdS (rdE gl 30) (rdB (rdE gl 30) 30) gl 30) ss (.no,k)).1
noncomputable def z42{α:Type}:Nat->List α->(α->Prop)->Prop
 |_,[],_=>False
 |0,x::_,K=>K x
 |n+1,_::l,K=>z42 n l K
noncomputable def exK:List Nat->Expr->(Expr->Prop)->Prop
 |[],e,K=>K e
 |i::r,e,K=>match e with
  | .BoolOp _ es _=>z42 i es λe=>exK r e K
  | .Compare a _ cs _=>z42 i (a::cs) λe=>exK r e K
  | .Call f es _ _=>z42 i (f::es) λe=>exK r e K
  | .Subscript a b _=>z42 i [a,b] λe=>exK r e K
  | .Tuple es _ _=>z42 i es λe=>exK r e K
  | .UnaryOp _ a _=>exK r a K
  | .BinOp a _ b _=>z42 i [a,b] λe=>exK r e K
  |_=>False
noncomputable def exS(s:Stmt)(K:Expr->Prop):Prop:=match s with
 | .Assign _ e _=>K e
 | .Return (some e) _=>K e
 | .Expr e _=>K e
 | .If c _ _ _=>K c
 | .For _ it _ _ _=>K it
 |_=>False
noncomputable def blS:Stmt->List (List Stmt)
 | .If _ a b _=>[a,b]
 | .For _ _ b _ _=>[b]
 | .While _ b _ _=>[b]
 |_=>[]
noncomputable def stK:List Nat->List Stmt->(Stmt->Prop)->Prop
 |i::j::r,ss,K=>z42 i ss λs=>z42 j (blS s) λss=>stK r ss K
 |i::[],ss,K=>z42 i ss K
 |[],_,_=>False
noncomputable def allK:List (List Nat×Option (List Nat))->List Stmt->(List (Stmt ⊕ Expr)->Prop)->Prop
 |[],_,K=>K []
 |p::ps,ss,K=>stK p.1 ss λs=>match p.2 with
  |none=>allK ps ss λl=>K (.inl s::l)
  |some q=>exS s λe=>exK q e λe=>allK ps ss λl=>K (.inr e::l)
structure TC where
 k:List Ins
 r:List (Stmt ⊕ Expr):=[]
 p:List (List Nat×Option (List Nat)):=[]
noncomputable def st2(s:List V)(k:V->V->List V->Prop):Prop:=st1 s λY s=>st1 s λX s=>k X Y s
noncomputable def stB(s:List V)(k:Bool->List V->Prop):Prop:=st1 s λX s=>match X with
 | .bool b=>k b s
 |_=>False
noncomputable def stN:Nat->List V->List V->(List V->List V->Prop)->Prop
 |0,s,acc,k=>k acc s
 |n+1,s,acc,k=>st1 s λX s=>stN n s (X::acc) k
section
variable (F:Fx)
noncomputable abbrev Fx.at(t:Sem Value)(m:Loc)(σ:Sto)(Q:V->Sto->Prop):Prop:=AT F.C F.env F.vars F.gl F.own F.d t m σ Q
noncomputable def y24(o:Option (Option V))(Q:V->Prop):Prop:=match o with
 |some (some X)=>Q X
 |_=>False
noncomputable def y1s(X:V)(k:List V->Prop)(L:Prop):Prop:=match X with
 | .tup xs=>k xs
 |_=>Leaf L
noncomputable def oI(o:BoolOp)(b:Bool)(x y:Prop):Prop:=match o with
 | .And=>cIf b x y
 | .Or=>cIf b y x
noncomputable def boV(o:BoolOp):V:=match o with
 | .And=> .bool false
 | .Or=> .bool true
noncomputable def tvW(X:V)(k:Bool->Prop)(L:Prop):Prop:=match X with
 | .bool b=>k b
 |_=>Leaf L
inductive LoopL(X:V)(m:Loc)(σ:Sto)(Q:Fl->Loc->Sto->Prop)(B:V->(Fl->Loc->Sto->Prop)->Loc->Sto->Prop)(R:Loc->Sto->Prop):Prop
 |mk (xs:List V) (P:Sto->Prop) (I:Nat->Loc->Sto->Prop):Has σ X (.list xs) P->I 0 m σ->(∀(i:Nat) Y,xs[i]? =some Y->∀m σ,I i m σ->∀QB:Fl->Loc->Sto->Prop,(∀m σ,P σ->I (i+1) m σ->QB .next m σ)->(∀Z m σ,Q (.ret Z) m σ->QB (.ret Z) m σ)->B Y QB m σ)->(∀m σ,I xs.length m σ->R m σ)->LoopL X m σ Q B R
inductive LoopG(g:List V->List V)(X:V)(m:Loc)(σ:Sto)(Q:Fl->Loc->Sto->Prop)(B:V->(Fl->Loc->Sto->Prop)->Loc->Sto->Prop)(R:Loc->Sto->Prop):Prop
 |mk (xs:List V) (P:Sto->Prop) (I:Nat->Loc->Sto->Prop):Has σ X (.list xs) P->I 0 m σ->(∀(i:Nat) Y,(g xs)[i]? =some Y->∀m σ,I i m σ->∀QB:Fl->Loc->Sto->Prop,(∀m σ,P σ->I (i+1) m σ->QB .next m σ)->(∀Z m σ,Q (.ret Z) m σ->QB (.ret Z) m σ)->B Y QB m σ)->(∀m σ,I (g xs).length m σ->R m σ)->LoopG g X m σ Q B R
inductive LoopR(X:V)(m:Loc)(σ:Sto)(Q:Fl->Loc->Sto->Prop)(B:V->(Fl->Loc->Sto->Prop)->Loc->Sto->Prop)(R:Loc->Sto->Prop):Prop
 |mk (n:Nat) (I:Nat->Loc->Sto->Prop):X= .int (n:Int)->n<=1000->I 0 m σ->(∀i:Nat,i<n->∀m σ,I i m σ->∀QB:Fl->Loc->Sto->Prop,(∀m σ,I (i+1) m σ->QB .next m σ)->(∀Z m σ,Q (.ret Z) m σ->QB (.ret Z) m σ)->B (.int (i:Int)) QB m σ)->(∀m σ,I n m σ->R m σ)->LoopR X m σ Q B R
inductive LoopD{C:Cx}{K:Type}[DecidableEq K](kk:KK C.prog C.w K)(X:V)(m:Loc)(σ:Sto)(Q:Fl->Loc->Sto->Prop)(B:V->(Fl->Loc->Sto->Prop)->Loc->Sto->Prop)(R:Loc->Sto->Prop):Prop
 |mk (a:Addr) (o:Obj) (kvs:List (K×V)) (I:Nat->Loc->Sto->Prop):X= .ref a->z0G C->(a,o,AO.dict (z0Y kk kvs))∈σ->(kvs.map (·.1)).Nodup->I 0 m σ->(∀(i:Nat) (p:K×V),kvs[i]? =some p->∀m σ,I i m σ->∀QB:Fl->Loc->Sto->Prop,(∀m σ,(a,o,AO.dict (z0Y kk kvs))∈σ->I (i+1) m σ->QB .next m σ)->(∀Z m σ,Q (.ret Z) m σ->QB (.ret Z) m σ)->B (kk.v p.1) QB m σ)->(∀m σ,I kvs.length m σ->R m σ)->LoopD kk X m σ Q B R
noncomputable abbrev WT:=List Ins->List (List Ins)->Loc->List V->Sto->Prop
noncomputable def stp(w:(Fl->Loc->Sto->Prop)->WT)(Q:Fl->Loc->Sto->Prop)(i:Ins)(c:List Ins)(r:List (List Ins))(m:Loc)(s:List V)(σ:Sto):Prop:=match i with
 | .loc i=>y24 m[i]? λX=>w Q c r m (X::s) σ
 | .len=>st1 s λX s=>y1s X (λxs=>cIf (Nat.ble xs.length 1000) (w Q c r m (.int (xs.length:Int)::s) σ) (Leaf (KW F.C F.d (.bi "len") [X] σ λY σ=>w Q c r m (Y::s) σ))) (KW F.C F.d (.bi "len") [X] σ λY σ=>w Q c r m (Y::s) σ)
 | .psh X=>w Q c r m (X::s) σ
 | .raw e=>Leaf (F.at (eval e F.env) m σ λX σ=>w Q c r m (X::s) σ)
 | .sub=>st2 s λX I s=>Leaf (SubR F.C F.d X I σ λY σ=>w Q c r m (Y::s) σ)
 | .subT k=>st1 s λX s=>cQ (y0G X k) σ (λY σ=>w Q c r m (Y::s) σ) (SubR F.C F.d X (.int (k:Int)) σ λY σ=>w Q c r m (Y::s) σ)
 | .binc o=>st2 s λX Y s=>cQ (y1r o X Y) σ (λZ σ=>w Q c r m (Z::s) σ) (AC2 F.C F.d (binaryOp o) X Y σ λZ σ=>w Q c r m (Z::s) σ)
 | .cmp o=>st2 s λX Y s=>Leaf (AC2 F.C F.d (compareOp o) X Y σ λZ σ=>w Q c r m (Z::s) σ)
 | .cmpc o=>st2 s λX Y s=>cQ (y0W o X Y) σ (λZ σ=>w Q c r m (Z::s) σ) (AC2 F.C F.d (compareOp o) X Y σ λZ σ=>w Q c r m (Z::s) σ)
 | .cm2 o e=>st2 s λX Y s=>cB (y0W o X Y) σ (λb σ=>cIf b (w Q e (c::r) m (Y::s) σ) (w Q c r m (.bool false::s) σ)) (AC2 F.C F.d (compareOp o) X Y σ λZ σ=>∃b,TR F.C F.d Z σ b/\(b=false->w Q c r m (Z::s) σ)/\(b=true->w Q e (c::r) m (Y::s) σ))
 | .una o=>st1 s λX s=>Leaf (AC1 F.C F.d (unaryOp o) X σ λZ σ=>w Q c r m (Z::s) σ)
 | .vop o e=>st1 s λX s=>tvW X (λb=>oI o b (w Q e (c::r) m s σ) (w Q c r m (X::s) σ)) (∃b,TR F.C F.d X σ b/\oI o b (w Q e (c::r) m s σ) (w Q c r m (X::s) σ))
 | .tup n=>stN n s [] λXs s=>w Q c r m (.tup Xs::s) σ
 | .lst n=>stN n s [] λXs s=>w Q c r m (.lst Xs::s) σ
 | .call G n=>stN n s [] λXs s=>Leaf (KW F.C F.d G Xs σ λY σ=>w Q c r m (Y::s) σ)
 | .isi t=>st1 s λX s=>cQ ((y1F X t).map .bool) σ (λY σ=>w Q c r m (Y::s) σ) (KW F.C F.d (.bi "isinstance") [X,.type t.n] σ λY σ=>w Q c r m (Y::s) σ)
 | .mty ty=>st1 s λX s=>Leaf (TyR F.C X σ ty/\w Q c r m (X::s) σ)
 | .meth G n=>stN n s [] λXs s=>st1 s λX s=>Leaf (KW F.C F.d G (X::Xs) σ λY σ=>w Q c r m (Y::s) σ)
 | .mI k nm=>st1 s λX s=>Leaf (z5i k nm X σ λx=>w Q c r m (.ref x::s) σ)
 | .slc=>st2 s λY Z s=>st1 s λX s=>w Q c r m (.slc X Y Z::s) σ
 | .tcmp o=>st2 s λX Y s=>Leaf (AC2 F.C F.d (compareOp o) X Y σ λZ σ=>TRX F.C F.d Z σ λb σ=>w Q c r m (.bool b::s) σ)
 | .tcmpc o=>st2 s λX Y s=>cB (y0W o X Y) σ (λb σ=>w Q c r m (.bool b::s) σ) (AC2 F.C F.d (compareOp o) X Y σ λZ σ=>TRX F.C F.d Z σ λb σ=>w Q c r m (.bool b::s) σ)
 | .tcm2 o e=>st2 s λX Y s=>cB (y0W o X Y) σ (λb σ=>cIf b (w Q e (c::r) m (Y::s) σ) (w Q c r m (.bool false::s) σ)) (AC2 F.C F.d (compareOp o) X Y σ λZ σ=>∃b,TR F.C F.d Z σ b/\(b=false->w Q c r m (.bool false::s) σ)/\(b=true->w Q e (c::r) m (Y::s) σ))
 | .tvalc=>st1 s λX s=>tvW X (λb=>w Q c r m (.bool b::s) σ) (TRX F.C F.d X σ λb σ=>w Q c r m (.bool b::s) σ)
 | .not=>stB s λb s=>w Q c r m (.bool (!b)::s) σ
 | .mop o e=>stB s λb s=>oI o b (w Q e (c::r) m s σ) (w Q c r m (boV o::s) σ)
 | .ife a b=>stB s λv s=>cIf v (w Q a (c::r) m s σ) (w Q b (c::r) m s σ)
 | .asg i=>st1 s λX s=>z1o m i X λm=>w Q c r m s σ
 | .asgL i=>∀a o,Fresh σ a->z1o m i (.ref a) λm=>w Q c r m s ((a,o,.list [])::σ)
 | .asgD i=>∀a o,Fresh σ a->z1o m i (.ref a) λm=>w Q c r m s ((a,o,.dict [])::σ)
 | .asg2 i j=>st1 s λX s=>y0n X λx y=>z1o m i x λm=>z1o m j y λm=>w Q c r m s σ
 | .asg3 i j l=>st1 s λX s=>y4t X λx y z=>z1o m i x λm=>z1o m j y λm=>z1o m l z λm=>w Q c r m s σ
 | .ret=>st1 s λX _=>Q (.ret X) m σ
 | .pop=>st1 s λ_ s=>w Q c r m s σ
 | .att k nm=>st1 s λX s=>Leaf (z8m k nm X σ λY=>w Q c r m (Y::s) σ)
 | .dic=>∀a o,Fresh σ a->w Q c r m (.ref a::s) ((a,o,.dict [])::σ)
 | .setI=>st2 s λO I s=>st1 s λX s=>Leaf (SetR F.C F.d O I X σ λσ=>w Q c r m s σ)
 | .drp=>Leaf (∃τ,τ.Sublist σ/\w Q c r m s τ)
 | .rawS t=>Leaf (AS F.C F.env F.vars F.gl F.own F.d (exec t F.env) m σ (z1P (λm σ=>w Q c r m s σ) Q))
 | .forR i b=>st1 s λX s=>Leaf (LoopR X m σ Q (λY QB m σ=>z1o m i Y λm=>w QB b [] m [] σ) λm σ=>w Q c r m s σ)
 | .forDS i b=>st1 s λX s=>Leaf (LoopD (KK.str F.C.prog F.C.w) X m σ Q (λY QB m σ=>z1o m i Y λm=>w QB b [] m [] σ) λm σ=>w Q c r m s σ)
 | .forDI i b=>st1 s λX s=>Leaf (LoopD (KK.int F.C.prog F.C.w) X m σ Q (λY QB m σ=>z1o m i Y λm=>w QB b [] m [] σ) λm σ=>w Q c r m s σ)
 | .forV i b=>st1 s λX s=>Leaf (LoopG List.reverse X m σ Q (λY QB m σ=>z1o m i Y λm=>w QB b [] m [] σ) λm σ=>w Q c r m s σ)
 | .forE i j b=>st1 s λX s=>Leaf (LoopG z3r X m σ Q (λY QB m σ=>y0n Y λy z=>z1o m i y λm=>z1o m j z λm=>w QB b [] m [] σ) λm σ=>w Q c r m s σ)
 | .forL i b=>st1 s λX s=>Leaf (LoopL X m σ Q (λY QB m σ=>z1o m i Y λm=>w QB b [] m [] σ) λm σ=>w Q c r m s σ)
 | .forL2 i j b=>st1 s λX s=>Leaf (LoopL X m σ Q (λY QB m σ=>y0n Y λy z=>z1o m i y λm=>z1o m j z λm=>w QB b [] m [] σ) λm σ=>w Q c r m s σ)
 | .cut a=>Leaf (∃I:Loc->Sto->Prop,(∀K:Fl->Loc->Sto->Prop,(∀m σ,I m σ->K .next m σ)->(∀f m σ,(f= .next->False)->Q f m σ->K f m σ)->w K a [] m s σ)/\∀m σ,I m σ->w Q c r m s σ)
noncomputable def W:Nat->(Fl->Loc->Sto->Prop)->WT
 |0,_,_,_,_,_,_=>False
 |n+1,Q,c,r,m,s,σ=>match c with
  |[]=>match r with
   |[]=>Q .next m σ
   |c::r=>W n Q c r m s σ
  |i::c=>stp F (W n) Q i c r m s σ
end
section
variable {C:Cx} {env:Env} {vars:List Str} {gl:List (Str×V)} {own:Bool} {d:Nat}
theorem AC2.mono{f:Value->Value->Sem Value}{x y:V}{σ:Sto}{Q Q':V->Sto->Prop}(h:AC2 C d f x y σ Q)(hQ:∀z σ',Q z σ'->Q' z σ'):AC2 C d f x y σ Q':=λA G D s v u hA R hv hu=>
 wpAny_mono (h A G D s v u hA R hv hu) (λ_ _ hp=>by obtain⟨z,D',σ',a,b,c,e⟩:=hp;exact⟨z,D',σ',a,b,c,hQ _ _ e⟩) λ_ _ e=>e
theorem AL.mono{t:Sem (List Value)}{m:Loc}{σ:Sto}{Q Q':List V->Sto->Prop}(h:AL C env vars gl own d t m σ Q)(hQ:∀xs σ',Q xs σ'->Q' xs σ'):AL C env vars gl own d t m σ Q':=λA G D s hA R=>
 wpAny_mono (h A G D s hA R) (λ_ _ hp=>by obtain⟨xs,D',σ',a,b,c,e⟩:=hp;exact⟨xs,D',σ',a,b,c,hQ _ _ e⟩) λ_ _ e=>e
theorem AB.mono{t:Sem Bool}{m:Loc}{σ:Sto}{P P':Bool->Sto->Prop}(h:AB C env vars gl own d t m σ P)(hP:∀b σ,P b σ->P' b σ):AB C env vars gl own d t m σ P':=
 λA G D s hA R=>h.run hA R λb s' D' σ' a c e=>⟨D',σ',a,c,hP _ _ e⟩
theorem y4l{x:Str}{X:V}:∀{vars:List Str} {m:Loc} {i:Nat},vars[i]? =some x->m[i]? =some (some X)->Lk vars m x X:=λ{vars}=>by
 induction vars with
 |nil=>intro m i h k;cases h
 |cons a vs ih=>
  intro m i h k
  cases m with
  |nil=>cases k
  |cons b m=>
   cases i with
   |zero=>cases Option.some.inj h;cases Option.some.inj k;exact .head
   |succ i=>exact .tail (ih h k)
theorem y1V{x:Str}{X:V}:∀{vars:List Str} {m:Loc} {i:Nat},vars[i]? =some x->i<m.length->Put vars m x X (m.set i (some X)):=λ{vars}=>by
 induction vars with
 |nil=>intro m i h;cases h
 |cons a vs ih=>
  intro m i h w
  cases m with
  |nil=>cases w
  |cons b m=>
   cases i with
   |zero=>cases Option.some.inj h;exact .head
   |succ i=>exact .tail (ih h (Nat.lt_of_succ_lt_succ w))
set_option tactic.hygienic true in
theorem z1G{x:Str}{X:V}{vars:List Str}{m:Loc}{i:Nat}{k:Loc->Prop}(h:vars[i]? =some x)(w:z1o m i X k):∃m',Put vars m x X m'/\k m':=by
 unfold z1o at w
 split at w
 ·rename_i hb;exact⟨_,y1V h (Nat.blt_eq.mp hb),w⟩
 ·exact w.elim
theorem z05{e:Expr}{rest:List Expr}(h:z22 e=true):starEach (e::rest) env=(false,eval e env)::starEach rest env:=by
 cases e<;>first|rfl|exact ff h
theorem z8h{o:Expr}{name:Str}(h:z8b o=true):attributeBase o name env (eval o env)=eval o env:=by
 cases o<;>first|rfl|exact ff h
theorem y12{o:Expr}{name:Str}(h:y29 o=true):attributeBase o name env (eval o env)=eval o env:=
 Expr.Name.elim (motive_1:=λo=>attributeBase o name env (eval o env)=eval o env) o (Nat.eq_of_beq_eq_true h) λ_ _=>rfl
theorem y1Y{o:Expr}(h:y29 o=true):∀u r,letTemporaryGo o u r=pure ():=
 Expr.Name.elim (motive_1:=λo=>∀u r,letTemporaryGo o u r=pure ()) o (Nat.eq_of_beq_eq_true h) λ_ _ _ _=>by with_unfolding_all exact rfl
theorem z4i{e:Expr}{t:Option Expr}{k:Nat}(h:z27 e=true):swapsWith e t k env=pure false:=by
 cases e<;>first|rfl|exact ff h
theorem z5J{e:Expr}{ts:List Expr}{k:Nat}{p:Pos}(h:y0H e=true):swappedStores [.Tuple ts k p] e env=pure none:=by
 cases e<;>first|rfl|exact ff h
theorem z85{e:Expr}(h:y0k e=true):∀whole,isTrue e env whole=(do let v <-whole;standAt e.pos;holding [v] (truthy v)):=by
 cases e<;>first|(intro;rfl)|exact ff h
theorem y15{ty id:String}{name:Str}(h:bms.contains (ty,name,id)=true):MethIs ty name id:=by
 have h:=List.contains_iff_mem.mp h
 simp only[bms,List.mem_cons,Prod.mk.injEq,List.not_mem_nil,or_false] at h
 rcases h with⟨rfl,rfl,rfl⟩|⟨rfl,rfl,rfl⟩|⟨rfl,rfl,rfl⟩|⟨rfl,rfl,rfl⟩|⟨rfl,rfl,rfl⟩|⟨rfl,rfl,rfl⟩|⟨rfl,rfl,rfl⟩|⟨rfl,rfl,rfl⟩|⟨rfl,rfl,rfl⟩|⟨rfl,rfl,rfl⟩
 ·exact M_append
 ·exact M_lpop
 ·exact M_lclear
 ·exact M_insert
 ·exact M_get
 ·exact M_pop
 ·exact M_setdefault
 ·exact M_update
 ·exact M_clear
 ·exact M_join
theorem y3e{X Y:V}(h:veq X Y=true):X=Y:=by
 unfold veq at h
 split at h<;>first|exact ff h|skip
 all_goals split at h<;>first|exact ff h|skip
 ·rw[eq_of_beq h]
 ·rw[eq_of_beq h]
 ·rw[Nat.eq_of_beq_eq_true h]
 ·rw[eq_of_beq h]
 ·rw[eq_of_beq h]
set_option tactic.hygienic true in
theorem z4m{x:Str}{X:V}{o:Option (Str×V)}(h:okG x X o=true):o=some (x,X):=by
 unfold okG at h
 split at h
 ·rename_i p
  rw[Bool.and_eq_true] at h
  rw[<-eq_of_beq h.1,<-y3e h.2]
 ·cases h
theorem z7s{id:String}{n:Str}{o:Option (Str×V)}(h:y2W id n o=true):o=some (n,.bi id):=z4m h
theorem z3I{id:String}{n:Str}{o:Option (Str×V)}(h:z92 id n o=true):o=some (n,.type id):=z4m h
theorem y1G{fns:List Nat}(hf:∀a∈fns,z0i C (.ref a)){G:V}(h:isF fns G=true):z0i C G:=by
 unfold isF at h
 split at h
 ·exact trivial
 ·exact trivial
 ·exact hf _ (List.contains_iff_mem.mp h)
 ·cases h
theorem z9Z{s:List V}{k:V->List V->Prop}(h:st1 s k):∃x l,s=x::l/\k x l:=by
 cases s with
 |nil=>exact h.elim
 |cons x l=>exact⟨x,l,rfl,h⟩
theorem nlE{s:List V}{k:Prop}(h:nlF s k):s=[]/\k:=by
 cases s with
 |nil=>exact⟨rfl,h⟩
 |cons x l=>exact h.elim
theorem tpE{X:V}{k:List V->Prop}(h:tpF X k):∃xs,X= .tup xs/\k xs:=by
 unfold tpF at h;split at h
 ·exact⟨_,rfl,h⟩
 ·exact h.elim
theorem z7k{X:V}{k:V->V->Prop}(h:y0n X k):∃x y,X= .tup [x,y]/\k x y:=by
 obtain⟨xs,rfl,h⟩:=tpE h
 obtain⟨x,xs,rfl,h⟩:=z9Z h
 obtain⟨y,xs,rfl,h⟩:=z9Z h
 obtain⟨rfl,h⟩:=nlE h
 exact⟨x,y,rfl,h⟩
theorem y1j{X:V}{k:V->V->V->Prop}(h:y4t X k):∃x y z,X= .tup [x,y,z]/\k x y z:=by
 obtain⟨xs,rfl,h⟩:=tpE h
 obtain⟨x,xs,rfl,h⟩:=z9Z h
 obtain⟨y,xs,rfl,h⟩:=z9Z h
 obtain⟨z,xs,rfl,h⟩:=z9Z h
 obtain⟨rfl,h⟩:=nlE h
 exact⟨x,y,z,rfl,h⟩
theorem z4z{ss:List Stmt}{R R':Loc->Sto->Prop}{Q:Fl->Loc->Sto->Prop}(h:∀m σ,R m σ->AS C env vars gl own d (execs ss env) m σ (z1P R' Q)):∀f m σ,z1P R Q f m σ->y36 C env vars gl own d ss (z1P R' Q) f m σ
 | .next,m,σ,q=>h m σ q
 | .brk,m,σ,q=>q
 | .cont,m,σ,q=>q
 | .ret _,m,σ,q=>q
theorem orE{a b:Bool}{P:Prop}(h:(a||b)=true)(f:a=true->P)(g:b=true->P):P:=by
 cases a with
 |true=>exact f rfl
 |false=>exact g h
theorem z4r{e:Expr}(h:z4K e=true):∀x,foldedSetIterable e env x=pure x:=
 let M:=λe:Expr=>∀x,foldedSetIterable e env x=pure x
 orE h (λh=>Expr.Name.elim (motive_1:=M) e (Nat.eq_of_beq_eq_true h) λ_ _ _=>by with_unfolding_all exact rfl) λh=>
 orE h (λh=>Expr.Subscript.elim (motive_1:=M) e (Nat.eq_of_beq_eq_true h) λ_ _ _ _=>by with_unfolding_all exact rfl) λh=>
 orE h (λh=>Expr.Call.elim (motive_1:=M) e (Nat.eq_of_beq_eq_true h) λ_ _ _ _ _=>by with_unfolding_all exact rfl) λh=>
 orE h (λh=>Expr.BinOp.elim (motive_1:=M) e (Nat.eq_of_beq_eq_true h) λ_ _ _ _ _=>by with_unfolding_all exact rfl) λh=>Expr.Attribute.elim (motive_1:=M) e (Nat.eq_of_beq_eq_true h) λ_ _ _ _=>by with_unfolding_all exact rfl
theorem z0b{a b:Bool}(h:(a&&b)=true):a=true/\b=true:=by rw[Bool.and_eq_true] at h;exact h
theorem z6X{e t:Expr}{k:Nat}(h:z27 e=true):swapsWithSole [t] e k env=pure false:=by
 show swapsWith e (some t) k env=pure false
 exact z4i h
theorem y1a{es:List Expr}{p:Pos}(h1:(backTo p (starEach es env)).any (·.1)=false)(hl:Nat.blt es.length 30=true):
  ((backTo p (starEach es env)).all (λx=> !x.1)&&(backToKw p (keywordEach [] env)).all (λx=>x.1.isSome)&&decide (es.length+([]:List Keyword).length+(if([]:List Keyword).isEmpty then 0 else 1)<30))=true:=by
 have h2:(backTo p (starEach es env)).all (λx=> !x.1)=true:=by rw[<-List.not_any_eq_all_not,h1];rfl
 rw[h2]
 exact decide_eq_true (Nat.blt_eq.mp hl)
end
section
variable {C:Cx} {d:Nat} {σ:Sto} {Q Q':V->Sto->Prop}
theorem AC1.mono{f:Value->Sem Value}{x:V}(h:AC1 C d f x σ Q)(hQ:∀z σ',Q z σ'->Q' z σ'):AC1 C d f x σ Q':=λA G D s v hA R hv=>
 wpAny_mono (h A G D s v hA R hv) (λ_ _ hp=>by obtain⟨z,D',σ',a,b,c,e⟩:=hp;exact⟨z,D',σ',a,b,c,hQ _ _ e⟩) λ_ _ e=>e
theorem SubR.mono{x i:V}(h:SubR C d x i σ Q)(hQ:∀z σ',Q z σ'->Q' z σ'):SubR C d x i σ Q':=λA G D s o v hA R ho hv=>by
 obtain⟨T,id,a,b,c⟩:=h A G D s o v hA R ho hv
 exact⟨T,id,a,b,wpAny_mono c (λ_ _ hp=>by obtain⟨z,D',σ',a,b,c,e⟩:=hp;exact⟨z,D',σ',a,b,c,hQ _ _ e⟩) λ_ _ e=>e⟩
theorem SetR.mono{x i v:V}{P P':Sto->Prop}(h:SetR C d x i v σ P)(hP:∀σ',P σ'->P' σ'):SetR C d x i v σ P':=λA G D s o k u hA R ho hk hu=>
 wpAny_mono (h A G D s o k u hA R ho hk hu) (λ_ _ hp=>by obtain⟨D',σ',a,b,e⟩:=hp;exact⟨D',σ',a,b,hP _ e⟩) λ_ _ e=>e
theorem y0l{o:Option V}{L L':Prop}(w:cQ o σ Q L)(h:∀Z,o=some Z->Q Z σ->L')(k:L->L'):L':=by
 cases o with
 |none=>exact k w.out
 |some Z=>exact h Z rfl w
theorem y1R{o:Option V}{P:Bool->Sto->Prop}{L L':Prop}(w:cB o σ P L)(h:∀b,o=some (.bool b)->P b σ->L')(k:L->L'):L':=by
 unfold cB at w
 split at w
 ·exact h _ rfl w
 ·exact k w.out
theorem z9V{X:V}{k:Bool->Prop}{L L':Prop}(w:tvW X k L)(h:∀b,X= .bool b->k b->L')(g:L->L'):L':=by
 unfold tvW at w
 split at w
 ·exact h _ rfl w
 ·exact g w.out
theorem y3q{X:V}{k:List V->Prop}{L L':Prop}(w:y1s X k L)(h:∀xs,X= .tup xs->k xs->L')(g:L->L'):L':=by
 unfold y1s at w
 split at w
 ·exact h _ rfl w
 ·exact g w.out
theorem y0r{x:V}{xs:List V}{P:Sto->Prop}{k:List V->Prop}(h:Has σ x (.list xs) P)(hl:xs.length<=sizeLine)(q:Q (.int (xs.length:Int)) σ):y1s x k (KW C d (.bi "len") [x] σ Q):=by
 cases h with
 |lst=>exact⟨z2Y (.lst _) hl q⟩
 |refL h=>exact⟨z2Y (.refL h) hl q⟩
theorem y4y{s:List V}{k:V->List V->Prop}{X:V}(h:st1 (X::s) k):k X s:=h
theorem y1z{k:List V->List V->Prop}{s:List V}:∀{ys acc:List V},stN ys.length (ys++s) acc k->k (ys.reverse++acc) s:=λ{ys}=>by
 induction ys with
 |nil=>intro acc h;exact h
 |cons y ys ih=>
  intro acc h
  rw[List.reverse_cons,List.append_assoc]
  exact ih h
theorem z6m{k:List V->List V->Prop}{s xs:List V}{n:Nat}(hn:xs.length=n)(h:stN n (xs.reverse++s) [] k):k xs s:=by
 subst hn
 rw[<-List.length_reverse] at h
 have:=y1z h
 rwa [List.reverse_reverse,List.append_nil] at this
end
section
variable {F:Fx}
noncomputable def WE(F:Fx)(Q:Fl->Loc->Sto->Prop)(c:List Ins)(r:List (List Ins))(m:Loc)(s:List V)(σ:Sto):Prop:=∃n,W F n Q c r m s σ
variable {Q:Fl->Loc->Sto->Prop} {i:Ins} {c:List Ins} {r:List (List Ins)} {m:Loc} {s:List V} {σ:Sto}
theorem WE.step(h:WE F Q (i::c) r m s σ):∃n,stp F (W F n) Q i c r m s σ:=by
 obtain⟨n,h⟩:=h
 cases n with
 |zero=>exact h.elim
 |succ n=>exact⟨n,h⟩
theorem WE.end(h:WE F Q [] (c::r) m s σ):WE F Q c r m s σ:=by
 obtain⟨n,h⟩:=h
 cases n with
 |zero=>exact h.elim
 |succ n=>exact⟨n,h⟩
theorem WE.fin(h:WE F Q [] [] m s σ):Q .next m σ:=by
 obtain⟨n,h⟩:=h
 cases n with
 |zero=>exact h.elim
 |succ n=>exact h
noncomputable def PE(F:Fx)(D:Den):Prop:=∀Q c r m s σ,WE F Q (D.c c) r m s σ->F.at (eval D.ex F.env) m σ λX σ=>WE F Q c r m (X::s) σ
structure PL(F:Fx)(D:Den):Prop where
 l:∀p Q c r m s σ,WE F Q (D.c c) r m s σ->AL F.C F.env F.vars F.gl F.own F.d (spliced (backTo p (starEach D.exs F.env))) m σ λXs σ=>Xs.length=D.exs.length/\WE F Q c r m (Xs.reverse++s) σ
 v:D.exs≠[]->∀o p Q c r m s σ,WE F Q (D.cv o c) r m s σ->F.at (boolOp p o (evalEach D.exs F.env)) m σ λX σ=>WE F Q c r m (X::s) σ
 n:D.exs=[]->∀c,D.c c=c
 p:∀p,(backTo p (starEach D.exs F.env)).any (·.1)=false
 s:∀e r,D.exs=e::r->starEach (e::r) F.env=(false,eval e F.env)::starEach r F.env/\∀p,(backTo p (starEach r F.env)).any (·.1)=false
noncomputable def PB(F:Fx)(D:Den):Prop:=∀Q c r m s σ,WE F Q (D.c c) r m s σ->AB F.C F.env F.vars F.gl F.own F.d (isTrue D.ex F.env (eval D.ex F.env)) m σ λb σ=>WE F Q c r m (.bool b::s) σ
noncomputable def PM(F:Fx)(D:Den):Prop:=∀o Q c r m s σ,WE F Q (D.cv o c) r m s σ->AB F.C F.env F.vars F.gl F.own F.d (allTrue o D.exs F.env) m σ λb σ=>WE F Q c r m (.bool b::s) σ
noncomputable def P1(F:Fx)(D:Den):Prop:=F.own=true->∀Q c r m s σ,WE F Q (D.c c) r m s σ->AS F.C F.env F.vars F.gl F.own F.d (exec D.st F.env) m σ (z1P (λm σ=>WE F Q c r m s σ) Q)
noncomputable def PS(F:Fx)(D:Den):Prop:=F.own=true->∀Q c r m s σ,WE F Q (D.c c) r m s σ->AS F.C F.env F.vars F.gl F.own F.d (execs D.sts F.env) m σ (z1P (λm σ=>WE F Q c r m s σ) Q)
noncomputable def z25(F:Fx)(D:Den):Prop:=match D.k with
 | .e=>D.ok F=true->PE F D
 | .o=>∀c,D.c c= .psh .none::c
 | .l=>D.ok F=true->PL F D
 | .b=>D.ok F=true->PB F D
 | .m=>D.ok F=true->PM F D
 | .s=>D.ok F=true->P1 F D
 | .r=>D.ok F=true->PS F D
theorem gE{D:Den}(h:z25 F D)(k:okE F D=true):PE F D:=by
 unfold okE at k;unfold z25 at h;cases e:D.k<;>rw[e] at k h<;>first|exact h k|exact ff k
theorem gL{D:Den}(h:z25 F D)(k:okL F D=true):PL F D:=by
 unfold okL at k;unfold z25 at h;cases e:D.k<;>rw[e] at k h<;>first|exact h k|exact ff k
theorem gB{D:Den}(h:z25 F D)(k:okB F D=true):PB F D:=by
 unfold okB at k;unfold z25 at h;cases e:D.k<;>rw[e] at k h<;>first|exact h k|exact ff k
theorem gM{D:Den}(h:z25 F D)(k:okM F D=true):PM F D:=by
 unfold okM at k;unfold z25 at h;cases e:D.k<;>rw[e] at k h<;>first|exact h k|exact ff k
theorem g1{D:Den}(h:z25 F D)(k:ok1 F D=true):P1 F D:=by
 unfold ok1 at k;unfold z25 at h;cases e:D.k<;>rw[e] at k h<;>first|exact h k|exact ff k
theorem gS{D:Den}(h:z25 F D)(k:okS F D=true):PS F D:=by
 unfold okS at k;unfold z25 at h;cases e:D.k<;>rw[e] at k h<;>first|exact h k|exact ff k
theorem gO{D:Den}(h:z25 F D)(k:okO F D=true){Q':V->Sto->Prop}(w:WE F Q (D.c c) r m s σ)(hQ:∀X σ,WE F Q c r m (X::s) σ->Q' X σ):APart F.C F.env F.vars F.gl F.own F.d (exo D) m σ Q':=by
 unfold okO at k;unfold z25 at h;unfold exo
 cases e:D.k<;>rw[e] at k h<;>first|exact ff k|skip
 ·exact z2f ((h k _ _ _ _ _ _ w).mono hQ)
 ·rw[h] at w
  obtain⟨n,w⟩:=w.step
  exact z2h (hQ _ _ ⟨n,w⟩)
theorem z6g{R R':Loc->Sto->Prop}(h:∀m σ,R m σ->R' m σ):∀f m σ,z1P R Q f m σ->z1P R' Q f m σ
 | .next,m,σ,q=>h m σ q
 | .brk,m,σ,q=>q
 | .cont,m,σ,q=>q
 | .ret _,m,σ,q=>q
theorem z9s{b:Bool}{x y:Prop}(w:oI .And b x y):(b=true->x)/\(b=false->y):=z31 w
theorem z80{b:Bool}{x y:Prop}(w:oI .Or b x y):(b=true->y)/\(b=false->x):=z31 w
theorem z2l{a b:Den}{i:Ins}{P:V->V->Sto->Prop}(ha:PE F a)(hb:PE F b)(w:WE F Q (a.c (b.c (i::c))) r m s σ)(h:∀n X Y σ,stp F (W F n) Q i c r m (Y::X::s) σ->P X Y σ):F.at (eval a.ex F.env) m σ λX σ=>F.at (eval b.ex F.env) m σ λY σ=>P X Y σ:=
 (ha _ _ _ _ _ _ w).mono λX σ₁ w=>(hb _ _ _ _ _ _ w).mono λY σ₂ w=>by obtain⟨n,w⟩:=w.step;exact h n X Y σ₂ w
theorem z6f{C:Cx}{env:Env}{vars:List Str}{gl:List (Str×V)}{own:Bool}{d:Nat}{tgt:Expr}{body:List Stmt}{P:Sto->Prop}{QS:Fl->Loc->Sto->Prop}(I:Nat->Loc->Sto->Prop)(ys:List V)(m:Loc)(σ:Sto)
  (h:∀(i:Nat) X,ys[i]? =some X->∀m σ,I i m σ->∀QB:Fl->Loc->Sto->Prop,(∀m σ,P σ->I (i+1) m σ->QB .next m σ)->(∀Y m σ,QS (.ret Y) m σ->QB (.ret Y) m σ)->AA C env vars gl own d (assign tgt env) X m σ λm₁ σ₁=>AS C env vars gl own d (execs body env) m₁ σ₁ QB)
  (hq:∀m σ,I ys.length m σ->QS .next m σ) (h0:I 0 m σ):z47 C env vars gl own d tgt body P QS ys m σ:=
 z6A I ys 0 m σ (λi X hX m σ hm=>by
  rw[Nat.zero_add] at hm⊢
  exact h i X hX m σ hm _ (λm σ hP hI=>z8D hP hI) λY m σ q=>y0e q) (λm σ hm=>hq m σ (by rw[Nat.zero_add] at hm;exact hm)) h0
theorem z55{D:Den}{n:Nat}(h:∀Q c r m s σ,WE F Q (D.c c) r m s σ->AS F.C F.env F.vars F.gl F.own F.d (execs D.sts F.env) m σ (z1P (λm σ=>WE F Q c r m s σ) Q))(w:W F n Q (D.c []) [] m [] σ):AS F.C F.env F.vars F.gl F.own F.d (execs D.sts F.env) m σ Q:=
 AS.mono (h Q [] [] m [] σ ⟨n,w⟩) λf m σ q=>by
  cases f with
  |next=>exact WE.fin q
  |brk=>exact q
  |cont=>exact q
  |ret x=>exact q
theorem z8Q [HM F.C]{K:Type}[DecidableEq K](kk:KK F.C.prog F.C.w K){D:Den}{iter:Expr}{y:Str}{q2 p:Pos}{i:Nat}(ho:F.own=true)(hs:∀x,foldedSetIterable iter F.env x=pure x)(hb:∀Q c r m s σ,WE F Q (D.c c) r m s σ->AS F.C F.env F.vars F.gl F.own F.d (execs D.sts F.env) m σ (z1P (λm σ=>WE F Q c r m s σ) Q))(hi:F.vars[i]? =some y)
  (h:F.at (eval iter F.env) m σ λX σ=>∃n,LoopD kk X m σ Q (λY QB m σ=>z1o m i Y λm=>W F n QB (D.c []) [] m [] σ) λm σ=>W F n Q c r m s σ):AS F.C F.env F.vars F.gl F.own F.d (exec (.For (.Name y q2) iter D.sts [] p) F.env) m σ (z1P (λm σ=>WE F Q c r m s σ) Q):=by
 by_cases hsys:z0G F.C
 ·refine z4e (z8O kk hsys (h.mono λX σ₁ w=> ?_)) hs
  obtain⟨n,a,o,kvs,I,rfl,_,hm,hn,h0,hb1,he⟩:=w
  refine⟨a,o,kvs,rfl,hm,hn,z6f I _ _ _ (λj Y hY m σ hI QB hQB hQR=> ?_) (λm σ hI=>⟨n,he m σ (by rw[List.length_map] at hI;exact hI)⟩) h0⟩
  rw[List.getElem?_map] at hY
  obtain⟨p,hp,rfl⟩:=Option.map_eq_some_iff.mp hY
  obtain⟨m',p',w⟩:=z1G (k:=λm=>W F n QB (D.c []) [] m [] σ) hi (hb1 j p hp m σ hI QB hQB hQR)
  exact z0v p' (z55 hb w) (.inl ho)
 ·refine z4e (λA G D' st hA R=>h.run hA R λv s₁ X D₁ σ₁ dx b c w=> ?_) hs
  obtain⟨n,a,o,kvs,I,_,hs2,_⟩:=w
  exact absurd hs2 hsys
theorem y4z{D:Den}(gl:PL F D){G X:V}{p:Pos}(w:WE F Q (D.c (.meth G D.exs.length::c)) r m (X::s) σ):AL F.C F.env F.vars F.gl F.own F.d (spliced (backTo p (starEach D.exs F.env))) m σ λXs σ=>KW F.C F.d G (X::Xs) σ λY σ=>WE F Q c r m (Y::s) σ:=
 AL.mono (gl.l p _ _ _ _ _ _ w) λXs σ q=>by
  obtain⟨n,w⟩:=q.2.step
  exact KW.mono (Leaf.out (y4y (z6m (k:=λXs s=>st1 s λX s=>Leaf (KW F.C F.d G (X::Xs) σ λY σ=>W F n Q c r m (Y::s) σ)) q.1 w))) λY σ w=>⟨n,w⟩
theorem y2K{D:Den}(gl:PL F D){G X:V}(e:D.exs=[])(w:WE F Q (D.c (.meth G D.exs.length::c)) r m (X::s) σ):KW F.C F.d G [X] σ λY σ=>WE F Q c r m (Y::s) σ:=by
 rw[gl.n e,e] at w
 obtain⟨n,w⟩:=w.step
 exact KW.mono (Leaf.out w) λY σ w=>⟨n,w⟩
theorem y0S{D:Den}(gl:PL F D){ty id:String}{o:Expr}{nm:Str}{q p:Pos}{Z:V->Sto->Prop}{P:V->Sto->Prop}(hM:MethIs ty nm id)(w:F.at (eval o F.env) m σ λX σ=>TyR F.C X σ ty/\Z X σ)(hl:∀X σ,Z X σ->AL F.C F.env F.vars F.gl F.own F.d (spliced (backTo p (starEach D.exs F.env))) m σ λXs σ=>KW F.C F.d (.bi id) (X::Xs) σ P)(hn:D.exs=[]->∀X σ,Z X σ->KW F.C F.d (.bi id) [X] σ P)(hb:attributeBase o nm F.env (eval o F.env)=eval o F.env)(h5:(q.endLine==p.line)=true)(h6:Nat.blt D.exs.length 30=true):F.at (eval (.Call (.Attribute o nm q) D.exs [] p) F.env) m σ P:=by
 have hs:=gl.s
 have hp:=gl.p p
 clear gl
 generalize D.exs=es at*
 cases es with
 |nil=>exact y0i hM (w.mono λX σ₁ w=>⟨w.1,hn rfl X σ₁ w.2⟩) hb h5
 |cons e es=>exact y1N hM (w.mono λX σ₁ w=>⟨w.1,hl X σ₁ w.2⟩) hb h5 (hs _ _ rfl).1 ((hs _ _ rfl).2 _) (y1a hp h6)
theorem z9E{D:Den}(gl:PL F D){K:W.Frag}{c f:Addr}{o:Expr}{nm:Str}{q p:Pos}{Z:V->Sto->Prop}{P:V->Sto->Prop}(hM:MethAt F.C K c nm f)(w:F.at (eval o F.env) m σ λX σ=>z5i c nm X σ λx=>Z (.ref x) σ)(hl:∀X σ,Z X σ->AL F.C F.env F.vars F.gl F.own F.d (spliced (backTo p (starEach D.exs F.env))) m σ λXs σ=>KW F.C F.d (.ref f) (X::Xs) σ P)(hn:D.exs=[]->∀X σ,Z X σ->KW F.C F.d (.ref f) [X] σ P)(hb:attributeBase o nm F.env (eval o F.env)=eval o F.env)(h5:(q.endLine==p.line)=true)(h6:Nat.blt D.exs.length 30=true):F.at (eval (.Call (.Attribute o nm q) D.exs [] p) F.env) m σ P:=by
 have hs:=gl.s
 have hp:=gl.p p
 clear gl
 generalize D.exs=es at*
 cases es with
 |nil=>exact z9v hM (w.mono λX σ₁ w=>by obtain⟨x,dx,fs,e1,e2,e3,w⟩:=w;exact⟨x,dx,fs,e1,e2,e3,hn rfl _ _ w⟩) hb h5
 |cons e es=>exact z9C hM (w.mono λX σ₁ w=>by obtain⟨x,dx,fs,e1,e2,e3,w⟩:=w;exact⟨x,dx,fs,e1,e2,e3,hl _ _ w⟩) hb h5 (hs _ _ rfl).1 ((hs _ _ rfl).2 _) (y1a hp h6)
theorem y0B{D:Den}{n i:Nat}{y:Str}{p:Pos}{Y:V}(hi:(F.vars[i]? ==some y)=true)(hb:PS F D)(ho:F.own=true)(w:z1o m i Y λm=>W F n Q (D.c []) [] m [] σ):AA F.C F.env F.vars F.gl F.own F.d (assign (.Name y p) F.env) Y m σ λm σ=>AS F.C F.env F.vars F.gl F.own F.d (execs D.sts F.env) m σ Q:=by
 obtain⟨m',p',w⟩:=z1G (k:=λm=>W F n Q (D.c []) [] m [] σ) (eq_of_beq hi) w
 exact z0v p' (z55 (hb ho) w) (.inl ho)
theorem y2x [HM F.C]{D:Den}{n i j k:Nat}{y z:Str}{p q u:Pos}{Y:V}(hi:(F.vars[i]? ==some y)=true)(hj:(F.vars[j]? ==some z)=true)(hb:PS F D)(ho:F.own=true)(w:y0n Y λy z=>z1o m i y λm=>z1o m j z λm=>W F n Q (D.c []) [] m [] σ):AA F.C F.env F.vars F.gl F.own F.d (assign (.Tuple [.Name y p,.Name z q] k u) F.env) Y m σ λm σ=>AS F.C F.env F.vars F.gl F.own F.d (execs D.sts F.env) m σ Q:=by
 obtain⟨A,B,rfl,w1⟩:=z7k w
 obtain⟨m1,p1,w⟩:=z1G (eq_of_beq hi) w1
 exact y0D (z0v p1 (y0B hj hb ho w) (.inl ho)) rfl rfl
theorem z7D{tgt:Expr}{body:List Stmt}{n:Nat}{X:V}{B:V->(Fl->Loc->Sto->Prop)->Loc->Sto->Prop}(w:LoopL X m σ Q B λm σ=>W F n Q c r m s σ)(h:∀Y QB m σ,B Y QB m σ->AA F.C F.env F.vars F.gl F.own F.d (assign tgt F.env) Y m σ λm σ=>AS F.C F.env F.vars F.gl F.own F.d (execs body F.env) m σ QB):∃xs P,Has σ X (.list xs) P/\z47 F.C F.env F.vars F.gl F.own F.d tgt body P (z1P (λm σ=>WE F Q c r m s σ) Q) xs m σ:=by
 obtain⟨xs,P,I,hH,h0,hb,he⟩:=w
 exact⟨xs,P,hH,z6f I _ _ _ (λj Y hY m σ hI QB hQB hQR=>h _ _ _ _ (hb j Y hY m σ hI QB hQB hQR)) (λm σ hI=>⟨n,he m σ hI⟩) h0⟩
theorem z6L{g:List V->List V}{tgt:Expr}{body:List Stmt}{n:Nat}{X:V}{B:V->(Fl->Loc->Sto->Prop)->Loc->Sto->Prop}(w:LoopG g X m σ Q B λm σ=>W F n Q c r m s σ)(h:∀Y QB m σ,B Y QB m σ->AA F.C F.env F.vars F.gl F.own F.d (assign tgt F.env) Y m σ λm σ=>AS F.C F.env F.vars F.gl F.own F.d (execs body F.env) m σ QB):∃Y xs P,[X]=[Y]/\Has σ Y (.list xs) P/\z47 F.C F.env F.vars F.gl F.own F.d tgt body P (z1P (λm σ=>WE F Q c r m s σ) Q) (g xs) m σ:=by
 obtain⟨xs,P,I,hH,h0,hb,he⟩:=w
 exact⟨X,xs,P,rfl,hH,z6f I _ _ _ (λj Y hY m σ hI QB hQB hQR=>h _ _ _ _ (hb j Y hY m σ hI QB hQB hQR)) (λm σ hI=>⟨n,he m σ hI⟩) h0⟩
set_option tactic.hygienic true in
theorem y4I [HM F.C](hf:∀a∈F.fns,z0i F.C (.ref a))(hm:(∀q∈F.ml,∃K,MethAt F.C K q.1 q.2.1 q.2.2)/\∀q∈F.al,∃K,AttrAt F.C K q.1 q.2)(t:T):z25 F (den t):=by
 induction t with
 |loc i x p=>
  refineλ(h:(F.vars[i]? ==some x)=true) Q c r m s σ w=> ?_
  obtain⟨n,w⟩:=WE.step w
  have w:y24 m[i]? λX=>W F n Q c r m (X::s) σ:=w
  unfold y24 at w
  split at w
  ·rename_i X hX;exact z7u (y4l (eq_of_beq h) hX) ⟨n,w⟩
  ·exact w.elim
 |glb i X x p=>exactλh Q c r m s σ w=>by obtain⟨n,w⟩:=WE.step w;exact z1z (List.mem_of_getElem? (z4m h)) ⟨n,w⟩
 |con k e p=>
  refineλh Q c r m s σ w=> ?_
  obtain⟨n,w⟩:=WE.step w
  cases k<;>first|exact ff h|skip
  all_goals first|exact z0O ⟨n,w⟩|exact z52 ⟨n,w⟩|exact z8U ⟨n,w⟩|exact y1x ⟨n,w⟩
 |raw e=>exactλ_ Q c r m s σ w=>by obtain⟨n,w⟩:=WE.step w;exact AT.mono (Leaf.out w) λX σ w=>⟨n,w⟩
 |no=>exactλc=>rfl
 |sub a b p ha hb=>exactλh Q c r m s σ w=>z0W (z2l (gE ha (z0b h).1) (gE hb (z0b h).2) w λn X Y σ w=>SubR.mono (Leaf.out w) λZ σ w=>⟨n,w⟩)
 |subT a k u q p ha=>
  refineλh Q c r m s σ w=>z0W ((gE ha (z0b h).1 _ _ _ _ _ _ w).mono λX σ₁ w=>z0O ?_)
  obtain⟨n,w⟩:=w.step
  exact y0l (Q:=λY σ=>W F n Q c r m (Y::s) σ) w (λZ e q=>y0g e (z0b h).2 ⟨n,q⟩) λw=>SubR.mono w λZ σ w=>⟨n,w⟩
 |binc o a b p ha hb=>exactλh Q c r m s σ w=>z1D (z2l (gE ha (z0b h).1) (gE hb (z0b h).2) w λn X Y σ w=>y0l (Q:=λY σ=>W F n Q c r m (Y::s) σ) w (λZ e q=>y2e e ⟨n,q⟩) λw=>AC2.mono w λZ σ w=>⟨n,w⟩)
 |cmp o a b p ha hb=>exactλh Q c r m s σ w=>z6c (z2l (gE ha (z0b h).1) (gE hb (z0b (z0b h).2).1) w λn X Y σ w=>AC2.mono (Leaf.out w) λZ σ w=>⟨n,w⟩) (Bool.not_eq_true' _▸(z0b (z0b h).2).2)
 |cmpc o a b p ha hb=>exactλh Q c r m s σ w=>z6c (z2l (gE ha (z0b h).1) (gE hb (z0b (z0b h).2).1) w λn X Y σ w=>y0l (Q:=λY σ=>W F n Q c r m (Y::s) σ) w (λZ e q=>z2P e ⟨n,q⟩) λw=>AC2.mono w λZ σ w=>⟨n,w⟩) (Bool.not_eq_true' _▸(z0b (z0b h).2).2)
 |cmp2 o o2 a b e p ha hb he=>
  refineλh Q c r m s σ w=>y2k (z2l (gE ha (z0b h).1) (gE hb (z0b (z0b h).2).1) w λn X Y σ w=> ?_) (Bool.not_eq_true' _▸(z0b (z0b (z0b h).2).2).2)
  have key:∀n σ,W F n Q ((den e).c [.cmpc o2]) (c::r) m (Y::s) σ->F.at (eval (den e).ex F.env) m σ λW' σ₄=>AC2 F.C F.d (compareOp o2) Y W' σ₄ λX σ=>WE F Q c r m (X::s) σ:=λn σ w=>(gE he (z0b (z0b (z0b h).2).2).1 _ _ _ _ _ _ ⟨n,w⟩).mono λW' σ₄ w=>by
   obtain⟨n,w⟩:=WE.step w
   exact y0l (Q:=λY σ=>W F n Q [] (c::r) m (Y::s) σ) w (λZ e q=>z2P e (WE.end ⟨n,q⟩)) λw=>AC2.mono w λZ σ w=>WE.end ⟨n,w⟩
  refine y1R (P:=λb σ=>cIf b (W F n Q ((den e).c [.cmpc o2]) (c::r) m (Y::s) σ) (W F n Q c r m (.bool false::s) σ)) w (λb e q=>z2P e ⟨b,z1Y,λhb=> ?_,λhb=>key n σ ((z31 q).1 hb)⟩) λw=>AC2.mono w λZ σ w=> ?_
  ·subst hb;exact⟨n,(z31 q).2 rfl⟩
  ·obtain⟨v,t1,t2,t3⟩:=w
   exact⟨v,t1,λe=>⟨n,t2 e⟩,λe=>key n σ (t3 e)⟩
 |una o a p ha=>exactλh Q c r m s σ w=>z6O ((gE ha h _ _ _ _ _ _ w).mono λX σ₁ w=>by obtain⟨n,w⟩:=w.step;exact AC1.mono (Leaf.out w) λZ σ w=>⟨n,w⟩)
 |vbo o as p has=>exactλh Q c r m s σ w=>z9a ((gL has (z0b h).1).v (λe=>by have:=(z0b h).2;rw[e] at this;cases this) _ _ _ _ _ _ _ _ w)
 |tup as k p has=>
  refineλh Q c r m s σ w=>z3l (AL.mono ((gL has (z0b h).1).l _ _ _ _ _ _ _ w) λXs σ₁ q=>⟨z0x (q.1▸Nat.le_trans (Nat.le_of_ble_eq_true (z0b h).2) (by decide)),?_⟩)
  obtain⟨n,w⟩:=q.2.step
  exact⟨n,z6m q.1 w⟩
 |lst as p has=>
  refineλh Q c r m s σ w=>z3G (AL.mono ((gL has (z0b h).1).l _ _ _ _ _ _ _ w) λXs σ₁ q=>⟨z0x (q.1▸Nat.le_trans (Nat.le_of_ble_eq_true (z0b h).2) (by decide)),?_⟩)
  obtain⟨n,w⟩:=q.2.step
  exact⟨n,z6m q.1 w⟩
 |call f G x q as p has=>
  refineλh Q c r m s σ w=> ?_
  have hF:=List.mem_of_getElem? (z4m (z0b (z0b h).1).1)
  have hc:=y1G hf (z0b (z0b h).1).2
  have gl:=gL has (z0b h).2
  have w:WE F Q ((den as).c (.call G (den as).exs.length::c)) r m s σ:=w
  show F.at (eval (.Call (.Name x q) (den as).exs [] p) F.env) m σ _
  have hl:=AL.mono (gl.l p _ _ _ _ _ _ w) λXs σ q=>by
   obtain⟨n,w⟩:=q.2.step
   exact KW.mono (Leaf.out (z6m (k:=λXs s=>Leaf (KW F.C F.d G Xs σ λY σ=>W F n Q c r m (Y::s) σ)) q.1 w)) λY σ w=>(⟨n,w⟩:WE F Q c r m (Y::s) σ)
  have hn:=λe=>(gl.n e (.call G (den as).exs.length::c)▸w:WE F Q (.call G (den as).exs.length::c) r m s σ)
  have hs:=gl.s
  generalize (den as).exs=es at hl hn hs
  cases es with
  |nil=>exact y0K (z1z hF ⟨hc,by obtain⟨n,w⟩:=(hn rfl).step;exact KW.mono (Leaf.out w) λY σ w=>⟨n,w⟩⟩)
  |cons e es=>exact z0I (z1z hF ⟨hc,hl⟩) (hs _ _ rfl).1 ((hs _ _ rfl).2 _)
 |len f x q a p ha=>
  refineλh Q c r m s σ w=>z0I (z1z (List.mem_of_getElem? (z7s (z0b (z0b h).2).2)) ⟨z1d,z0s ((gE ha (z0b h).1 _ _ _ _ _ _ w).mono λX σ₁ w=>z0r ?_) (z05 (z0b (z0b h).2).1)⟩) (z05 (z0b (z0b h).2).1) rfl
  obtain⟨n,w⟩:=w.step
  refine y3q (X:=X) w (λxs e w2=> ?_) λw=>KW.mono w λZ σ w=>⟨n,w⟩
  have w2:=z31 w2
  cases hb:Nat.ble xs.length 1000 with
  |true=>subst e;exact y3y (Nat.le_trans (Nat.le_of_ble_eq_true hb) (by decide)) ⟨n,w2.1 hb⟩
  |false=>exact KW.mono (w2.2 hb).out λZ σ w=>⟨n,w⟩
 |isi f g t x y q r' a p ha=>
  refineλh Q c r m s σ w=>z0I (z1z (List.mem_of_getElem? (z7s (z0b (z0b (z0b h).2).2).1)) ⟨z1d,z0s ((gE ha (z0b h).1 _ _ _ _ _ _ w).mono λX σ₁ w=>z0s (z1z (List.mem_of_getElem? (z3I (z0b (z0b (z0b h).2).2).2)) (z0r ?_)) rfl) (z05 (z0b (z0b h).2).1)⟩) (z05 (z0b (z0b h).2).1) rfl
  obtain⟨n,w⟩:=w.step
  refine y0l (Q:=λY σ=>W F n Q c r m (Y::s) σ) w (λZ e q=> ?_) λw=>KW.mono w λZ σ w=>⟨n,w⟩
  obtain⟨b,e1,rfl⟩:=Option.map_eq_some_iff.mp e
  exact z2Z e1 ⟨n,q⟩
 |meth ty id a nm q as p ha has=>
  refineλh Q c r m s σ w=> ?_
  have h0:=z0b h
  have h1:=z0b h0.1
  have h3:=z0b h0.2
  have h5:=z0b (z0b h3.1).2
  have gl:=gL has h1.2
  refine y0S gl (y15 h3.2) ((gE ha h1.1 _ _ _ _ _ _ w).mono λX σ w=> ?_) (λX σ w=>y4z gl w) (λe X σ w=>y2K gl e w) (z8h (z0b h3.1).1) h5.1 h5.2
  obtain⟨n,w⟩:=w.step
  exact⟨(Leaf.out w).1,n,(Leaf.out w).2⟩
 |methI c' f a nm q as p ha has=>
  refineλh Q c r m s σ w=> ?_
  have h0:=z0b h
  have h1:=z0b h0.1
  have h3:=z0b h0.2
  have h5:=z0b (z0b h3.1).2
  obtain⟨K,hK⟩:=hm.1 _ (List.contains_iff_mem.mp h3.2)
  have gl:=gL has h1.2
  refine z9E gl hK ((gE ha h1.1 _ _ _ _ _ _ w).mono λX σ w=> ?_) (λX σ w=>y4z gl w) (λe X σ w=>y2K gl e w) (z8h (z0b h3.1).1) h5.1 h5.2
  obtain⟨n,w⟩:=w.step
  obtain⟨x,dx,fs,e1,e2,e3,w⟩:=Leaf.out w
  exact⟨x,dx,fs,e1,e2,e3,n,w⟩
 |slc a b e p ha hb he=>exactλh Q c r m s σ w=>z3s (gO ha (z0b h).1 w λX σ₁ w=>gO hb (z0b (z0b h).2).1 w λY σ₂ w=>gO he (z0b (z0b h).2).2 w λZ σ₃ w=>by obtain⟨n,w⟩:=w.step;exact⟨n,w⟩)
 |att k a nm p ha=>
  refineλh Q c r m s σ w=> ?_
  have h1:=z0b h
  have h2:=z0b h1.2
  obtain⟨K,hK⟩:=hm.2 _ (List.contains_iff_mem.mp h2.2)
  refine y0T hK ((gE ha h1.1 _ _ _ _ _ _ w).mono λX σ₁ w=> ?_) (y12 h2.1) (y1Y h2.1)
  obtain⟨n,w⟩:=w.step
  obtain⟨x,dx,fs,Z,e1,e2,e3,e4,w⟩:=Leaf.out w
  exact⟨x,dx,fs,Z,e1,e2,e3,e4,n,w⟩
 |dic p=>exactλ_ Q c r m s σ w=>by obtain⟨n,w⟩:=WE.step w;exact z3w λa o hf=>⟨n,w a o hf⟩
 |nil=>exactλ_=>⟨λp Q c r m s σ w=>z0r ⟨rfl,w⟩,λh=>absurd rfl h,(λ_ c=>rfl),(λp=>rfl),λe r h=>nomatch h⟩
 |cons a as ha has=>
  refineλh=> ?_
  have he:=gE ha (z0b h).1
  obtain⟨hns,hk⟩:=z0b (z0b h).2
  have gl:=gL has hk
  refine⟨λp Q c r m s σ w=>z0s ((he _ _ _ _ _ _ w).mono λX σ₁ w=>AL.mono (gl.l p _ _ _ _ _ _ w) λXs σ₂ q=>⟨congrArg Nat.succ q.1,by rw[List.reverse_cons,List.append_assoc];exact q.2⟩) (z05 hns),λ_ o p Q c r m s σ w=> ?_,(λe=>nomatch e),(λp=> ?_),λe r h=> ?_⟩
  ·show F.at (boolOp p o (evalEach ((den a).ex::(den as).exs) F.env)) m σ _
   have w:WE F Q (match(den as).exs with
    |[]=>(den a).c c
    |_::_=>(den a).c (.vop o ((den as).cv o [])::c)) r m s σ:=w
   have gv:=gl.v
   generalize (den as).exs=es at w gv
   cases es with
   |nil=>cases o with
    |And=>exact y06 (he _ _ _ _ _ _ w)
    |Or=>exact y17 (he _ _ _ _ _ _ w)
   |cons y l=>
    have gv:=gv (λe=>nomatch e)
    have key:∀n σ,W F n Q ((den as).cv o []) (c::r) m s σ->F.at (boolOp p o (evalEach (y::l) F.env)) m σ λX σ=>WE F Q c r m (X::s) σ:=λn σ w=>(gv _ _ _ _ _ _ _ _ ⟨n,w⟩).mono λX σ w=>w.end
    have w:=he _ _ _ _ _ _ w
    cases o with
    |And=>
     refine y1H (w.mono λX σ₁ w=> ?_)
     obtain⟨n,w⟩:=w.step
     refine z9V w (λb e w=> ?_) λw=> ?_
     ·subst e;exact⟨b,z1Y,λe=>key n _ ((z9s w).1 e),λe=>⟨n,(z9s w).2 e⟩⟩
     ·obtain⟨b,t1,w⟩:=w
      exact⟨b,t1,λe=>key n _ ((z9s w).1 e),λe=>⟨n,(z9s w).2 e⟩⟩
    |Or=>
     refine y3x (w.mono λX σ₁ w=> ?_)
     obtain⟨n,w⟩:=w.step
     refine z9V w (λb e w=> ?_) λw=> ?_
     ·subst e;exact⟨b,z1Y,λe=>⟨n,(z80 w).1 e⟩,λe=>key n _ ((z80 w).2 e)⟩
     ·obtain⟨b,t1,w⟩:=w
      exact⟨b,t1,λe=>⟨n,(z80 w).1 e⟩,λe=>key n _ ((z80 w).2 e)⟩
  ·show(backTo p (starEach ((den a).ex::(den as).exs) F.env)).any (·.1)=false
   rw[z05 hns]
   exact gl.p p
  ·cases h
   exact⟨z05 hns,gl.p⟩
 |bnot a p ha=>exactλh Q c r m s σ w=>y3K (AB.mono (gB ha h _ _ _ _ _ _ w) λb σ w=>by obtain⟨n,w⟩:=w.step;exact⟨n,w⟩)
 |bcmp o a b p ha hb=>exactλh Q c r m s σ w=>z1x (z2l (gE ha (z0b h).1) (gE hb (z0b (z0b h).2).1) w λn X Y σ w=>AC2.mono (Leaf.out w) λZ σ w=>by obtain⟨b,t,w⟩:=w;exact⟨b,t,n,w⟩) (Bool.not_eq_true' _▸(z0b (z0b h).2).2)
 |bcmpc o a b p ha hb=>exactλh Q c r m s σ w=>z1x (z2l (gE ha (z0b h).1) (gE hb (z0b (z0b h).2).1) w λn X Y σ w=>y1R (P:=λb σ=>W F n Q c r m (.bool b::s) σ) w (λb e q=>z2P e (z0j ⟨n,q⟩)) λw=>AC2.mono w λZ σ w=>by obtain⟨b,t,w⟩:=w;exact⟨b,t,n,w⟩) (Bool.not_eq_true' _▸(z0b (z0b h).2).2)
 |bcmp2 o o2 a b e p ha hb he=>
  refineλh Q c r m s σ w=>z8F (z2l (gE ha (z0b h).1) (gE hb (z0b (z0b h).2).1) w λn X Y σ w=> ?_) (Bool.not_eq_true' _▸(z0b (z0b (z0b h).2).2).2)
  have key:∀n σ,W F n Q ((den e).c [.tcmpc o2]) (c::r) m (Y::s) σ->F.at (eval (den e).ex F.env) m σ λW' σ₄=>AC2 F.C F.d (compareOp o2) Y W' σ₄ λZ σ=>TRX F.C F.d Z σ λb σ=>WE F Q c r m (.bool b::s) σ:=λn σ w=>(gE he (z0b (z0b (z0b h).2).2).1 _ _ _ _ _ _ ⟨n,w⟩).mono λW' σ₄ w=>by
   obtain⟨n,w⟩:=WE.step w
   exact y1R (P:=λb σ=>W F n Q [] (c::r) m (.bool b::s) σ) w (λb e q=>z2P e (z0j (WE.end ⟨n,q⟩))) λw=>AC2.mono w λZ σ w=>by obtain⟨b,t,w⟩:=w;exact⟨b,t,WE.end ⟨n,w⟩⟩
  refine y1R (P:=λb σ=>cIf b (W F n Q ((den e).c [.tcmpc o2]) (c::r) m (Y::s) σ) (W F n Q c r m (.bool false::s) σ)) w (λb e q=>z2P e ⟨b,z1Y,λhb=>⟨n,(z31 q).2 hb⟩,λhb=>key n σ ((z31 q).1 hb)⟩) λw=>AC2.mono w λZ σ w=> ?_
  obtain⟨v,t1,t2,t3⟩:=w
  exact⟨v,t1,λe=>⟨n,t2 e⟩,λe=>key n σ (t3 e)⟩
 |bvalc a ha=>
  refineλh Q c r m s σ w=>z9D ((gE ha (z0b h).1 _ _ _ _ _ _ w).mono λX σ₁ w=> ?_) (z85 (z0b h).2)
  obtain⟨n,w⟩:=w.step
  exact z9V w (λb e w=>by subst e;exact z0j ⟨n,w⟩) λw=>by obtain⟨b,t,w⟩:=w;exact⟨b,t,n,w⟩
 |bbo o as p has=>exactλh Q c r m s σ w=>z8X (gM has h _ _ _ _ _ _ _ w)
 |bnil=>
  refineλ_ o Q c r m s σ w=> ?_
  cases o with
  |And=>obtain⟨n,w⟩:=WE.step w;exact z88 ⟨n,w⟩
  |Or=>obtain⟨n,w⟩:=WE.step w;exact z98 ⟨n,w⟩
 |bcons a as ha has=>
  refineλh o Q c r m s σ w=> ?_
  have w:=gB ha (z0b h).1 _ _ _ _ _ _ w
  have key:∀n σ,W F n Q ((den as).cv o []) (c::r) m s σ->AB F.C F.env F.vars F.gl F.own F.d (allTrue o (den as).exs F.env) m σ λb σ=>WE F Q c r m (.bool b::s) σ:=λn σ w=>AB.mono (gM has (z0b h).2 _ _ _ _ _ _ _ ⟨n,w⟩) λb σ w=>w.end
  cases o with
  |And=>exact y22 (AB.mono w λb σ₁ w=>by obtain⟨n,w⟩:=w.step;exact⟨λhb=>key n _ ((z9s w).1 hb),λhb=>⟨n,(z9s w).2 hb⟩⟩)
  |Or=>exact y3X (AB.mono w λb σ₁ w=>by obtain⟨n,w⟩:=w.step;exact⟨λhb=>⟨n,(z80 w).1 hb⟩,λhb=>key n _ ((z80 w).2 hb)⟩)
 |setI e a b u p he ha hb=>
  refineλh ho Q c r m s σ w=>y1h ((gE he (z0b (z0b h).2).1 _ _ _ _ _ _ w).mono λX σ₁ w=>z2l (gE ha (z0b (z0b (z0b h).2).2).1) (gE hb (z0b (z0b (z0b h).2).2).2) w λn O I σ w=> ?_) (z4i (z0b h).1)
  exact SetR.mono (Leaf.out w) λσ w=>⟨n,w⟩
 |rawS s=>exactλ_ _ Q c r m s σ w=>by obtain⟨n,w⟩:=WE.step w;exact AS.mono (Leaf.out w) (z6g λm σ w=>⟨n,w⟩)
 |asg i x q e p he=>
  refineλh ho Q c r m s σ w=>z14 ((gE he (z0b (z0b h).2).2 _ _ _ _ _ _ w).mono λX σ₁ w=> ?_) ho (z4i (z0b (z0b h).2).1)
  obtain⟨n,w⟩:=w.step
  obtain⟨m',p,w⟩:=z1G (k:=λm=>W F n Q c r m s σ₁) (eq_of_beq (z0b h).1) w
  exact⟨m',p,n,w⟩
 |asgL i x q r' p=>
  refineλh ho Q c r m s σ w=>z7P (λa o hf=> ?_) ho rfl
  obtain⟨n,w⟩:=WE.step w
  obtain⟨m',p,w⟩:=z1G (k:=λm=>W F n Q c r m s ((a,o,.list [])::σ)) (eq_of_beq h) (w a o hf)
  exact⟨m',p,n,w⟩
 |asgD i x q r' p=>
  refineλh ho Q c r m s σ w=>z7X (λa o hf=> ?_) ho rfl
  obtain⟨n,w⟩:=WE.step w
  obtain⟨m',p,w⟩:=z1G (k:=λm=>W F n Q c r m s ((a,o,.dict [])::σ)) (eq_of_beq h) (w a o hf)
  exact⟨m',p,n,w⟩
 |asg2 i j x y q r' k u e p he=>
  refineλh ho Q c r m s σ w=>z5y ((gE he (z0b (z0b (z0b (z0b h).2).2).2).2 _ _ _ _ _ _ w).mono λX σ₁ w=> ?_) rfl (z6X (z0b (z0b (z0b h).2).2).1) (z5J (z0b (z0b (z0b (z0b h).2).2).2).1)
  obtain⟨n,w⟩:=w.step
  obtain⟨X,Y,rfl,w1⟩:=z7k (k:=λx y=>z1o m i x λm=>z1o m j y λm=>W F n Q c r m s σ₁) w
  obtain⟨m1,p1,w⟩:=z1G (eq_of_beq (z0b h).1) w1
  obtain⟨m2,p2,w⟩:=z1G (eq_of_beq (z0b (z0b h).2).1) w
  exact y0D (z0v p1 (z0v p2 ⟨n,w⟩ (.inl ho)) (.inl ho)) rfl rfl
 |asg3 i j l x y z q r' u' k u e p he=>
  refineλh ho Q c r m s σ w=>z5y ((gE he (z0b (z0b (z0b (z0b (z0b h).2).2).2).2).2 _ _ _ _ _ _ w).mono λX σ₁ w=> ?_) rfl (z6X (z0b (z0b (z0b (z0b h).2).2).2).1) (z5J (z0b (z0b (z0b (z0b (z0b h).2).2).2).2).1)
  obtain⟨n,w⟩:=w.step
  obtain⟨X,Y,Z,rfl,w1⟩:=y1j (k:=λx y z=>z1o m i x λm=>z1o m j y λm=>z1o m l z λm=>W F n Q c r m s σ₁) w
  obtain⟨m1,p1,w⟩:=z1G (eq_of_beq (z0b h).1) w1
  obtain⟨m2,p2,w⟩:=z1G (eq_of_beq (z0b (z0b h).2).1) w
  obtain⟨m3,p3,w⟩:=z1G (eq_of_beq (z0b (z0b (z0b h).2).2).1) w
  exact y4j (z0v p1 (z0v p2 (z0v p3 ⟨n,w⟩ (.inl ho)) (.inl ho)) (.inl ho)) rfl rfl
 |ret e p he=>exactλh _ Q c r m s σ w=>y07 ((gE he h _ _ _ _ _ _ w).mono λX σ₁ w=>by obtain⟨n,w⟩:=w.step;exact w)
 |exp e p he=>exactλh _ Q c r m s σ w=>y3E ((gE he (z0b h).2 _ _ _ _ _ _ w).mono λX σ₁ w=>by obtain⟨n,w⟩:=w.step;exact⟨n,w⟩) (z4i (z0b h).1)
 |ife e a b p he ha hb=>
  refineλh ho Q c r m s σ w=>y4G (AB.mono (gB he (z0b h).1 _ _ _ _ _ _ w) λv σ₁ w=> ?_)
  obtain⟨n,w⟩:=w.step
  have w:=z31 w
  exact⟨λe=>AS.mono (gS ha (z0b (z0b h).2).1 ho _ _ _ _ _ _ ⟨n,w.1 e⟩) (z6g λm σ w=>w.end),λe=>AS.mono (gS hb (z0b (z0b h).2).2 ho _ _ _ _ _ _ ⟨n,w.2 e⟩) (z6g λm σ w=>w.end)⟩
 |forR f x q a u i y q2 b p ha hb=>
  refineλh ho Q c r m s σ w=> ?_
  have h1:=z0b h
  have h2:=z0b h1.2
  have h3:=z0b h2.2
  have h4:=z0b h3.2
  refine z4e (z2p (z0I (z1z (List.mem_of_getElem? (z3I h3.1)) ⟨z1i,z0s ((gE ha h1.1 _ _ _ _ _ _ w).mono λX σ₁ w=>z0r ?_) (z05 h2.1)⟩) (z05 h2.1) rfl)) (λ_=>rfl)
  obtain⟨n,w⟩:=w.step
  obtain⟨k,I,rfl,hk,h0,hb1,he⟩:=Leaf.out w
  refine z2z ⟨_,_,_,k,rfl,y0f hk,y1n k,z6f I _ _ _ (λj Y hY m σ hI QB hQB hQR=> ?_) (λm σ hI=> ?_) h0⟩
  ·obtain⟨hj,rfl⟩:=z5I hY
   obtain⟨m',p,w⟩:=z1G (k:=λm=>W F n QB ((den b).c []) [] m [] σ) (eq_of_beq h4.1) (hb1 j hj m σ hI QB (λm σ h=>hQB m σ trivial h) hQR)
   exact z0v p (z55 (gS hb h4.2 ho) w) (.inl ho)
  ·rw[z1u] at hI;exact⟨n,he m σ hI⟩
 |forL a i y q2 b p ha hb=>
  exactλh ho Q c r m s σ w=>z4e (z0J ((gE ha (z0b h).1 _ _ _ _ _ _ w).mono λX σ₁ w=>by obtain⟨n,w⟩:=w.step;exact z7D (Leaf.out w) λY QB m σ w=>y0B (z0b (z0b (z0b h).2).2).1 (gS hb (z0b (z0b (z0b h).2).2).2) ho w)) (z4r (z0b (z0b h).2).1)
 |forL2 a i j y z q2 q3 k u b p ha hb=>
  exactλh ho Q c r m s σ w=>z4e (z0J ((gE ha (z0b h).1 _ _ _ _ _ _ w).mono λX σ₁ w=>by obtain⟨n,w⟩:=w.step;exact z7D (Leaf.out w) λY QB m σ w=>y2x (z0b (z0b (z0b h).2).2).1 (z0b (z0b (z0b (z0b h).2).2).2).1 (gS hb (z0b (z0b (z0b (z0b h).2).2).2).2) ho w)) (z4r (z0b (z0b h).2).1)
 |forDS a i y q2 b p ha hb=>
  refineλh ho Q c r m s σ w=> ?_
  have h1:=z0b h
  have h2:=z0b h1.2
  have h3:=z0b h2.2
  exact z8Q (KK.str F.C.prog F.C.w) ho (z4r h2.1) (gS hb h3.2 ho) (eq_of_beq h3.1) ((gE ha h1.1 _ _ _ _ _ _ w).mono λX σ₁ w=>by obtain⟨n,w⟩:=w.step;exact⟨n,Leaf.out w⟩)
 |forDI a i y q2 b p ha hb=>
  refineλh ho Q c r m s σ w=> ?_
  have h1:=z0b h
  have h2:=z0b h1.2
  have h3:=z0b h2.2
  exact z8Q (KK.int F.C.prog F.C.w) ho (z4r h2.1) (gS hb h3.2 ho) (eq_of_beq h3.1) ((gE ha h1.1 _ _ _ _ _ _ w).mono λX σ₁ w=>by obtain⟨n,w⟩:=w.step;exact⟨n,Leaf.out w⟩)
 |forV f x q a u i y q2 b p ha hb=>
  refineλh ho Q c r m s σ w=> ?_
  have h3:=z0b (z0b (z0b h).2).2
  have h5:=z0b (z0b h3.2).2
  obtain rfl:=eq_of_beq h3.1
  exact z4e (y25 (z1z (List.mem_of_getElem? (z3I (z0b h3.2).1)) ⟨rfl,z0s ((gE ha (z0b h).1 _ _ _ _ _ _ w).mono λX σ₁ w=>z0r (by obtain⟨n,w⟩:=w.step;exact z6L (Leaf.out w) λY QB m σ w=>y0B h5.1 (gS hb h5.2) ho w)) (z05 (z0b (z0b h).2).1)⟩) (z05 (z0b (z0b h).2).1) rfl) (λ_=>rfl)
 |forE f x q a u i j y z q2 q3 k v b p ha hb=>
  refineλh ho Q c r m s σ w=> ?_
  have h3:=z0b (z0b (z0b h).2).2
  have h5:=z0b (z0b h3.2).2
  obtain rfl:=eq_of_beq h3.1
  exact z4e (y18 (z1z (List.mem_of_getElem? (z3I (z0b h3.2).1)) ⟨rfl,z0s ((gE ha (z0b h).1 _ _ _ _ _ _ w).mono λX σ₁ w=>z0r (by obtain⟨n,w⟩:=w.step;exact z6L (Leaf.out w) λY QB m σ w=>y2x h5.1 (z0b h5.2).1 (gS hb (z0b h5.2).2) ho w)) (z05 (z0b (z0b h).2).1)⟩) (z05 (z0b (z0b h).2).1) rfl) (λ_=>rfl)
 |done=>exactλ_ _ Q c r m s σ w=>y34 w
 |seq t r hs hr=>exactλh ho Q c r m s σ w=>z76 ((g1 hs (z0b h).1 ho _ _ _ _ _ _ w).mono (z4z λm σ w=>gS hr (z0b h).2 ho _ _ _ _ _ _ w))
 |dseq t r hs hr=>
  refineλh ho Q c r m s σ w=>z76 ((g1 hs (z0b h).1 ho _ _ _ _ _ _ w).mono (z4z λm σ w=> ?_))
  obtain⟨n,w⟩:=w.step
  obtain⟨τ,hs,w⟩:=Leaf.out w
  exactλA G D s hA R=>gS hr (z0b h).2 ho _ _ _ _ _ _ ⟨n,w⟩ A G D s hA (R.drop hs)
 |cut t r' hs hr=>
  refineλh ho Q c r m s σ w=> ?_
  obtain⟨n,w⟩:=WE.step w
  obtain⟨I,w1,w2⟩:=Leaf.out w
  refine z76 ((g1 hs (z0b h).1 ho _ _ _ _ _ _ ⟨n,w1 (z1P I (z1P (λm σ=>WE F Q c r m s σ) Q)) (λm σ h=>h) λf m σ hn q=> ?_⟩).mono λf m σ q=> ?_)
  ·cases f with
   |next=>exact(hn rfl).elim
   |brk=>exact q
   |cont=>exact q
   |ret x=>exact q
  ·cases f with
   |next=>exact gS hr (z0b h).2 ho _ _ _ _ _ _ ⟨n,w2 m σ (WE.fin q)⟩
   |brk=>exact q
   |cont=>exact q
   |ret x=>exact q
theorem z0e{C:Cx}[HM C]{env:Env}{vars:List Str}{gl:List (Str×V)}{d:Nat}{fns:List Nat}{ml:List (Nat×Str×Nat)}{al:List (Nat×Str)}(hf:∀a∈fns,z0i C (.ref a))(hm:(∀q∈ml,∃K,MethAt C K q.1 q.2.1 q.2.2)/\∀q∈al,∃K,AttrAt C K q.1 q.2)(t:TC){ss:List Stmt}(_:allK t.p ss λl=>l=t.r)
  (ok:(okS ⟨C,env,vars,gl,true,d,fns,ml,al⟩ (den (rdT gl t.k ss)),(den (rdT gl t.k ss)).sts,(den (rdT gl t.k ss)).c [])=(true,ss,t.k))
  {m:Loc} {σ:Sto} {Q:Fl->Loc->Sto->Prop} (w:let F:Fx:=⟨C,env,vars,gl,true,d,fns,ml,al⟩;let m':=m;W F 3000 Q t.k [] m' [] σ):AS C env vars gl true d (execs ss env) m σ Q:=by
 have h1:=congrArg (·.1) ok
 have h2:(den (rdT gl t.k ss)).sts=ss:=congrArg (·.2.1) ok
 have h3:(den (rdT gl t.k ss)).c []=t.k:=congrArg (·.2.2) ok
 have g:=gS (@y4I ⟨C,env,vars,gl,true,d,fns,ml,al⟩ ‹HM C› hf hm (rdT gl t.k ss)) h1 rfl Q [] [] m [] σ ⟨3000,by rw[h3];exact w⟩
 rw[h2] at g
 refine AS.mono g λf m σ q=> ?_
 cases f with
 |next=>exact WE.fin q
 |brk=>exact q
 |cont=>exact q
 |ret x=>exact q
theorem z39{A:(Fl->Loc->Sto->Prop)->Prop}{B:Loc->Sto->Prop}{Q:Fl->Loc->Sto->Prop}{α:Type}(P:α->Prop)(m1:α->Loc)(σ1:Sto)(h1:∀K:Fl->Loc->Sto->Prop,(∀x,P x->K .next (m1 x) σ1)->(∀f m σ,(f= .next->False)->Q f m σ->K f m σ)->A K)(h2:∀x,P x->B (m1 x) σ1):
  Leaf (∃I:Loc->Sto->Prop,(∀K:Fl->Loc->Sto->Prop,(∀m σ,I m σ->K .next m σ)->(∀f m σ,(f= .next->False)->Q f m σ->K f m σ)->A K)/\∀m σ,I m σ->B m σ):=
 ⟨λm σ=>∃x,P x/\m=m1 x/\σ=σ1,λK hK hR=>h1 K (λx hx=>hK _ _ ⟨x,hx,rfl,rfl⟩) hR,λm σ h=>by obtain⟨x,hx,rfl,rfl⟩:=h;exact h2 x hx⟩
theorem y3U{A:(Fl->Loc->Sto->Prop)->Prop}{B:Loc->Sto->Prop}{Q:Fl->Loc->Sto->Prop}{α:Type}(P:α->Prop)(m1:α->Loc)(σ1:α->Sto)(h1:∀K:Fl->Loc->Sto->Prop,(∀x,P x->K .next (m1 x) (σ1 x))->(∀f m σ,(f= .next->False)->Q f m σ->K f m σ)->A K)(h2:∀x,P x->B (m1 x) (σ1 x)):
  Leaf (∃I:Loc->Sto->Prop,(∀K:Fl->Loc->Sto->Prop,(∀m σ,I m σ->K .next m σ)->(∀f m σ,(f= .next->False)->Q f m σ->K f m σ)->A K)/\∀m σ,I m σ->B m σ):=
 ⟨λm σ=>∃x,P x/\m=m1 x/\σ=σ1 x,λK hK hR=>h1 K (λx hx=>hK _ _ ⟨x,hx,rfl,rfl⟩) hR,λm σ h=>by obtain⟨x,hx,rfl,rfl⟩:=h;exact h2 x hx⟩
theorem z6R{A:(Fl->Loc->Sto->Prop)->Prop}{B:Loc->Sto->Prop}{Q:Fl->Loc->Sto->Prop}(m1:Loc)(σ1:Sto)(h1:∀K:Fl->Loc->Sto->Prop,K .next m1 σ1->(∀f m σ,(f= .next->False)->Q f m σ->K f m σ)->A K)(h2:B m1 σ1):
  Leaf (∃I:Loc->Sto->Prop,(∀K:Fl->Loc->Sto->Prop,(∀m σ,I m σ->K .next m σ)->(∀f m σ,(f= .next->False)->Q f m σ->K f m σ)->A K)/\∀m σ,I m σ->B m σ):=
 ⟨λm σ=>m=m1/\σ=σ1,λK hK hR=>h1 K (hK _ _ ⟨rfl,rfl⟩) hR,λm σ h=>by obtain⟨rfl,rfl⟩:=h;exact h2⟩
end
end
section
noncomputable def Asc(x:Str):Prop:=x.length<=100/\∀c∈x.cps.toList,c<128
inductive Dn(σ:Sto):Nat->V->V->Prop
 |none {n:Nat}:Dn σ n .none .none
 |bool {n:Nat} (b:Bool):Dn σ n (.bool b) (.bool b)
 |int {n:Nat} (i:Int):Dn σ n (.int i) (.int i)
 |str {n:Nat} (x:Str):Asc x->Dn σ n (.str x) (.str x)
 |dict {n:Nat} {a:Addr}:At σ a (.dict [])->Dn σ n (.ref a) (.ref a)
 |tup {n:Nat} {xs ys:List V}:xs.length=ys.length->xs.length<=200->(∀(j:Nat) X Y,xs[j]? =some X->ys[j]? =some Y->Dn σ n X Y)->Dn σ (n+1) (.tup xs) (.tup ys)
 |lst {n:Nat} {xs ys:List V}:xs.length=ys.length->xs.length<=200->(∀(j:Nat) X Y,xs[j]? =some X->ys[j]? =some Y->Dn σ n X Y)->Dn σ (n+1) (.lst xs) (.lst ys)
 |ref {n:Nat} {a:Addr} {xs ys:List V}:At σ a (.list xs)->xs.length=ys.length->xs.length<=200->(∀(j:Nat) X Y,xs[j]? =some X->ys[j]? =some Y->Dn σ n X Y)->Dn σ (n+1) (.ref a) (.lst ys)
section
variable {C:Cx} {d:Nat} {σ σ':Sto} {Q:V->Sto->Prop} {v t:V} {n m:Nat}
theorem Dn.mono(h:Dn σ n v t)(k:∀a x,At σ a x->At σ' a x):Dn σ' n v t:=by
 induction h with
 |none=>exact .none
 |bool b=>exact .bool b
 |int i=>exact .int i
 |str x hx=>exact .str x hx
 |dict ha=>exact .dict (k _ _ ha)
 |tup a b _ ih=>exact .tup a b ih
 |lst a b _ ih=>exact .lst a b ih
 |ref ha a b _ ih=>exact .ref (k _ _ ha) a b ih
theorem Dn.up(h:Dn σ n v t):∀{m:Nat},n<=m->Dn σ m v t:=by
 induction h with
 |none=>intro m _;exact .none
 |bool b=>intro m _;exact .bool b
 |int i=>intro m _;exact .int i
 |str x hx=>intro m _;exact .str x hx
 |dict ha=>intro m _;exact .dict ha
 |tup a b _ ih=>intro m hm;obtain⟨m,rfl⟩:=Nat.exists_eq_add_of_le hm;rw[Nat.add_right_comm];exact .tup a b λj X Y h1 h2=>ih j X Y h1 h2 (Nat.le_add_right _ _)
 |lst a b _ ih=>intro m hm;obtain⟨m,rfl⟩:=Nat.exists_eq_add_of_le hm;rw[Nat.add_right_comm];exact .lst a b λj X Y h1 h2=>ih j X Y h1 h2 (Nat.le_add_right _ _)
 |ref ha a b _ ih=>intro m hm;obtain⟨m,rfl⟩:=Nat.exists_eq_add_of_le hm;rw[Nat.add_right_comm];exact .ref ha a b λj X Y h1 h2=>ih j X Y h1 h2 (Nat.le_add_right _ _)
theorem z6S{xs ys:List V}(hl:xs.length=ys.length){j:Nat}{Y:V}(h:ys[j]? =some Y):∃X,xs[j]? =some X:=
 ⟨_,List.getElem?_eq_getElem (by rw[hl];exact(List.getElem?_eq_some_iff.mp h).1)⟩
theorem Dn.eq(h:Dn σ n v t):EqV C σ n v t:=by
 induction h with
 |none=>exact EqV.none.le
 |bool b=>exact EqV.bool.le
 |int i=>exact EqV.int.le
 |str x hx=>exact EqV.str.le
 |dict ha=>exact EqV.ref.le
 |tup a _ _ ih=>exact EqV.tup a ih
 |lst a _ _ ih=>exact EqV.list (.lst _) (.lst _) a ih
 |ref ha a _ _ ih=>obtain⟨o,ha⟩:=ha;exact EqV.list (.refL ha) (.lst _) a ih
theorem z3R(hs:z0G C)(h:Dn σ n v t)(hn:n<=60)(q:Q (.bool false) σ):AC2 C d (compareOp .NotEq) v t σ Q:=by
 cases h with
 |none=>exact z8q .none .none rfl rfl q
 |bool b=>exact z8q (.bool b) (.bool b) rfl rfl (by cases b<;>exact q)
 |int i=>exact y33 (by rw[decide_eq_true rfl];exact q)
 |str x hx=>exact y2G (by rw[show(x !=x)=false by simp];exact q)
 |dict ha=>exact y2q (KK.str C.prog C.w) (kvs:=[]) hs ha List.nodup_nil ha q
 |tup a _ h=>exact y20 a (λj X Y h1 h2=>(h j X Y h1 h2).eq) (by lia) q
 |lst a _ h=>exact y0Z (.lst _) (.lst _) a (λj X Y h1 h2=>(h j X Y h1 h2).eq) (by lia) q
 |ref ha a _ h=>obtain⟨o,ha⟩:=ha;exact y0Z (.refL ha) (.lst _) a (λj X Y h1 h2=>(h j X Y h1 h2).eq) (by lia) q
noncomputable def tkB(t:V)(k:TK):Bool:=match tkOf t with
 |some (some j)=>j.is k
 |some none=>false
 |none=>TK.dct.is k
theorem y1A{x:V}{P:Sto->Prop}(h:Has σ x (.dict []) P){k:TK}(q:Q (.bool (TK.dct.is k)) σ):KW C d (.bi "isinstance") [x,.type k.n] σ Q:=y0N h q
theorem z6v{x:V}{xs:List V}{P:Sto->Prop}(h:Has σ x (.list xs) P){k:TK}(q:Q (.bool (TK.lst.is k)) σ):KW C d (.bi "isinstance") [x,.type k.n] σ Q:=y0J h q
theorem y3f(h:Dn σ n v t){k:TK}(q:Q (.bool (tkB t k)) σ):KW C d (.bi "isinstance") [v,.type k.n] σ Q:=by
 cases h with
 |none=>exact z2Z (b:=false) rfl q
 |bool b=>exact z2Z rfl q
 |int i=>exact z2Z rfl q
 |str x hx=>exact z2Z rfl q
 |dict ha=>obtain⟨o,ha⟩:=ha;exact y1A (.refD ha) q
 |tup a _ h=>exact z2Z rfl q
 |lst a _ h=>exact z2Z rfl q
 |ref ha a _ h=>obtain⟨o,ha⟩:=ha;exact z6v (.refL ha) q
theorem Dn.tupI(h:Dn σ n v t):tkB t .tup=true->∃m xs ys,n=m+1/\v= .tup xs/\t= .tup ys/\xs.length=ys.length/\xs.length<=200/\∀(j:Nat) X Y,xs[j]? =some X->ys[j]? =some Y->Dn σ m X Y:=
 h.casesOn (motive:=λn v t _=>tkB t .tup=true->∃m xs ys,n=m+1/\v= .tup xs/\t= .tup ys/\xs.length=ys.length/\xs.length<=200/\∀(j:Nat) X Y,xs[j]? =some X->ys[j]? =some Y->Dn σ m X Y)
  (λk=>ff k) (λ_ k=>ff k) (λ_ k=>ff k) (λ_ _ k=>ff k) (λ_ k=>ff k) (λa b c _=>⟨_,_,_,rfl,rfl,rfl,a,b,c⟩) (λ_ _ _ k=>ff k) (λ_ _ _ _ k=>ff k)
theorem Dn.lstI(h:Dn σ n v t):tkB t .lst=true->∃m xs ys P,n=m+1/\Has σ v (.list xs) P/\t= .lst ys/\xs.length=ys.length/\xs.length<=200/\∀(j:Nat) X Y,xs[j]? =some X->ys[j]? =some Y->Dn σ m X Y:=
 h.casesOn (motive:=λn v t _=>tkB t .lst=true->∃m xs ys P,n=m+1/\Has σ v (.list xs) P/\t= .lst ys/\xs.length=ys.length/\xs.length<=200/\∀(j:Nat) X Y,xs[j]? =some X->ys[j]? =some Y->Dn σ m X Y)
  (λk=>ff k) (λ_ k=>ff k) (λ_ k=>ff k) (λ_ _ k=>ff k) (λ_ k=>ff k) (λ_ _ _ k=>ff k) (λa b c _=>⟨_,_,_,_,rfl,.lst _,rfl,a,b,c⟩) (λha b c e _=>by obtain⟨o,ha⟩:=ha;exact⟨_,_,_,_,rfl,.refL ha,rfl,b,c,e⟩)
theorem Dn.strI(h:Dn σ n v t):tkB t .str=true->∃x,v= .str x/\t= .str x/\Asc x:=
 h.casesOn (motive:=λ_ v t _=>tkB t .str=true->∃x,v= .str x/\t= .str x/\Asc x)
  (λk=>ff k) (λ_ k=>ff k) (λ_ k=>ff k) (λ_ hx _=>⟨_,rfl,rfl,hx⟩) (λ_ k=>ff k) (λ_ _ _ k=>ff k) (λ_ _ _ k=>ff k) (λ_ _ _ _ k=>ff k)
end
end
section
section
variable {C:Cx} {env:Env} {vars:List Str} {gl:List (Str×V)} {own:Bool} {d:Nat} {m:Loc} {σ:Sto} {Q:V->Sto->Prop}
noncomputable def ltB(t:V):Bool:=tkB t .lst||tkB t .tup
end
end
section
section
variable {prog:Program} {w:World} {A:Around} {E:Value->Shared->Prop}
theorem z7Q{P:Shared->Prop}(hP:∀s tk,P s->P {s with toks:=tk}){x:Value}{Tx:String}{tp:Addr}{o:Obj}{cs:List Value}{n:Nat}{vs:List Bool}{tk:Tok}{s:Shared}{Q:Fin->Shared->Prop}
  (hx:s.TypeIs x Tx) (htp:s.heap.get? tp=some o) (hc:o.cls= .type "tuple") (hd:o.data= .seq cs.toArray n) (ha:AnswersAll P x cs vs) (hs:P s)
  (hq:∀tk',Q (.done (.ret (.bool (vs.any id)))) {s with toks:=tk'}):wpAny (model prog w) A (Builtin.«isinstance.nested» ⟨[x,.ref tp,.int 0 tk],[]⟩) Q E s:=by
 obtain⟨cls,dd,data,sl⟩:=o
 simp only at hc hd
 subst hc hd
 obtain⟨h,g,d,t,os⟩:=s
 have hT2:(⟨h,g,d,t,os⟩:Shared).TypeIs (.ref tp) "tuple":=⟨_,htp,rfl⟩
 have f1:=F.isi_sub_tuple
 repeat (any_goals (first|assumption|wp_step))
 refine wpAny_arrayLoop ?_
 simp only[Option.getD_some,List.toList_toArray]
 refine isinstance_items (dep:=0) hP cs vs _ _ ha hs λtk'=> ?_
 cases hv:vs.any id with
 |true=>
  simp only[if_true]
  repeat (any_goals (first|assumption|wp_step))
  exact hv▸hq tk'
 |false=>
  simp only[Bool.false_eq_true,if_false]
  repeat (any_goals (first|assumption|wp_step))
  exact hv▸hq tk'
theorem y11{x:Value}{Tx:String}{tp:Addr}{o:Obj}{cs:List Value}{n:Nat}{vs:List Bool}{s:Shared}{Q:Value->Shared->Prop}(ha:AnswersAll (λs=>s.TypeIs x Tx) x cs vs)(hx:s.TypeIs x Tx)(htp:s.heap.get? tp=some o)(hc:o.cls= .type "tuple")(hd:o.data= .seq cs.toArray n)
  (h:∀tk,Q (.bool (vs.any id)) {s with toks:=tk}):wpAny (model prog w) A (call (.builtin "isinstance") [x,.ref tp]) Q E s:=by
 have g:Meets (Builtin.«isinstance» ⟨[x,.ref tp],[]⟩) (λ_ R s=>s.TypeIs x Tx/\s.heap.get? tp=some o/\∀tk,R (.ok (.ret (.bool (vs.any id)))) {s with toks:=tk}):=
  λ_ _ _ _ _ hs=>isinstance_outer (z7Q (λ_ tk h=>h.toks tk) hs.1 hs.2.1 hc hd ha hs.1 hs.2.2) (Shared.TypeIs.not_mainsLoader hs.1)
 exact call_isinstance g ⟨hx,htp,h⟩
end
section
variable {C:Cx} {d:Nat} {σ:Sto} {Q:V->Sto->Prop} {v t:V} {n:Nat}
theorem z2k{x:Value}{Tx:String}{b1 b2:Bool}(ha:Answers (λs=>s.TypeIs x Tx) x (.type "list") b1)(hb:Answers (λs=>s.TypeIs x Tx) x (.type "tuple") b2){A:Around}{G D:Gh}{s:Shared}{u:Value}(hx:s.TypeIs x Tx)(R:RelC C G D σ s)(hu:VR C.w D u (.tup [.type "list",.type "tuple"]))(q:Q (.bool (b1||b2)) σ):
  wpAny C.M A (call (.builtin "isinstance") [x,u]) (PostC C G D Q) (λ_ _=>False) s:=by
 obtain⟨a,o,vs,k,rfl,e,hc,hd,hr⟩:=hu.tupI
 obtain⟨_,_,rfl,h1,h2⟩:=hr.consI
 obtain⟨_,_,rfl,h3,h4⟩:=h2.consI
 obtain rfl:=h4.nilI
 obtain rfl:=h1.typeI
 obtain rfl:=h3.typeI
 refine y11 (AnswersAll.cons ha (AnswersAll.cons hb AnswersAll.nil)) hx (R.d _ _ e) hc hd λtk=> ?_
 have:([b1,b2]:List Bool).any id=(b1||b2):=by simp
 rw[this]
 exact PostC.now (R.tok tk) (.bool _) q
theorem z4B(h:Dn σ n v t)(q:Q (.bool (ltB t)) σ):KW C d (.bi "isinstance") [v,.tup [.type "list",.type "tuple"]] σ Q:=λA G D s f vs hA R hf hs=>by
 apply VR.biE hf
 apply VRs.consE hs;intro x _ h1 h2
 apply VRs.consE h2;intro u _ h3 h4
 apply VRs.nilE h4
 have lst:∀{xs:List V} {P:Sto->Prop},Has σ v (.list xs) P->Q (.bool true) σ->wpAny C.M A (call (.builtin "isinstance") [x,u]) (PostC C G D Q) (λ_ _=>False) s:=λhH q=>by
  apply Has.isListE hH R h1;intro a ws k ho _
  exact z2k (Tx:="list") (.of_true F.isi_meta_list AutoSeq1.sub_list_list) (.of_false_list (by decide+kernel) F.isi_meta_tuple AutoSeq1.sub_list_tuple) ⟨_,ho,rfl⟩ R h3 q
 cases h with
 |none=>rw[h1.noneI];exact z2k (Tx:="NoneType") (.of_false_none (by decide+kernel) F.isi_meta_list (by rw[isSubtype_type];kernel_rfl)) (.of_false_none (by decide+kernel) F.isi_meta_tuple (by rw[isSubtype_type];kernel_rfl)) (by rfl) R h3 q
 |bool b=>rw[h1.boolI];exact z2k (Tx:="bool") (.of_false_bool (by decide+kernel) F.isi_meta_list (by rw[isSubtype_type];kernel_rfl)) (.of_false_bool (by decide+kernel) F.isi_meta_tuple (by rw[isSubtype_type];kernel_rfl)) (by rfl) R h3 q
 |int i=>apply VR.intE h1;intro _;exact z2k (Tx:="int") (.of_false_int (by decide+kernel) F.isi_meta_list (by rw[isSubtype_type];kernel_rfl)) (.of_false_int (by decide+kernel) F.isi_meta_tuple (by rw[isSubtype_type];kernel_rfl)) (by rfl) R h3 q
 |str y hy=>apply VR.strE h1;intro _;exact z2k (Tx:="str") (.of_false_str (by decide+kernel) F.isi_meta_list (by rw[isSubtype_type];kernel_rfl)) (.of_false_str (by decide+kernel) F.isi_meta_tuple (by rw[isSubtype_type];kernel_rfl)) (by rfl) R h3 q
 |dict ha=>
  obtain⟨o,hm⟩:=ha
  obtain⟨a,o',rfl,ho,hr,_⟩:=(Has.refD hm).run R h1
  obtain⟨_,_,rfl,_⟩:=hr
  exact z2k (Tx:="dict") (.of_false_dict (by decide+kernel) F.isi_meta_list (by rw[isSubtype_type];kernel_rfl)) (.of_false_dict (by decide+kernel) F.isi_meta_tuple (by rw[isSubtype_type];kernel_rfl)) ⟨_,ho,rfl⟩ R h3 q
 |tup a _ h=>
  obtain⟨b,us,rfl,_,⟨o,ho,hc,_⟩,_⟩:=VR.isT R h1
  exact z2k (Tx:="tuple") (.of_false_tuple (by decide+kernel) F.isi_meta_list AutoSeq1.sub_tuple_list) (.of_true F.isi_meta_tuple AutoSeq1.sub_tuple_tuple) ⟨o,ho,hc⟩ R h3 q
 |lst a _ h=>exact lst (.lst _) q
 |ref ha a _ h=>obtain⟨o,ha⟩:=ha;exact lst (.refL ha) q
end
end
section
set_option genSizeOf false
set_option genInjectivity false
mutual
inductive Tr(σ:Sto):List Addr->V->V->Prop
 |none:Tr σ [] .none .none
 |int (i:Int):Tr σ [] (.int i) (.int i)
 |str (x:Str):Tr σ [] (.str x) (.str x)
 |tup {A:List Addr} {xs ys:List V}:TrL σ A xs ys->Tr σ A (.tup xs) (.tup ys)
 |ref {A:List Addr} {a:Addr} {xs ys:List V}:At σ a (.list xs)->TrL σ A xs ys->Tr σ (A++[a]) (.ref a) (.lst ys)
inductive TrL(σ:Sto):List Addr->List V->List V->Prop
 |nil:TrL σ [] [] []
 |cons {A B:List Addr} {x y:V} {xs ys:List V}:Tr σ A x y->TrL σ B xs ys->TrL σ (A++B) (x::xs) (y::ys)
end
section
variable {C:Cx} {d:Nat} {σ σ':Sto} {Q:V->Sto->Prop} {v t:V} {A B:List Addr} {xs ys:List V}
noncomputable def Tr.I(σ:Sto)(A:List Addr)(v:V):V->Prop
 | .none=>v= .none/\A=[]
 | .int i=>v= .int i/\A=[]
 | .str x=>v= .str x/\A=[]
 | .tup ys=>∃xs,v= .tup xs/\TrL σ A xs ys
 | .lst ys=>∃a xs B,v= .ref a/\A=B++[a]/\At σ a (.list xs)/\TrL σ B xs ys
 |_=>False
theorem Tr.inv(h:Tr σ A v t):Tr.I σ A v t:=
 h.casesOn (motive_1:=λA v t _=>Tr.I σ A v t) ⟨rfl,rfl⟩ (λ_=>⟨rfl,rfl⟩) (λ_=>⟨rfl,rfl⟩) (λh=>⟨_,rfl,h⟩) λa h=>⟨_,_,_,rfl,rfl,a,h⟩
noncomputable def TrL.I(σ:Sto)(A:List Addr)(xs:List V):List V->Prop
 |[]=>xs=[]/\A=[]
 |y::ys=>∃x zs B D,xs=x::zs/\A=B++D/\Tr σ B x y/\TrL σ D zs ys
theorem TrL.inv(h:TrL σ A xs ys):TrL.I σ A xs ys:=
 h.casesOn (motive_2:=λA v t _=>TrL.I σ A v t) ⟨rfl,rfl⟩ λa b=>⟨_,_,_,_,rfl,rfl,a,b⟩
theorem Tr.mono(h:Tr σ A v t):(∀a∈A,∀x,At σ a x->At σ' a x)->Tr σ' A v t:=
 Tr.rec (motive_1:=λA v t _=>(∀a∈A,∀x,At σ a x->At σ' a x)->Tr σ' A v t) (motive_2:=λA v t _=>(∀a∈A,∀x,At σ a x->At σ' a x)->TrL σ' A v t)
  (λ_=> .none) (λi _=> .int i) (λx _=> .str x) (λ_ ih k=> .tup (ih k)) (λha _ ih k=> .ref (k _ (List.mem_append_right _ (.head _)) _ ha) (ih λa h=>k a (List.mem_append_left _ h)))
  (λ_=> .nil) (λ_ _ i1 i2 k=> .cons (i1 λa h=>k a (List.mem_append_left _ h)) (i2 λa h=>k a (List.mem_append_right _ h))) h
theorem TrL.mono(h:TrL σ A xs ys)(k:∀a∈A,∀x,At σ a x->At σ' a x):TrL σ' A xs ys:=by
 obtain⟨zs,e,h'⟩:=((Tr.tup h).mono k).inv
 cases e;exact h'
theorem Tr.at(h:Tr σ A v t):∀a∈A,∃xs,At σ a (.list xs):=
 Tr.rec (motive_1:=λA v t _=>∀a∈A,∃xs,At σ a (.list xs)) (motive_2:=λA v t _=>∀a∈A,∃xs,At σ a (.list xs))
  (λ_ h=>nomatch h) (λ_ _ h=>nomatch h) (λ_ _ h=>nomatch h) (λ_ ih=>ih) (λha _ ih a h=>by
   rcases List.mem_append.mp h with h|h
   ·exact ih a h
   ·rw[List.mem_singleton.mp h];exact⟨_,ha⟩)
  (λ_ h=>nomatch h) (λ_ _ i1 i2 a h=>by
   rcases List.mem_append.mp h with h|h
   ·exact i1 a h
   ·exact i2 a h) h
theorem TrL.at(h:TrL σ A xs ys):∀a∈A,∃xs,At σ a (.list xs):=(Tr.tup h).at
theorem TrL.app{xs' ys':List V}(h':TrL σ B xs' ys'):∀{ys xs A},TrL σ A xs ys->TrL σ (A++B) (xs++xs') (ys++ys')
 |[],xs,A,h=>by obtain⟨rfl,rfl⟩:=h.inv;exact h'
 |y::ys,xs,A,h=>by
  obtain⟨x,zs,B',D,rfl,rfl,h1,h2⟩:=h.inv
  rw[List.append_assoc];exact .cons h1 (TrL.app h' h2)
theorem TrL.one(h:Tr σ A v t):TrL σ A [v] [t]:=by
 have:=TrL.cons h .nil
 rw[List.append_nil] at this;exact this
theorem TrL.len:∀{ys xs A},TrL σ A xs ys->xs.length=ys.length
 |[],xs,A,h=>by obtain⟨rfl,_⟩:=h.inv;rfl
 |y::ys,xs,A,h=>by
  obtain⟨x,zs,B',D,rfl,_,_,h2⟩:=h.inv
  exact congrArg (·+1) h2.len
theorem TrL.nth:∀{ys xs A} {j:Nat} {X Y:V},TrL σ A xs ys->xs[j]? =some X->ys[j]? =some Y->∃B,(∀a∈B,a∈A)/\Tr σ B X Y
 |[],xs,A,j,X,Y,h,_,h2=>by cases h2
 |y::ys,xs,A,j,X,Y,h,h1,h2=>by
  obtain⟨x,zs,B',D,rfl,rfl,a,b⟩:=h.inv
  cases j with
  |zero=>cases h1;cases h2;exact⟨B',λa h=>List.mem_append_left _ h,a⟩
  |succ j=>
   obtain⟨E,h3,h4⟩:=b.nth h1 h2
   exact⟨E,λa h=>List.mem_append_right _ (h3 a h),h4⟩
theorem Tr.dat:∀{ys:List V},(∀y∈ys,(∃i,y= .int i)∨∃x,y= .str x)->TrL σ [] ys ys
 |[],_=> .nil
 |y::ys,h=>by
  have h2:=Tr.dat λz hz=>h z (.tail _ hz)
  rcases h y (.head _) with⟨i,rfl⟩|⟨x,rfl⟩
  ·exact .cons (.int i) h2
  ·exact .cons (.str x) h2
theorem TrL.flat:∀{ys:List V},(∀y∈ys,Tr σ [] y y)->TrL σ [] ys ys
 |[],_=> .nil
 |y::ys,h=> .cons (h y (.head _)) (TrL.flat λz hz=>h z (.tail _ hz))
theorem Tr.dn{τ:Sto}:∀{n:Nat} {A v t},Tr σ A v t->Dn τ n t t->Dn σ n v t:=λ{n}=>by
 induction n with
 |zero=>
  intro A v t h hd
  cases hd with
  |none=>obtain⟨rfl,_⟩:=h.inv;exact .none
  |int i=>obtain⟨rfl,_⟩:=h.inv;exact .int i
  |str x hx=>obtain⟨rfl,_⟩:=h.inv;exact .str x hx
  |bool b=>exact h.inv.elim
  |dict _=>exact h.inv.elim
 |succ n ih=>
  intro A v t h hd
  cases hd with
  |none=>obtain⟨rfl,_⟩:=h.inv;exact .none
  |int i=>obtain⟨rfl,_⟩:=h.inv;exact .int i
  |str x hx=>obtain⟨rfl,_⟩:=h.inv;exact .str x hx
  |bool b=>exact h.inv.elim
  |dict _=>exact h.inv.elim
  |tup _ h2 h3=>
   obtain⟨xs,rfl,hl⟩:=h.inv
   refine .tup hl.len (hl.len▸h2) λj X Y e1 e2=> ?_
   obtain⟨_,_,hT⟩:=hl.nth e1 e2
   exact ih hT (h3 j Y Y e2 e2)
  |lst _ h2 h3=>
   obtain⟨a,xs,B,rfl,_,ha,hl⟩:=h.inv
   refine .ref ha hl.len (hl.len▸h2) λj X Y e1 e2=> ?_
   obtain⟨_,_,hT⟩:=hl.nth e1 e2
   exact ih hT (h3 j Y Y e2 e2)
end
inductive Res(σ:Sto)(t v:V)(σ':Sto):Prop
 |mk (A:List Addr):(∀p∈σ,p∈σ')->A.Nodup->(∀a∈A,Fresh σ a)->Tr σ' A v t->Res σ t v σ'
section
variable {C:Cx} {env:Env} {vars:List Str} {gl:List (Str×V)} {own:Bool} {d:Nat} {m:Loc} {σ σ' τ:Sto} {Q:V->Sto->Prop} {G D D':Gh} {s s':Shared} {f:Addr} {xs:List V}
theorem z6J{a:Addr}:∀{σ:Sto},a∈foot σ->∃p∈σ,a∈z0F p.1 p.2.2
 |[],h=>by cases h
 |p::σ,h=>by
  rcases List.mem_append.mp (show a∈z0F p.1 p.2.2++foot σ from h) with h|h
  ·exact⟨p,.head _,h⟩
  ·obtain⟨q,h1,h2⟩:=z6J h;exact⟨q,.tail _ h1,h2⟩
theorem foot_one:∀{σ:Sto},(foot σ).Nodup->∀{a:Addr} {p q:Addr×Obj×AO},p∈σ->q∈σ->a∈z0F p.1 p.2.2->a∈z0F q.1 q.2.2->p=q
 |[],_,_,_,_,h,_,_,_=>by cases h
 |r::σ,hn,a,p,q,h1,h2,k1,k2=>by
  obtain⟨_,hn2,hd⟩:=List.nodup_append.mp (show(z0F r.1 r.2.2++foot σ).Nodup from hn)
  rcases List.mem_cons.mp h1 with e1|m1
  ·rcases List.mem_cons.mp h2 with e2|m2
   ·rw[e1,e2]
   ·subst e1;exact absurd rfl (hd _ k1 _ (z1A (ob:=q.2.1) m2 _ k2))
  ·rcases List.mem_cons.mp h2 with e2|m2
   ·subst e2;exact absurd rfl (hd _ k2 _ (z1A (ob:=p.2.1) m1 _ k1))
   ·exact foot_one hn2 m1 m2 k1 k2
theorem RelC.part(R:RelC C G D σ' s)(hn:(foot σ).Nodup)(hk:∀p∈σ,p∈σ'):RelC C G D σ s:=by
 have hf:∀a∈foot σ,a∈foot σ':=λa ha=>by
  obtain⟨p,h1,h2⟩:=z6J ha
  exact z1A (ob:=p.2.1) (hk p h1) a h2
 exact⟨R.same,R.bs,R.g,R.d,R.base,hn,λa ha=>R.offG a (hf a ha),λa ha=>R.offD a (hf a ha),λp hp=>R.pl p (hk p hp),λp hp=>R.sto p (hk p hp)⟩
theorem y2M(h:(foot σ).Nodup->CW C d (.ref f) xs σ Q):CW C d (.ref f) xs σ Q:=λA G D s vs hA R hv=>h R.nd A G D s vs hA R hv
theorem y3l(h:CW C d (.ref f) xs σ λv σ'=>(foot σ').Nodup->Q v σ'):CW C d (.ref f) xs σ Q:=λA G D s vs hA R hv=>
 codeAny_mono (h A G D s vs hA R hv) λr s' q=>by
  cases r with
  |error e=>exact q
  |ok fl=>
   cases fl<;>first|exact q.elim|skip
   obtain⟨x,D',σ',dx,hx,R',q⟩:=q
   exact⟨x,D',σ',dx,hx,R',q R'.nd⟩
theorem y1S(hn:(foot τ).Nodup)(h:CW C d (.ref f) xs σ λv σ'=>(∀p∈τ,p∈σ')/\Q v τ):CW C d (.ref f) xs σ Q:=λA G D s vs hA R hv=>
 codeAny_mono (h A G D s vs hA R hv) λr s' q=>by
  cases r with
  |error e=>exact q
  |ok fl=>
   cases fl<;>first|exact q.elim|skip
   obtain⟨x,D',σ',dx,hx,R',hk,q⟩:=q
   exact⟨x,D',τ,dx,hx,R'.part hn hk,q⟩
open Classical in
noncomputable def z9l(D:Gh)(A:List Addr)(h:Heap):Gh:=λa=>if a∈A then h.get? a else D a
theorem z8L{A:List Addr}{h:Heap}{a:Addr}(ha:a∈A):z9l D A h a=h.get? a:=by unfold z9l;rw[if_pos ha]
theorem z4o{A:List Addr}{h:Heap}{a:Addr}(ha:a∉A):z9l D A h a=D a:=by unfold z9l;rw[if_neg ha]
theorem Tr.frz{A:List Addr}{v t:V}(R:RelC C G D σ s)(hD:Sub D D')(h:Tr σ A v t):(∀a∈A,D' a=s.heap.get? a)->∀z,VR C.w D z v->VR C.w D' z t:=
 Tr.rec (motive_1:=λA v t _=>(∀a∈A,D' a=s.heap.get? a)->∀z,VR C.w D z v->VR C.w D' z t) (motive_2:=λA v t _=>(∀a∈A,D' a=s.heap.get? a)->∀z,VRs C.w D z v->VRs C.w D' z t)
  (λ_ _ h=>h.mono hD) (λ_ _ _ h=>h.mono hD) (λ_ _ _ h=>h.mono hD) (λ_ ih k z h=>by
   obtain⟨a,o,vs,n,rfl,e,hc,hd,hr⟩:=h.tupI
   exact .tup (hD _ _ e) hc hd (ih k _ hr)) (λ{A a xs ys} ha _ ih k z h=>by
   rw[h.refI]
   obtain⟨o,ha⟩:=ha
   obtain⟨ws,n,rfl,hr⟩:∃ws n,o=z0p ws n/\VRs C.w D ws.toList xs:=R.sto _ ha
   have hp:s.heap.get? a=some (z0p ws n):=R.pl _ ha
   refine .lst (vs:=ws.toList) (n:=n) ?_ (ih (λb hb=>k b (List.mem_append_left _ hb)) _ hr)
   rw[Array.toArray_toList,k a (List.mem_append_right _ (.head _))];exact hp)
  (λ_ z h=>by rw[h.nilI];exact .nil) (λ_ _ i1 i2 k z h=>by
   obtain⟨y,r,rfl,h1,h2⟩:=h.consI
   exact .cons (i1 (λa ha=>k a (List.mem_append_left _ ha)) _ h1) (i2 (λa ha=>k a (List.mem_append_right _ ha)) _ h2)) h
theorem y2Z{t:V}(q:Q t σ)(h:CW C d (.ref f) xs σ (Res σ t)):CW C d (.ref f) xs σ Q:=λA G D s vs hA R hv=>
 codeAny_mono (h A G D s vs hA R hv) λr s' hq=>by
  cases r with
  |error e=>exact hq
  |ok fl=>
   cases fl<;>first|exact hq.elim|skip
   obtain⟨x,D',σ',dx,hx,R',hr⟩:=hq
   obtain⟨A,hk,hn,hf,hT⟩:=hr
   have haf:∀a∈A,a∈foot σ':=λa ha=>by
    obtain⟨_,o,h⟩:=hT.at a ha
    exact z1J h
   have hsub:Sub D' (z9l D' A s'.heap):=λa o e=>by
    by_cases ha:a∈A
    ·rw[R'.offD a (haf a ha)] at e;cases e
    ·rw[z4o ha];exact e
   have hno:∀a∈foot σ,a∉A:=λa h1 ha=>by
    obtain⟨p,h2,h3⟩:=z6J h1
    obtain⟨_,o,h4⟩:=hT.at a ha
    have e:=foot_one R'.nd (hk p h2) h4 h3 (z0u _ _)
    exact hf a ha _ h2 (by rw[e])
   have R2:=R'.part R.nd hk
   refine⟨t,z9l D' A s'.heap,σ,dx.trans ⟨hsub,λa e g=> ?_⟩,hT.frz R' hsub (λa ha=>z8L ha) _ hx,⟨R2.same,R2.bs,R2.g,λa o e=> ?_,R2.base,R2.nd,R2.offG,λa ha=> ?_,R2.pl,λp hp=>(R2.sto p hp).mono hsub⟩,q⟩
   ·by_cases ha:a∈A
    ·exact absurd (R'.offG a (haf a ha)) g
    ·rw[z4o ha];exact e
   ·by_cases ha:a∈A
    ·rw[z8L ha] at e;exact e
    ·rw[z4o ha] at e;exact R'.d a o e
   ·rw[z4o (hno a ha)];exact R2.offD a ha
theorem y2R{t:Sem Value}(h:AT C env vars gl own d t m σ λv σ'=>(foot σ').Nodup->Q v σ'):AT C env vars gl own d t m σ Q:=λA G D s hA R=>
 h.run hA R λv s' x D' σ' a b c hq=>⟨x,D',σ',a,b,c,hq c.toRelC.nd⟩
theorem z1Q{α:Type}{f g:α->V}{x:Str}{caps:List Str}{elt:Expr}{pp:Pos}{P:Sto->Prop}{Z:List V->Sto->Prop}{ms:Loc}(hk:env.kindOf x=some .local)(hP:P σ)(l:List α):
  ∀(acc:List V) (o:Option V),(∀p∈l,∀K:V->Sto->Prop,K (g p) σ->AT C env (x::caps) gl false d (eval elt env) (some (f p)::ms) σ K)->Z (acc++l.map g) σ->
   z0S C env (x::caps) gl d (.Name x pp) elt [] P Z (l.map f) acc (o::ms) σ:=by
 induction l with
 |nil=>intro acc o _ q;simpa[z0S] using q
 |cons p l ih=>
  intro acc o h q
  refine z0v Put.head ?_ (.inr hk)
  refine⟨λ_=>h p (.head _) _ ⟨hP,ih (acc++[g p]) (some (f p)) (λY hY=>h Y (.tail _ hY)) (by simpa using q)⟩,λe=>by cases e⟩
theorem z60{a:Addr}{o:Obj}{x:AO}(hn:(foot ((a,o,x)::σ)).Nodup):Fresh σ a:=λp hp e=>
 (List.nodup_append.mp (show(z0F a x++foot σ).Nodup from hn)).2.2 a (z0u _ _) _ (z12 hp) e.symm
theorem y4r(q:Q (.bool true) σ):KW C d (.bi "isinstance") [.tup xs,.tup [.type "list",.type "tuple"]] σ Q:=λA G D s f vs hA R hf hs=>by
 apply VR.biE hf
 apply VRs.consE hs;intro x _ h1 h2
 apply VRs.consE h2;intro u _ h3 h4
 apply VRs.nilE h4
 obtain⟨b,us,rfl,_,⟨o,ho,hc,_⟩,_⟩:=VR.isT R h1
 exact z2k (Tx:="tuple") (.of_false_tuple (by decide+kernel) F.isi_meta_list AutoSeq1.sub_tuple_list) (.of_true F.isi_meta_tuple AutoSeq1.sub_tuple_tuple) ⟨o,ho,hc⟩ R h3 q
theorem y3T{v:V}{P:Sto->Prop}(hH:Has σ v (.list xs) P)(q:Q (.bool true) σ):KW C d (.bi "isinstance") [v,.tup [.type "list",.type "tuple"]] σ Q:=λA G D s f vs hA R hf hs=>by
 apply VR.biE hf
 apply VRs.consE hs;intro x _ h1 h2
 apply VRs.consE h2;intro u _ h3 h4
 apply VRs.nilE h4
 apply Has.isListE hH R h1;intro a ws k ho _
 exact z2k (Tx:="list") (.of_true F.isi_meta_list AutoSeq1.sub_list_list) (.of_false_list (by decide+kernel) F.isi_meta_tuple AutoSeq1.sub_list_tuple) ⟨_,ho,rfl⟩ R h3 q
inductive Dq:Nat->V->Prop
 |atom {n:Nat} {t:V}:Dn [] 0 t t->ltB t=false->Dq n t
 |tup {n:Nat} {ys:List V}:ys.length<=1000->(∀y∈ys,Dq n y)->Dq (n+1) (.tup ys)
 |lst {n:Nat} {ys:List V}:ys.length<=1000->(∀y∈ys,Dq n y)->Dq (n+1) (.lst ys)
theorem Dn.q:∀{n:Nat} {t:V},Dn [] n t t->Dq n t:=λ{n}=>by
 induction n with
 |zero=>intro t h;exact .atom h (by cases h<;>rfl)
 |succ n ih=>
  intro t h
  cases h with
  |none=>exact .atom .none rfl
  |bool b=>exact .atom (.bool b) rfl
  |int i=>exact .atom (.int i) rfl
  |str x hx=>exact .atom (.str x hx) rfl
  |dict ha=>obtain⟨_,h⟩:=ha;cases h
  |tup _ h2 h3=>exact .tup (Nat.le_trans h2 (by decide)) λy hy=>by obtain⟨j,hj⟩:=List.getElem?_of_mem hy;exact ih (h3 j y y hj hj)
  |lst _ h2 h3=>exact .lst (Nat.le_trans h2 (by decide)) λy hy=>by obtain⟨j,hj⟩:=List.getElem?_of_mem hy;exact ih (h3 j y y hj hj)
theorem TrL.more{n:Nat}(ih:∀{A v t},Tr σ A v t->Dn [] n t t->(∀a∈A,∀xs,At σ a (.list xs)->At σ' a (.list (xs++[.int 0])))->∃t',Tr σ' A v t'/\Dq n t'):
  ∀{ys xs A},TrL σ A xs ys->(∀y∈ys,Dn [] n y y)->(∀a∈A,∀xs,At σ a (.list xs)->At σ' a (.list (xs++[.int 0])))->∃ys',TrL σ' A xs ys'/\ys'.length=ys.length/\∀y∈ys',Dq n y
 |[],xs,A,h,_,_=>by obtain⟨rfl,rfl⟩:=h.inv;exact⟨[],.nil,rfl,λ_ h=>nomatch h⟩
 |y::ys,xs,A,h,hd,hk=>by
  obtain⟨x,zs,B,D,rfl,rfl,h1,h2⟩:=h.inv
  obtain⟨t',a1,a2⟩:=ih h1 (hd y (.head _)) λa ha=>hk a (List.mem_append_left _ ha)
  obtain⟨ys',b1,b2,b3⟩:=TrL.more ih h2 (λz hz=>hd z (.tail _ hz)) λa ha=>hk a (List.mem_append_right _ ha)
  exact⟨t'::ys',.cons a1 b1,congrArg (·+1) b2,List.forall_mem_cons.mpr ⟨a2,b3⟩⟩
theorem Tr.more:∀{n:Nat} {A v t},Tr σ A v t->Dn [] n t t->(∀a∈A,∀xs,At σ a (.list xs)->At σ' a (.list (xs++[.int 0])))->∃t',Tr σ' A v t'/\Dq n t':=λ{n}=>by
 have atom:∀{m:Nat} {A v t},Tr σ A v t->Dn [] 0 t t->∃t',Tr σ' A v t'/\Dq m t':=λ{m A v t} h hd=>by
  cases hd with
  |none=>obtain⟨rfl,rfl⟩:=h.inv;exact⟨_,.none,.atom .none rfl⟩
  |int i=>obtain⟨rfl,rfl⟩:=h.inv;exact⟨_,.int i,.atom (.int i) rfl⟩
  |str x hx=>obtain⟨rfl,rfl⟩:=h.inv;exact⟨_,.str x,.atom (.str x hx) rfl⟩
  |bool b=>exact h.inv.elim
  |dict _=>exact h.inv.elim
 induction n with
 |zero=>intro A v t h hd _;exact atom h hd
 |succ n ih=>
  intro A v t h hd hk
  cases hd with
  |none=>exact atom h .none
  |int i=>exact atom h (.int i)
  |str x hx=>exact atom h (.str x hx)
  |bool b=>exact h.inv.elim
  |dict _=>exact h.inv.elim
  |tup _ h2 h3=>
   obtain⟨xs,rfl,hl⟩:=h.inv
   obtain⟨ys',b1,b2,b3⟩:=TrL.more ih hl (λy hy=>by obtain⟨j,hj⟩:=List.getElem?_of_mem hy;exact h3 j y y hj hj) hk
   exact⟨_,.tup b1,.tup (by rw[b2];exact Nat.le_trans h2 (by decide)) b3⟩
  |lst _ h2 h3=>
   obtain⟨a,xs,B,rfl,rfl,ha,hl⟩:=h.inv
   obtain⟨ys',b1,b2,b3⟩:=TrL.more ih hl (λy hy=>by obtain⟨j,hj⟩:=List.getElem?_of_mem hy;exact h3 j y y hj hj) λa ha=>hk a (List.mem_append_left _ ha)
   have hT:TrL σ' B (xs++[.int 0]) (ys'++[.int 0]):=by
    have:=TrL.app (TrL.one (.int 0)) b1
    rw[List.append_nil] at this;exact this
   exact⟨_,.ref (hk a (List.mem_append_right _ (.head _)) _ ha) hT,.lst (by rw[List.length_append,b2];exact Nat.le_trans (Nat.succ_le_succ h2) (by decide)) λy hy=>by
    rcases List.mem_append.mp hy with hy|hy
    ·exact b3 y hy
    ·rw[List.mem_singleton.mp hy];exact .atom (.int 0) rfl⟩
inductive SeqV(σ:Sto)(v:V)(xs:List V)(B A:List Addr)(P:Sto->Prop):Prop
 |tup:v= .tup xs->A=B->P=(λ_=>True)->SeqV σ v xs B A P
 |lst {a:Addr} {o:Obj}:v= .ref a->A=B++[a]->(a,o,AO.list xs)∈σ->P=(λσ'=>(a,o,AO.list xs)∈σ')->SeqV σ v xs B A P
theorem SeqV.hv{v:V}{A B:List Addr}{P:Sto->Prop}(h:SeqV σ v xs B A P):(v= .tup xs/\P=λ_=>True)∨Has σ v (.list xs) P:=by
 cases h with
 |tup a _ c=>exact .inl ⟨a,c⟩
 |lst a _ c e=>subst a e;exact .inr (.refL c)
theorem SeqV.lt{v:V}{A B:List Addr}{P:Sto->Prop}(h:SeqV σ v xs B A P)(q:Q (.bool true) σ):KW C d (.bi "isinstance") [v,.tup [.type "list",.type "tuple"]] σ Q:=by
 rcases h.hv with⟨rfl,_⟩|h
 ·exact y4r q
 ·exact y3T h q
theorem Tr.seq{n:Nat}{v t:V}{A:List Addr}(h:Tr σ A v t)(hd:Dq (n+1) t):(ltB t=false/\Dn [] 0 t t/\v=t/\A=[])∨∃xs ys B P,SeqV σ v xs B A P/\TrL σ B xs ys/\ys.length<=1000/\∀y∈ys,Dq n y:=by
 cases hd with
 |atom h1 h2=>
  cases h1 with
  |none=>obtain⟨rfl,rfl⟩:=h.inv;exact .inl ⟨rfl,.none,rfl,rfl⟩
  |int i=>obtain⟨rfl,rfl⟩:=h.inv;exact .inl ⟨rfl,.int i,rfl,rfl⟩
  |str x hx=>obtain⟨rfl,rfl⟩:=h.inv;exact .inl ⟨rfl,.str x hx,rfl,rfl⟩
  |bool b=>exact h.inv.elim
  |dict _=>exact h.inv.elim
 |tup h1 h2=>obtain⟨xs,rfl,hl⟩:=h.inv;exact .inr ⟨xs,_,_,_,.tup rfl rfl rfl,hl,h1,h2⟩
 |lst h1 h2=>obtain⟨a,xs,B,rfl,rfl,⟨o,ha⟩,hl⟩:=h.inv;exact .inr ⟨xs,_,B,_,.lst rfl rfl ha rfl,hl,h1,h2⟩
theorem Tr.at0{v t:V}{A:List Addr}(h:Tr σ A v t)(hd:Dq 0 t):ltB t=false/\Dn [] 0 t t/\v=t/\A=[]:=by
 cases hd with
 |atom h1 h2=>
  cases h1 with
  |none=>obtain⟨rfl,rfl⟩:=h.inv;exact⟨rfl,.none,rfl,rfl⟩
  |int i=>obtain⟨rfl,rfl⟩:=h.inv;exact⟨rfl,.int i,rfl,rfl⟩
  |str x hx=>obtain⟨rfl,rfl⟩:=h.inv;exact⟨rfl,.str x hx,rfl,rfl⟩
  |bool b=>exact h.inv.elim
  |dict _=>exact h.inv.elim
theorem z87{a:Addr}{X:V}{xs:List V}(hm:At σ a (.list xs))(hl:xs.length<=sizeLine)(q:∀σ',UpdS σ σ' a (.list (X::xs))->Q .none σ'):KW C d (.bi "list.insert") [.ref a,.int 0,X] σ Q:=λA G D s v vs hA R hv hss=>by
 apply VR.biE hv
 obtain⟨o,σ',U,US⟩:=hm.upd (.list (X::xs))
 apply VRs.consE hss;intro _ _ h1 h2
 apply VRs.consE h2;intro _ _ h3 h4
 apply VRs.consE h4;intro y _ h5 h6
 apply VRs.nilE h6
 apply VR.refE h1
 apply VR.intE h3;intro tk
 obtain⟨ws,n,rfl,hr⟩:∃ws n,o=z0p ws n/\VRs C.w D ws.toList xs:=R.sto _ (U o).mem
 have ho:s.heap.get? a=some (z0p ws n):=R.pl _ (U (z0p ws n)).mem
 have hz:ws.size=xs.length:=by rw[<-hr.length];simp
 refine call_meets F.slot_list_insert ⟨_,ho,rfl⟩ F.entry_list_insert (F.args_list_insert_3 _ _ _) (AutoSeq1.list_insert_list_int_val_1 a ws n 0 tk y (by decide) (by rw[hz];exact hl)) ⟨ho,?_⟩
 have h1:=PyProof.Rows.get?_update_seq (c:="list") ho (λzs:Array Value=>have k:=if(0:Int)<0 then((0:Int)+(zs.size:Int)).toNat else min (0:Int).toNat zs.size;(zs.extract 0 k).push y++zs.extract k)
 have:=R.upd (U _) s.toks (z0u _ _) (Heap.SameBut.update ..) rfl h1 ⟨_,_,rfl,by
  have e:(((ws.extract 0 (if(0:Int)<0 then((0:Int)+(ws.size:Int)).toNat else min (0:Int).toNat ws.size)).push y++ws.extract (if(0:Int)<0 then((0:Int)+(ws.size:Int)).toNat else min (0:Int).toNat ws.size)):Array Value).toList=y::ws.toList:=by simp
  show VRs C.w D ((((ws.extract 0 (if(0:Int)<0 then((0:Int)+(ws.size:Int)).toNat else min (0:Int).toNat ws.size)).push y++ws.extract (if(0:Int)<0 then((0:Int)+(ws.size:Int)).toNat else min (0:Int).toNat ws.size)):Array Value).toList) (X::xs)
  rw[e];exact .cons h5 hr⟩
 exact⟨.none,D,_,DX.refl _ _,.none,this,q _ (US _)⟩
end
end
section
noncomputable abbrev K1(C:Cx):W.Frag:=Tp.K C.w.params
structure G1(C:Cx):Prop where
 kin:(K1 C).In C.base
 bi:∀x:Str,x≠"__name__"->C.mb x=bootBuiltins x
 ns:z0G C
section
variable {C:Cx}
theorem glF(H:G1 C){x:Str}{v:Value}{X:V}(e:W.nsIn (K1 C) mainGlobals x=some (some v))(hv:VR C.w (λ_=>none) v X):z0f C x X:=⟨v,hv,.inl (W.mg_of H.kin C.hg e)⟩
theorem glB(H:G1 C){x:Str}{v:Value}{X:V}(e:W.nsIn (K1 C) mainGlobals x=some none)(hb:bootBuiltins x=some v)(hv:VR C.w (λ_=>none) v X)(hn:x≠"__name__":=by decide+kernel):z0f C x X:=
 ⟨v,hv,.inr ⟨W.mg_none_of H.kin C.hg e,(H.bi x hn).trans hb⟩⟩
end
section
variable {C:Cx}
theorem z0h(H:G1 C):z0f C "isinstance" (.bi "isinstance"):=glB H (by rfl) (by decide+kernel) (.bi _)
theorem z2G(H:G1 C):z0f C "str" (.type "str"):=glB H (by rfl) (by decide+kernel) (.type _)
theorem z0Q(H:G1 C):z0f C "len" (.bi "len"):=glB H (by rfl) (by decide+kernel) (.bi _)
theorem z4N(H:G1 C):z0f C "MOST_LETTERS" (.int 8):=glF H (by rfl) (.int _ _)
theorem y1o(H:G1 C):z0f C "all" (.bi "all"):=glB H (by rfl) (by decide+kernel) (.bi _)
theorem z9q(H:G1 C):z0f C "LETTERS" (.str "abcdefghijklmnopqrstuvwxyz"):=glF H (by rfl) (.str _ _)
theorem z8N(H:G1 C):z0f C "int" (.type "int"):=glB H (by rfl) (by decide+kernel) (.type _)
theorem z2t(H:G1 C):z0f C "bool" (.type "bool"):=glB H (by rfl) (by decide+kernel) (.type _)
theorem z6V(H:G1 C):z0f C "MOST_MAKE" (.int 999):=glF H (by rfl) (.int _ _)
theorem z0M(H:G1 C):z0f C "tuple" (.type "tuple"):=glB H (by rfl) (by decide+kernel) (.type _)
theorem z19(H:G1 C):z0f C "is_ware" (.ref 116):=glF H (by rfl) (.ref _)
theorem z2N(H:G1 C):z0f C "is_make" (.ref 123):=glF H (by rfl) (.ref _)
theorem z0N(H:G1 C):z0f C "list" (.type "list"):=glB H (by rfl) (by decide+kernel) (.type _)
theorem z41(H:G1 C):z0f C "MOST_WISHES" (.int 8):=glF H (by rfl) (.int _ _)
theorem z9w(H:G1 C):z0f C "BadWish" (.ref 109):=glF H (by rfl) (.ref _)
theorem z5t(H:G1 C):z0f C "is_need" (.ref 130):=glF H (by rfl) (.ref _)
theorem z2A(H:G1 C):z0f C "is_number" (.ref 156):=glF H (by rfl) (.ref _)
theorem z2g(H:G1 C):z0f C "is_granted" (.ref 163):=glF H (by rfl) (.ref _)
theorem z4X(H:G1 C):z0f C "reversed" (.type "reversed"):=glB H (by rfl) (by decide+kernel) (.type _)
theorem z4W(H:G1 C):z0f C "within" (.ref 137):=glF H (by rfl) (.ref _)
theorem z2i(H:G1 C):z0f C "range" (.type "range"):=glB H (by rfl) (by decide+kernel) (.type _)
theorem z38(H:G1 C):z0f C "enumerate" (.type "enumerate"):=glB H (by rfl) (by decide+kernel) (.type _)
theorem z20(H:G1 C):z0f C "dict" (.type "dict"):=glB H (by rfl) (by decide+kernel) (.type _)
theorem z3q(H:G1 C):z0f C "stretch_of" (.ref 170):=glF H (by rfl) (.ref _)
theorem y1U(H:G1 C):z0f C "clash" (.ref 187):=glF H (by rfl) (.ref _)
theorem z7F(H:G1 C):z0f C "agenda_of" (.ref 149):=glF H (by rfl) (.ref _)
theorem z49(H:G1 C):z0f C "sources_for" (.ref 180):=glF H (by rfl) (.ref _)
theorem z9n(H:G1 C):z0f C "left_by" (.ref 175):=glF H (by rfl) (.ref _)
theorem z9g(H:G1 C):z0f C "outside" (.ref 194):=glF H (by rfl) (.ref _)
theorem z5o(H:G1 C):z0f C "settled" (.ref 199):=glF H (by rfl) (.ref _)
theorem z7f(H:G1 C):z0f C "need_wish" (.ref 142):=glF H (by rfl) (.ref _)
theorem z5R(H:G1 C):z0f C "MOST_NEEDS" (.int 6):=glF H (by rfl) (.int _ _)
theorem z9c(H:G1 C):z0f C "BadNeed" (.ref 61):=glF H (by rfl) (.ref _)
theorem z5A(H:G1 C):z0f C "BadWare" (.ref 37):=glF H (by rfl) (.ref _)
theorem z9m(H:G1 C):z0f C "BadMake" (.ref 49):=glF H (by rfl) (.ref _)
theorem z6p(H:G1 C):z0f C "need_needs" (.ref 213):=glF H (by rfl) (.ref _)
theorem y2n(H:G1 C):z0f C "Twice" (.ref 73):=glF H (by rfl) (.ref _)
theorem z6i(H:G1 C):z0f C "MOST_WARES" (.int 12):=glF H (by rfl) (.int _ _)
theorem y2V(H:G1 C):z0f C "Full" (.ref 85):=glF H (by rfl) (.ref _)
theorem z6E(H:G1 C):z0f C "MOST_MAKES" (.int 8):=glF H (by rfl) (.int _ _)
theorem z6Q(H:G1 C):z0f C "NoMake" (.ref 97):=glF H (by rfl) (.ref _)
theorem z1O(H:G1 C):z0f C "sorted" (.bi "sorted"):=glB H (by rfl) (by decide+kernel) (.bi _)
theorem z1m(H:G1 C):z0f C "_law_mixed" (.ref 283):=glF H (by rfl) (.ref _)
theorem y2I(H:G1 C):z0f C "min" (.bi "min"):=glB H (by rfl) (by decide+kernel) (.bi _)
theorem y2D(H:G1 C):z0f C "max" (.bi "max"):=glB H (by rfl) (by decide+kernel) (.bi _)
theorem z2H(H:G1 C):z0f C "_law_stretch" (.ref 295):=glF H (by rfl) (.ref _)
theorem z3p(H:G1 C):z0f C "_law_names" (.ref 288):=glF H (by rfl) (.ref _)
theorem z5V(H:G1 C):z0f C "_law_needs" (.ref 300):=glF H (by rfl) (.ref _)
theorem y3C(H:G1 C):z0f C "Shop" (.ref 272):=glF H (by rfl) (.ref _)
theorem z1X(H:G1 C):z0f C "_law_agenda" (.ref 324):=glF H (by rfl) (.ref _)
theorem z2e(H:G1 C):z0f C "_law_place" (.ref 338):=glF H (by rfl) (.ref _)
theorem z1R(H:G1 C):z0f C "_law_granted" (.ref 345):=glF H (by rfl) (.ref _)
theorem z43(H:G1 C):z0f C "_law_source" (.ref 352):=glF H (by rfl) (.ref _)
theorem y2E(H:G1 C):z0f C "zip" (.type "zip"):=glB H (by rfl) (by decide+kernel) (.type _)
theorem z1I(H:G1 C):z0f C "_law_holds" (.ref 357):=glF H (by rfl) (.ref _)
theorem z3y(H:G1 C):z0f C "_law_meets" (.ref 331):=glF H (by rfl) (.ref _)
theorem z2D(H:G1 C):z0f C "_law_against" (.ref 362):=glF H (by rfl) (.ref _)
theorem z30(H:G1 C):z0f C "_law_copy" (.ref 372):=glF H (by rfl) (.ref _)
theorem z2d(H:G1 C):z0f C "_law_lists" (.ref 379):=glF H (by rfl) (.ref _)
theorem z1L(H:G1 C):z0f C "_law_emptied" (.ref 391):=glF H (by rfl) (.ref _)
theorem z32(H:G1 C):z0f C "_law_told" (.ref 367):=glF H (by rfl) (.ref _)
theorem z7x(H:G1 C):z0f C "settle" (.ref 206):=glF H (by rfl) (.ref _)
theorem z6P(H:G1 C):z0f C "_law_rows" (.ref 305):=glF H (by rfl) (.ref _)
theorem z7n(H:G1 C):z0f C "_law_wish" (.ref 312):=glF H (by rfl) (.ref _)
theorem z6N(H:G1 C):z0f C "_law_shop" (.ref 319):=glF H (by rfl) (.ref _)
theorem z6H(H:G1 C):z0f C "_law_apart" (.ref 384):=glF H (by rfl) (.ref _)
theorem z2S(H:G1 C):z0f C "_law_list_changed" (.ref 398):=glF H (by rfl) (.ref _)
theorem z7d(H:G1 C):z0f C "_law_deed" (.ref 405):=glF H (by rfl) (.ref _)
theorem z8W(H:G1 C):z0i C (.ref 116):=z0d H.kin rfl rfl
theorem z89(H:G1 C):z0i C (.ref 123):=z0d H.kin rfl rfl
theorem z5v(H:G1 C):z0i C (.ref 130):=z0d H.kin rfl rfl
theorem z7y(H:G1 C):z0i C (.ref 137):=z0d H.kin rfl rfl
theorem z6M(H:G1 C):z0i C (.ref 142):=z0d H.kin rfl rfl
theorem z4b(H:G1 C):z0i C (.ref 149):=z0d H.kin rfl rfl
theorem z7g(H:G1 C):z0i C (.ref 156):=z0d H.kin rfl rfl
theorem z6e(H:G1 C):z0i C (.ref 163):=z0d H.kin rfl rfl
theorem z3j(H:G1 C):z0i C (.ref 170):=z0d H.kin rfl rfl
theorem z9b(H:G1 C):z0i C (.ref 175):=z0d H.kin rfl rfl
theorem z5f(H:G1 C):z0i C (.ref 180):=z0d H.kin rfl rfl
theorem y2o(H:G1 C):z0i C (.ref 187):=z0d H.kin rfl rfl
theorem z9x(H:G1 C):z0i C (.ref 194):=z0d H.kin rfl rfl
theorem z84(H:G1 C):z0i C (.ref 199):=z0d H.kin rfl rfl
theorem y0I(H:G1 C):z0i C (.ref 206):=z0d H.kin rfl rfl
theorem z5W(H:G1 C):z0i C (.ref 213):=z0d H.kin rfl rfl
theorem z4f(H:G1 C):z0i C (.ref 227):=z0d H.kin rfl rfl
theorem z4Z(H:G1 C):z0i C (.ref 234):=z0d H.kin rfl rfl
theorem z4E(H:G1 C):z0i C (.ref 241):=z0d H.kin rfl rfl
theorem z3X(H:G1 C):z0i C (.ref 248):=z0d H.kin rfl rfl
theorem z3k(H:G1 C):z0i C (.ref 255):=z0d H.kin rfl rfl
theorem z3o(H:G1 C):z0i C (.ref 262):=z0d H.kin rfl rfl
theorem z3B(H:G1 C):z0i C (.ref 269):=z0d H.kin rfl rfl
theorem z5N(H:G1 C):z0i C (.ref 283):=z0d H.kin rfl rfl
theorem z5X(H:G1 C):z0i C (.ref 288):=z0d H.kin rfl rfl
theorem z4t(H:G1 C):z0i C (.ref 295):=z0d H.kin rfl rfl
theorem z5Z(H:G1 C):z0i C (.ref 300):=z0d H.kin rfl rfl
theorem z6W(H:G1 C):z0i C (.ref 305):=z0d H.kin rfl rfl
theorem z64(H:G1 C):z0i C (.ref 312):=z0d H.kin rfl rfl
theorem z69(H:G1 C):z0i C (.ref 319):=z0d H.kin rfl rfl
theorem z46(H:G1 C):z0i C (.ref 324):=z0d H.kin rfl rfl
theorem z6I(H:G1 C):z0i C (.ref 331):=z0d H.kin rfl rfl
theorem z5S(H:G1 C):z0i C (.ref 338):=z0d H.kin rfl rfl
theorem z4U(H:G1 C):z0i C (.ref 345):=z0d H.kin rfl rfl
theorem z40(H:G1 C):z0i C (.ref 352):=z0d H.kin rfl rfl
theorem z6k(H:G1 C):z0i C (.ref 357):=z0d H.kin rfl rfl
theorem z4M(H:G1 C):z0i C (.ref 362):=z0d H.kin rfl rfl
theorem z7p(H:G1 C):z0i C (.ref 367):=z0d H.kin rfl rfl
theorem z37(H:G1 C):z0i C (.ref 372):=z0d H.kin rfl rfl
theorem z6d(H:G1 C):z0i C (.ref 379):=z0d H.kin rfl rfl
theorem z6t(H:G1 C):z0i C (.ref 384):=z0d H.kin rfl rfl
theorem z4G(H:G1 C):z0i C (.ref 391):=z0d H.kin rfl rfl
theorem z2T(H:G1 C):z0i C (.ref 398):=z0d H.kin rfl rfl
theorem z6Z(H:G1 C):z0i C (.ref 405):=z0d H.kin rfl rfl
theorem y4q(H:G1 C):z0i C (.ref 410):=z0d H.kin rfl rfl
theorem y0A(H:G1 C):ClassAt C (K1 C) 272 227:=⟨H.kin,rfl,rfl,rfl,rfl⟩
theorem z77(H:G1 C):MethAt C (K1 C) 272 "has" 234:=⟨H.kin,rfl,rfl,rfl,rfl,z4Z H⟩
theorem z79(H:G1 C):MethAt C (K1 C) 272 "put" 241:=⟨H.kin,rfl,rfl,rfl,rfl,z4E H⟩
theorem z63(H:G1 C):MethAt C (K1 C) 272 "take" 248:=⟨H.kin,rfl,rfl,rfl,rfl,z3X H⟩
theorem z6q(H:G1 C):MethAt C (K1 C) 272 "makes" 255:=⟨H.kin,rfl,rfl,rfl,rfl,z3k H⟩
theorem z58(H:G1 C):MethAt C (K1 C) 272 "needs" 262:=⟨H.kin,rfl,rfl,rfl,rfl,z3o H⟩
theorem z6b(H:G1 C):MethAt C (K1 C) 272 "wares" 269:=⟨H.kin,rfl,rfl,rfl,rfl,z3B H⟩
theorem z7l(H:G1 C):AttrAt C (K1 C) 272 "kept":=⟨H.kin,rfl,⟨_,rfl,rfl⟩,rfl⟩
theorem z7J(H:G1 C):StoreAt C (K1 C) 272 "kept":=⟨H.kin,rfl,rfl,rfl,rfl⟩
end
end
section
set_option tactic.hygienic true in
theorem z3E{a b:Int}(h:b.natAbs<2^63):IntMulOk a b:=by
 refine IntMulOk.of_right ?_
 unfold Builtin.Int.intBits
 have:=z70 (n:=b) (by lia)
 split
 ·lia
 ·rename_i h0
  have:b.natAbs.log2<63:=(Nat.log2_lt (by simpa using h0)).mpr h
  lia
section
variable {C:Cx} [HM C] [NF C] {d:Nat} {σ:Sto} {Q:V->Sto->Prop}
theorem z9d{x:Str}{X:V}(h:X∈z1l x):∃c∈x.cps.toList,X= .str ⟨#[c]⟩:=by
 unfold z1l at h
 apply z0l h;intro c hc
 exact⟨c,hc,rfl⟩
theorem z9t(x:Str):(z1l x).length=x.length:=by simp[z1l,Str.length]
noncomputable def wareV:V->Bool
 | .str x=>decide (1<=x.length)&&(decide (x.length<=8)&&x.cps.toList.all z2L)
 |_=>false
noncomputable def letV:V->V
 | .str x=> .bool (z2L (x.cps.getD 0 0))
 |v=>v
theorem z9u(x:Str):(z1l x).map letV=(x.cps.toList.map z2L).map V.bool:=by
 simp[z1l,letV]
theorem y0F{t:V}(h:tkB t .str=false):wareV t=false:=by cases t<;>first|rfl|exact tf h|exact ff h
theorem y0Q{x:Str}(h:Ware x):wareV (.str x)=true:=by
 show(decide (1<=x.length)&&(decide (x.length<=8)&&x.cps.toList.all z2L))=true
 rw[decide_eq_true h.lo,decide_eq_true h.hi,List.all_eq_true.mpr h.lt];rfl
theorem Ware.asc{x:Str}(h:Ware x):Asc x:=⟨Nat.le_trans h.hi (by decide),λc hc=>by have:=h.lt c hc;simp[z2L] at this;lia⟩
noncomputable def fnL:List Nat:=[116,123,130,137,142,149,156,163,170,175,180,187,194,199,206,213,227,234,241,248,255,262,269,283,288,295,300,305,312,319,324,331,338,345,352,357,362,367,372,379,384,391,398,405,410]
noncomputable def mtL:List (Nat×Str×Nat):=[(272,"has",234),(272,"put",241),(272,"take",248),(272,"makes",255),(272,"needs",262),(272,"wares",269)]
theorem z0o(H:G1 C):∀a∈fnL,z0i C (.ref a):=(List.forall_mem_cons.mpr ⟨z8W H,(List.forall_mem_cons.mpr ⟨z89 H,(List.forall_mem_cons.mpr ⟨z5v H,(List.forall_mem_cons.mpr ⟨z7y H,(List.forall_mem_cons.mpr ⟨z6M H,(List.forall_mem_cons.mpr ⟨z4b H,(List.forall_mem_cons.mpr ⟨z7g H,(List.forall_mem_cons.mpr ⟨z6e H,(List.forall_mem_cons.mpr ⟨z3j H,(List.forall_mem_cons.mpr ⟨z9b H,(List.forall_mem_cons.mpr ⟨z5f H,(List.forall_mem_cons.mpr ⟨y2o H,(List.forall_mem_cons.mpr ⟨z9x H,(List.forall_mem_cons.mpr ⟨z84 H,(List.forall_mem_cons.mpr ⟨y0I H,(List.forall_mem_cons.mpr ⟨z5W H,(List.forall_mem_cons.mpr ⟨z4f H,(List.forall_mem_cons.mpr ⟨z4Z H,(List.forall_mem_cons.mpr ⟨z4E H,(List.forall_mem_cons.mpr ⟨z3X H,(List.forall_mem_cons.mpr ⟨z3k H,(List.forall_mem_cons.mpr ⟨z3o H,(List.forall_mem_cons.mpr ⟨z3B H,(List.forall_mem_cons.mpr ⟨z5N H,(List.forall_mem_cons.mpr ⟨z5X H,(List.forall_mem_cons.mpr ⟨z4t H,(List.forall_mem_cons.mpr ⟨z5Z H,(List.forall_mem_cons.mpr ⟨z6W H,(List.forall_mem_cons.mpr ⟨z64 H,(List.forall_mem_cons.mpr ⟨z69 H,(List.forall_mem_cons.mpr ⟨z46 H,(List.forall_mem_cons.mpr ⟨z6I H,(List.forall_mem_cons.mpr ⟨z5S H,(List.forall_mem_cons.mpr ⟨z4U H,(List.forall_mem_cons.mpr ⟨z40 H,(List.forall_mem_cons.mpr ⟨z6k H,(List.forall_mem_cons.mpr ⟨z4M H,(List.forall_mem_cons.mpr ⟨z7p H,(List.forall_mem_cons.mpr ⟨z37 H,(List.forall_mem_cons.mpr ⟨z6d H,(List.forall_mem_cons.mpr ⟨z6t H,(List.forall_mem_cons.mpr ⟨z4G H,(List.forall_mem_cons.mpr ⟨z2T H,(List.forall_mem_cons.mpr ⟨z6Z H,(List.forall_mem_cons.mpr ⟨y4q H,(λ_ h=>by cases h)⟩)⟩)⟩)⟩)⟩)⟩)⟩)⟩)⟩)⟩)⟩)⟩)⟩)⟩)⟩)⟩)⟩)⟩)⟩)⟩)⟩)⟩)⟩)⟩)⟩)⟩)⟩)⟩)⟩)⟩)⟩)⟩)⟩)⟩)⟩)⟩)⟩)⟩)⟩)⟩)⟩)⟩)⟩)⟩)⟩)
noncomputable def atL:List (Nat×Str):=[(272,"kept")]
theorem z0n(H:G1 C):(∀q∈mtL,∃K,MethAt C K q.1 q.2.1 q.2.2)/\∀q∈atL,∃K,AttrAt C K q.1 q.2:=⟨(List.forall_mem_cons.mpr ⟨⟨_,z77 H⟩,(List.forall_mem_cons.mpr ⟨⟨_,z79 H⟩,(List.forall_mem_cons.mpr ⟨⟨_,z63 H⟩,(List.forall_mem_cons.mpr ⟨⟨_,z6q H⟩,(List.forall_mem_cons.mpr ⟨⟨_,z58 H⟩,(List.forall_mem_cons.mpr ⟨⟨_,z6b H⟩,(λ_ h=>by cases h)⟩)⟩)⟩)⟩)⟩)⟩),(List.forall_mem_cons.mpr ⟨⟨_,z7l H⟩,(λ_ h=>by cases h)⟩)⟩
noncomputable def z3U(r1:Expr):TC:=⟨[.loc 0,.isi .str,.tvalc,.not,.mop .Or [.psh (.int 1),.loc 0,.len,.tcm2 .LtE [.psh (.int 8),.tcmpc .LtE],.not,.mop .Or [.psh (.bool false)]],.ife [.psh (.bool false),.ret] [],.raw r1,.call (.bi "all") 1,.ret],[.inr r1],[([1],some [1])]⟩
--z3U 1
noncomputable def t_is_make:TC:=⟨[.loc 0,.isi .int,.vop .And [.loc 0,.isi .bool,.una .Not,.vop .And [.psh (.int 1),.loc 0,.cm2 .LtE [.psh (.int 999),.cmpc .LtE]]],.ret],[],[]⟩
--t_is_make 0
noncomputable def t_is_need:TC:=⟨[.loc 0,.isi .tup,.tvalc,.not,.mop .Or [.loc 0,.len,.psh (.int 3),.tcmpc .NotEq,.mop .Or [.psh (.bool false)]],.ife [.psh (.bool false),.ret] [],.loc 0,.subT 0,.call (.ref 116) 1,.vop .And [.loc 0,.subT 1,.call (.ref 123) 1,.vop .And [.loc 0,.subT 2,.call (.ref 123) 1,.vop .And [.loc 0,.subT 1,.loc 0,.subT 2,.cmpc .LtE]]],.ret],[],[]⟩
--t_is_need 0
noncomputable def t__law_mixed:TC:=⟨[.psh (.int 0),.asg 2,.cut [.loc 0,.len,.psh (.int 0),.tcmpc .Gt,.ife [.loc 0,.loc 1,.loc 0,.len,.binc .Mod,.sub,.asg 2] []],.loc 2,.psh (.int 7919),.loc 1,.binc .Mult,.binc .Add,.psh (.int 48271),.binc .Mult,.psh (.int 2147483647),.binc .Mod,.asg 3,.loc 3,.psh (.int 16807),.loc 1,.loc 1,.binc .Mult,.binc .Add,.binc .Mult,.psh (.int 2147483629),.binc .Mod,.ret],[],[]⟩
--t__law_mixed 0
theorem y0M{v t:V}{n:Nat}{k:TK}{b:Bool}(h:Dn σ n v t)(hb:tkB t k=b)(q:Q (.bool b) σ):cQ ((y1F v k).map .bool) σ Q (KW C d (.bi "isinstance") [v,.type k.n] σ Q):=by
 subst hb
 cases h with
 |dict ha=>exact⟨y3f (n:=0) (.dict ha) q⟩
 |ref ha a b c=>exact⟨y3f (.ref ha a b c) q⟩
 |none=>exact q
 |bool b=>exact q
 |int i=>exact q
 |str x hx=>exact q
 |tup a b c=>exact q
 |lst a b c=>exact q
inductive StrSh(σ:Sto):V->V->Prop
 |no {n:Nat} {v t:V}:Dn σ n v t->tkB t .str=false->StrSh σ v t
 |str {x:Str}:Asc x->StrSh σ (.str x) (.str x)
theorem Dn.ssh{v t:V}{n:Nat}(h:Dn σ n v t):StrSh σ v t:=by
 cases hk:tkB t .str with
 |false=>exact .no h hk
 |true=>obtain⟨x,rfl,rfl,hx⟩:=h.strI hk;exact .str hx
inductive IntSh(σ:Sto):V->V->Prop
 |no {n:Nat} {v t:V}:Dn σ n v t->tkB t .int=false->IntSh σ v t
 |bool {b:Bool}:IntSh σ (.bool b) (.bool b)
 |int {i:Int}:IntSh σ (.int i) (.int i)
theorem Dn.ish{v t:V}{n:Nat}(h:Dn σ n v t):IntSh σ v t:=by
 cases hk:tkB t .int with
 |false=>exact .no h hk
 |true=>cases h<;>first|exact .bool|exact .int|cases hk
theorem z7Y(H:G1 C){v t:V}{n:Nat}(h:Dn σ n v t)(q:Q (.bool (wareV t)) σ):CW C (d+1) (.ref 116) [v] σ Q:=by
 refine z0D (G1.kin (by assumption)) ["thing"] [("isinstance",.bi "isinstance"),("str",.type "str"),("len",.bi "len"),("MOST_LETTERS",.int 8),("all",.bi "all")] (by kernel_rfl) (vs1 λ_=>by kernel_rfl) rfl (z0a (z0h (by assumption)) (z0a (z2G (by assumption)) (z0a (z0Q (by assumption)) (z0a (z4N (by assumption)) (z0a (y1o (by assumption)) GL_nil))))) ?_
 intro env hsc
 cases h.ssh with
 |no h hk=>
  rw[y0F hk] at q
  refine z0e (z0o H) (z0n H) (z3U _) (by exact rfl) (by kernel_rfl) ?_
  intro F m0
  exact y0M h hk q
 | @str x hx=>
  have hxs:x.length<=sizeLine:=z0x (Nat.le_trans hx.1 (by decide))
  refine z0e (z0o H) (z0n H) (z3U _) (by exact rfl) (by kernel_rfl) ?_
  intro F m0
  refine Leaf.mk (y0q hxs ?_)
  have q:Q (.bool (decide (1<=x.length)&&(decide (x.length<=8)&&x.cps.toList.all z2L))) σ:=q
  refine z02 (λh1=> ?_) λh1=> ?_
  rotate_left
  ·exact qB q (by rw[decide_eq_false (λh=>of_decide_eq_false h1 (Int.ofNat_le.mpr h))];rfl)
  refine z02 (λh8=> ?_) λh8=> ?_
  ·exact qB q (by rw[decide_eq_false (λh=>of_decide_eq_false ((Bool.not_eq_true' _).mp h8) (Int.ofNat_le.mpr h)),Bool.false_and,Bool.and_false])
  have e1:decide (1<=x.length)=true:=decide_eq_true (Int.ofNat_le.mp (of_decide_eq_true h1))
  have e2:decide (x.length<=8)=true:=decide_eq_true (Int.ofNat_le.mp (of_decide_eq_true ((Bool.not_eq_false' _).mp h8)))
  have q:=qB q (show _=x.cps.toList.all z2L by rw[e1,e2];rfl)
  clear e1 e2 h1 h8
  refine Leaf.mk ?_
  show AT C env ["thing"] _ true _ (eval _ env) [some (.str x)] _ _
  refine z0P "sign" [] [("LETTERS",.str "abcdefghijklmnopqrstuvwxyz")] (by rw[hsc];kernel_rfl) (z0a (z9q H) GL_nil) .nil (y3F (z0k ⟨x,rfl,by rw[z9t];exact hxs,λenv' he=>z1s (f:=letV) (z0m he (by decide+kernel)) trivial _ _ _ (λX hX K hK=> ?_) ?_⟩))
  ·obtain⟨c,hc,rfl⟩:=z9d hX
   repeat' with_reducible first|refine z0k ?_|refine z1k ?_|refine z6c ?_|refine y4A ?_
   rw[let_small c (hx.2 c hc)];exact hK
  ·rw[List.nil_append,z9u]
   refine Leaf.mk (z9H (.lst _) ?_)
   exact qB q (by rw[List.all_map];rfl)
theorem z2a(H:G1 C){x:Str}(h:Ware x)(q:Q (.bool true) σ):CW C (d+1) (.ref 116) [.str x] σ Q:=z7Y H (n:=0) (.str x h.asc) (by rw[y0Q h];exact q)
noncomputable def makeV:V->Bool
 | .int i=>decide (1<=i)&&decide (i<=999)
 |_=>false
theorem y1g{t:V}(h:tkB t .int=false):makeV t=false:=by cases t<;>first|rfl|exact tf h|exact ff h
theorem z71(H:G1 C){v t:V}{n:Nat}(h:Dn σ n v t)(q:Q (.bool (makeV t)) σ):CW C (d+1) (.ref 123) [v] σ Q:=by
 refine z0D (G1.kin (by assumption)) ["thing"] [("isinstance",.bi "isinstance"),("int",.type "int"),("bool",.type "bool"),("MOST_MAKE",.int 999)] (by kernel_rfl) (vs1 λ_=>by kernel_rfl) rfl (z0a (z0h (by assumption)) (z0a (z8N (by assumption)) (z0a (z2t (by assumption)) (z0a (z6V (by assumption)) GL_nil)))) ?_
 intro env hsc
 clear hsc
 refine z0e (z0o H) (z0n H) t_is_make rfl (by kernel_rfl) ?_
 intro F m0
 cases h.ish with
 |no h hk=>exact y0M h hk (qB q (y1g hk))
 |bool=>exact⟨z4k z1Y q⟩
 | @int i=>
  refine Leaf.mk (z4k z1Y ?_)
  have q:Q (.bool (decide (1<=i)&&decide (i<=999))) σ:=q
  exact z02 (λh=>qB q (by rw[h];rfl)) λh=>qB q (by rw[h];rfl)
theorem z11(H:G1 C){i:Int}(h1:1<=i)(h2:i<=999)(q:Q (.bool true) σ):CW C (d+1) (.ref 123) [.int i] σ Q:=z71 H (n:=0) (.int i) (qB q (by show true=(decide (1<=i)&&decide (i<=999));rw[decide_eq_true h1,decide_eq_true h2];rfl))
noncomputable def z0g(n:Str×Int×Int):V:= .tup [.str n.1,.int n.2.1,.int n.2.2]
structure NeedOk(n:Str×Int×Int):Prop where
 w:Ware n.1
 lo:1<=n.2.1
 le:n.2.1<=n.2.2
 hi:n.2.2<=999
theorem z5m(H:G1 C){n:Str×Int×Int}(h:NeedOk n)(q:Q (.bool true) σ):CW C (d+2) (.ref 130) [z0g n] σ Q:=by
 refine z0D (G1.kin (by assumption)) ["thing"] [("isinstance",.bi "isinstance"),("tuple",.type "tuple"),("len",.bi "len"),("is_ware",.ref 116),("is_make",.ref 123)] (by kernel_rfl) (vs1 λ_=>by kernel_rfl) rfl (z0a (z0h (by assumption)) (z0a (z0M (by assumption)) (z0a (z0Q (by assumption)) (z0a (z19 (by assumption)) (z0a (z2N (by assumption)) GL_nil))))) ?_
 intro env hsc
 clear hsc
 refine z0e (z0o H) (z0n H) t_is_need rfl (by kernel_rfl) ?_
 intro F m0
 refine Leaf.mk (fnc (z2a H h.w ?_))
 refine Leaf.mk (fnc (z11 H h.lo (Int.le_trans h.le h.hi) ?_))
 refine Leaf.mk (fnc (z11 H (Int.le_trans h.lo h.le) h.hi ?_))
 exact qB q (decide_eq_true h.le).symm
theorem z0C(H:G1 C){xs:List Int}{k:Int}(hx:xs.length<=100)(h0:0<=k)(hk:k<1000)(q:∀n:Int,0<=n->n<2147483629->Q (.int n) σ):CW C (d+1) (.ref 283) [.lst (xs.map V.int),.int k] σ Q:=by
 obtain⟨k,rfl⟩:=Int.eq_ofNat_of_zero_le h0
 have hk:k<1000:=Int.ofNat_lt.mp hk
 refine z0D (G1.kin (by assumption)) ["_law_script","_law_k","_law_cell","_law_number"] [("len",.bi "len")] (by kernel_rfl) (vs2 λ_ _=>by kernel_rfl) rfl (z0a (z0Q (by assumption)) GL_nil) ?_
 intro env hsc
 clear hsc
 have hz:(xs.map V.int).length=xs.length:=List.length_map _
 have hl:(xs.map V.int).length<=sizeLine:=z0A hx (by decide)
 have hk2:k*k<1000*1000:=Nat.mul_lt_mul'' hk hk
 have o1:IntMulOk (7919:Int) (k:Int):=IntMulOk.of_left (by with_unfolding_all decide)
 have o2:∀a:Int,IntMulOk a 48271:=λa=>z3E (by decide)
 have o3:IntMulOk (k:Int) (k:Int):=z3E (by lia)
 have o4:∀a:Int,IntMulOk a (16807+(k:Int)*(k:Int)):=λa=>z3E (show(16807+((k*k:Nat):Int)).natAbs<2^63 by lia)
 have hq:∀a:Int,Q (.int (a.fmod 2147483629)) σ:=λa=>q _ (Int.fmod_nonneg_of_pos _ (by decide)) (Int.fmod_lt_of_pos _ (by decide))
 clear q hk2
 refine z0e (z0o H) (z0n H) t__law_mixed rfl (by kernel_rfl) ?_
 intro F m0
 refine z39 (α:=Int) (λ_=>True) (λc=>[some (.lst (xs.map V.int)),some (.int (k:Int)),some (.int c),none]) σ (λK hK _=> ?_) λc _=> ?_
 ·clear hq o1 o2 o3 o4
  refine Leaf.mk (z0E (.lst _) hz hl ?_)
  refine z02 (λh0=> ?_) λh0=> ?_
  ·have h0:=Int.ofNat_lt.mp (of_decide_eq_true h0)
   refine Leaf.mk (z0E (.lst _) hz hl ?_)
   refine z1U h0 λj hj=> ?_
   refine Leaf.mk (z0U (.lst _) (Nat.lt_of_lt_of_le hj (Nat.le_trans hx (by decide))) (z1b (List.getElem?_eq_getElem hj)) ?_)
   exact hK _ trivial
  ·exact hK 0 trivial
 refine Leaf.mk (z3c ?_ o1)
 refine Leaf.mk (z3c ?_ (o2 _))
 refine Leaf.mk (z3c ?_ o3)
 refine Leaf.mk (z3c ?_ (o4 _))
 exact hq _
end
end
section
section
variable {C:Cx} [HM C] [NF C] {d:Nat} {σ:Sto} {Q:V->Sto->Prop}
theorem z9Y{a b x:Int}(q:∀i,(i=a∨i=b)->Q (.int i) σ):SubR C d (.lst [.int a,.int b]) (.int (x.fmod 2)) σ Q:=
 y3Y (Int.fmod_nonneg_of_pos _ (by decide)) (Int.fmod_lt_of_pos _ (by decide)) (q a (.inl rfl)) (q b (.inr rfl))
noncomputable def z6D(a:Int):Nat:=(("abcdefghijklmnopqrstuvwxyz":Str).cps[(a.fmod 26).toNat]?).getD 0
theorem z3M(a:Int):("abcdefghijklmnopqrstuvwxyz":Str).cps[(a.fmod 26).toNat]? =some (z6D a)/\z2L (z6D a)=true:=by
 obtain⟨c,hc,hb⟩:=z74 (Int.fmod_nonneg_of_pos a (by decide:(0:Int)<26)) (Int.fmod_lt_of_pos a (by decide))
 unfold z6D
 rw[hc];exact⟨rfl,hb⟩
theorem let_inj:∀i<26,∀j<26,("abcdefghijklmnopqrstuvwxyz":Str).cps[i]? =("abcdefghijklmnopqrstuvwxyz":Str).cps[j]?->i=j:=by decide+kernel
theorem y01{a b:Int}(h:z6D a=z6D b):a.fmod 26=b.fmod 26:=by
 have a0:=Int.fmod_nonneg_of_pos a (show(0:Int)<26 by decide)
 have a1:=Int.fmod_lt_of_pos a (show(0:Int)<26 by decide)
 have b0:=Int.fmod_nonneg_of_pos b (show(0:Int)<26 by decide)
 have b1:=Int.fmod_lt_of_pos b (show(0:Int)<26 by decide)
 have:=let_inj (a.fmod 26).toNat (by lia) (b.fmod 26).toNat (by lia) (by rw[(z3M a).1,(z3M b).1,h])
 lia
theorem z5F{a:Int}{K:V->Sto->Prop}(q:K (.str ⟨#[z6D a]⟩) σ):SubR C d (.str "abcdefghijklmnopqrstuvwxyz") (.int (a.fmod 26)) σ K:=by
 have h0:0<=a.fmod 26:=Int.fmod_nonneg_of_pos _ (by decide)
 have h9:a.fmod 26<26:=Int.fmod_lt_of_pos _ (by decide)
 exact y3V h0 (by lia) (z3M a).1 q
theorem z9W{N st:Int}{i j:Nat}(hs:st=3∨st=23)(hi:i<20)(hj:j<20)(h:(N+st*(i:Int)).fmod 26=(N+st*(j:Int)).fmod 26):i=j:=by
 rw[Int.fmod_eq_emod_of_nonneg _ (by decide),Int.fmod_eq_emod_of_nonneg _ (by decide)] at h
 rcases hs with rfl|rfl<;>lia
theorem y1O{x y:Str}{a b:Nat}(h:x++⟨#[a]⟩++y=x++⟨#[b]⟩++y):a=b:=by
 have h':(x.cps++ #[a]++y.cps).toList=(x.cps++ #[b]++y.cps).toList:=congrArg (λs:Str=>s.cps.toList) h
 simp only[Array.toList_append] at h'
 have:=List.append_cancel_left (List.append_cancel_right h')
 simpa using this
theorem z1B{α:Type}{f:Nat->α}{n:Nat}(h:∀i j,i<n->j<n->f i=f j->i=j):((List.range n).map f).Nodup:=by
 refine List.nodup_iff_pairwise_ne.mpr (List.pairwise_map.mpr ?_)
 refine List.Pairwise.imp_of_mem ?_ List.nodup_range
 intro a b ha hb hne e
 exact hne (h a b (List.mem_range.mp ha) (List.mem_range.mp hb) e)
theorem z8Y{xs:List V}{k:Int}(hk:k=1∨k= -1)(h:xs.Nodup):(slL xs none none (some k)).Nodup:=by
 unfold slL
 refine List.nodup_iff_pairwise_ne.mpr (List.pairwise_filterMap.mpr ?_)
 have key:∀l:List Nat,l.Nodup->l.Pairwise λi j=>∀b,xs[i]? =some b->∀b',xs[j]? =some b'->b≠b':=λl hl=>by
  refine hl.imp λ{i j} hne b hb b' hb' e=>hne ?_
  subst e
  obtain⟨h1,e1⟩:=List.getElem?_eq_some_iff.mp hb
  obtain⟨h2,e2⟩:=List.getElem?_eq_some_iff.mp hb'
  exact(List.getElem_inj (h₀:=h1) (h₁:=h2) h).mp (e1.trans e2.symm)
 refine key _ ?_
 rcases hk with rfl|rfl
 ·show(sliceRange ((0:Nat):Int) (xs.length:Int) 1).Nodup
  rw[sr1 (Nat.zero_le _)]
  exact z1B λi j _ _ e=>by rw[Nat.zero_add,Nat.zero_add] at e;exact e
 ·show(sliceRange ((xs.length:Int)-1) (-1) (-1)).Nodup
  rw[srm]
  exact z1B λi j hi hj e=>by lia
noncomputable def swB(sc cs:Scope)(t:Str)(l1 l2:Nat):Bool:=(if sc.kind.isAnnotationScope then ScopeKind.function else sc.kind)== .function&&sc.names.lookup t==some .local&&l1==l2&& !(cs.names.any λ(n,k)=>n==t&&(k== .local||k== .cell))
theorem z1C{env:Env}{elt:Expr}{gens:List Comprehension}{cs:Scope}{pos p':Pos}{t:Str}{l:Nat}{b:Bool}(h:swB env.scope cs t p'.line pos.line=b):swapsWith (.ListComp elt gens cs pos) (some (.Name t p')) l env=pure b:=by
 rw[<-h];rfl
theorem y3P{ws:List Str}{i:Int}(hi:i=1∨i= -1)(hw:∀w∈ws,Ware w)(hn:ws.Nodup):∃ws':List Str,slL (ws.map V.str) none none (some i)=ws'.map V.str/\ws'.length=ws.length/\(∀w∈ws',Ware w)/\ws'.Nodup:=by
 obtain⟨ws',e,h⟩:=z5Y (P:=Ware) (ys:=slL (ws.map V.str) none none (some i)) λy hy=>by
  apply z0l (z8K y hy);intro w hm
  exact⟨w,rfl,hw w hm⟩
 have hnv:(ws.map V.str).Nodup:=List.nodup_iff_pairwise_ne.mpr (List.pairwise_map.mpr ((List.nodup_iff_pairwise_ne.mp hn).imp λhne e=>hne (by injection e)))
 have hs:=z8Y hi hnv
 rw[e] at hs
 refine⟨ws',e,?_,h,?_⟩
 ·have:=z9L (xs:=ws.map V.str) hi
  rw[e] at this
  simpa using this
 ·exact List.nodup_iff_pairwise_ne.mpr ((List.pairwise_map.mp (List.nodup_iff_pairwise_ne.mp hs)).imp λhne e=>hne (by rw[e]))
theorem let_len:("abcdefghijklmnopqrstuvwxyz":Str).length=26:=by decide+kernel
noncomputable def y32(B:Str):V->V
 | .int i=> .str (Txt.slice B none (some (1+i)))
 |v=>v
noncomputable def z3F(r1:Expr)(r2:Stmt):TC:=⟨[.psh (.str "abcdefghijklmnopqrstuvwxyz"),.asg 2,.loc 0,.psh (.int 1),.call (.ref 283) 2,.asg 3,.psh (.int 3),.psh (.int 23),.lst 2,.loc 3,.psh (.int 2),.binc .Mod,.sub,.asg 4,.psh (.str ""),.mty "str",.raw r1,.meth (.bi "str.join") 1,.asg 5,.cut [.loc 3,.psh (.int 56),.binc .FloorDiv,.loc 5,.len,.psh (.int 1),.binc .Add,.binc .Mod,.asg 6],.asgL 7,.loc 1,.forR 8 [.loc 2,.loc 3,.psh (.int 504),.binc .FloorDiv,.loc 4,.loc 8,.binc .Mult,.binc .Add,.psh (.int 26),.binc .Mod,.sub,.asg 9,.loc 7,.mty "list",.loc 5,.psh .none,.loc 6,.psh .none,.slc,.sub,.loc 9,.binc .Add,.loc 5,.loc 6,.psh .none,.psh .none,.slc,.sub,.binc .Add,.meth (.bi "list.append") 1,.pop],.cut [.loc 3,.psh (.int 16),.binc .FloorDiv,.psh (.int 3),.binc .Mod,.psh (.int 1),.tcmpc .Eq,.mop .And [.loc 1,.psh (.int 9),.tcmpc .Lt,.mop .And [.psh (.bool true)]],.ife [.rawS r2] []],.loc 7,.psh .none,.psh .none,.psh (.int 1),.psh (.int 1),.una .USub,.lst 2,.loc 3,.psh (.int 48),.binc .FloorDiv,.psh (.int 2),.binc .Mod,.sub,.slc,.sub,.ret],[.inr r1,.inl r2],[([3],some [1]),([7,0,0],none)]⟩
--z3F 2
theorem y3G{P:Int->Prop}{a:Int}{n:Nat}(h:0<n)(q:∀k:Nat,k<n->P (k:Int)):P (a.fmod (n:Int)):=by
 have hp:(0:Int)<(n:Int):=Int.ofNat_lt.mpr h
 obtain⟨k,e⟩:=Int.eq_ofNat_of_zero_le (Int.fmod_nonneg_of_pos a hp)
 rw[e]
 exact q k (Int.ofNat_lt.mp (e▸Int.fmod_lt_of_pos a hp))
inductive NmI(a0 a1 a2 a3 a4 a5 a6:V)(a:Addr)(G:Nat->Str)(σ:Sto)(i:Nat):Loc->Sto->Prop
 |mk {o:Obj} {k sg:Option V}:NmI a0 a1 a2 a3 a4 a5 a6 a G σ i [some a0,some a1,some a2,some a3,some a4,some a5,some a6,some (.ref a),k,sg] ((a,o,.list (((List.range i).map G).map V.str))::σ)
structure NmOk(n:Nat)(ws:List Str):Prop where
 l:ws.length=n
 w:∀w∈ws,Ware w
 d:ws.Nodup
set_option tactic.hygienic true in
theorem z3L(H:G1 C){xs:List Int}{n:Nat}(hx:xs.length<=100)(h1:n<=20)(q:∀ws:List Str,ws.length=n->(∀w∈ws,Ware w)->ws.Nodup->Q (.lst (ws.map V.str)) σ):
  CW C (d+2) (.ref 288) [.lst (xs.map V.int),.int (n:Int)] σ Q:=by
 have h1k:n<=1000:=Nat.le_trans h1 (by decide)
 refine z08 ?_
 refine z0D (G1.kin (by assumption)) ["_law_script","_law_many","_law_letters","_law_number","_law_step","_law_frame","_law_at","_law_names_here","_law_k","_law_sign"] [("_law_mixed",.ref 283),("range",.type "range"),("len",.bi "len")] (by kernel_rfl) (vs2 λ_ _=>by kernel_rfl) rfl (z0a (z1m (by assumption)) (z0a (z2i (by assumption)) (z0a (z0Q (by assumption)) GL_nil))) ?_
 intro env hsc
 refine z0e (z0o H) (z0n H) (z3F _ _) (by exact rfl) (by kernel_rfl) ?_
 intro F m0
 refine Leaf.mk (fnc (z0C H hx (by decide) (by decide) λN b0 b1=> ?_))
 clear b0 b1
 refine Leaf.mk (z9Y λstep hstep=> ?_)
 repeat' first|(with_reducible refine⟨y1B,?_⟩)|refine Leaf.mk ?_|fail
 show AT C env ["_law_script","_law_many","_law_letters","_law_number","_law_step","_law_frame","_law_at","_law_names_here","_law_k","_law_sign"] _ true _ (eval _ env) [some (.lst (xs.map V.int)),some (.int (n:Int)),some (.str "abcdefghijklmnopqrstuvwxyz"),some (.int N),some (.int step),none,none,none,none,none] _ _
 refine z0P "_law_j" ["_law_letters","_law_number"] [] (by rw[hsc];kernel_rfl) GL_nil (.cons LkC.lk (.cons LkC.lk .nil)) (z2p ?_)
 repeat' with_reducible first|refine z0k ?_|refine z1k ?_|refine z0O ?_|refine z0I ?_|refine z1D ?_|refine z0s ?_|refine z0r ?_|refine z5g ?_ (by with_unfolding_all decide)|refine z5l ?_ (by with_unfolding_all decide) (by with_unfolding_all decide)|refine z2z ?_|refine⟨z1i,?_⟩|fail
 obtain⟨c,hc⟩:=Int.eq_ofNat_of_zero_le (Int.fmod_nonneg_of_pos (N.fdiv 2) (show(0:Int)<8 by decide))
 have hc8:c<8:=Int.ofNat_lt.mp (hc▸Int.fmod_lt_of_pos (N.fdiv 2) (show(0:Int)<8 by decide))
 have hck:c<=1000:=Nat.le_trans (Nat.le_of_lt hc8) (by decide)
 rw[hc]
 clear hc
 refine⟨_,_,_,c,rfl,y0f hck,y1n c,z0x (by rw[z1u];exact Nat.le_trans hck (by decide)),λenv' he=>
  z7V (R:=λ_ Y=>∃c,Y= .str ⟨#[c]⟩/\z2L c=true) (z0m he (by decide+kernel)) trivial _ _ _ (λX hX K hK=> ?_) (λys hl hys=> ?_)⟩
 ·obtain⟨i,_,rfl⟩:=z17 hX
  repeat' with_reducible first|refine z0k ?_|refine z0O ?_|refine z0W ?_|refine z1D ?_|refine z5G ?_|refine z5g ?_ (by with_unfolding_all decide)|refine z5l ?_ (by with_unfolding_all decide) (by with_unfolding_all decide)|refine z3c ?_ (IntMulOk.of_left (by with_unfolding_all decide))|refine z5F ?_|fail
  exact hK _ ⟨_,rfl,(z3M _).2⟩
 obtain⟨ps,rfl,hps⟩:=z5Y (P:=λp=>Lt p/\p.length=1) (ys:=ys) λy hy=>by
  obtain⟨_,_,c,rfl,hc⟩:=hys y hy
  exact⟨_,rfl,z9y hc,rfl⟩
 have hpl:ps.length<=7:=by rw[List.length_map,z1u] at hl;rw[hl];exact Nat.le_of_lt_succ hc8
 have hj:=y1q hps
 refine Leaf.mk (y3h (.lst _) (z51 (λp hp=>(hps p hp).2) (Nat.le_trans hpl (by decide))) ?_)
 generalize Txt.join "" ps=fr at hj⊢
 obtain⟨hj1,hj2⟩:=hj
 have hfl:fr.length<=7:=by rw[hj2];exact hpl
 have hfs:fr.length<=sizeLine:=z0x (Nat.le_trans hfl (by decide))
 clear hpl hps hl hys hj2
 refine z39 (α:=Nat) (λat_=>at_<fr.length+1) (λat_=>[some (.lst (xs.map V.int)),some (.int (n:Int)),some (.str "abcdefghijklmnopqrstuvwxyz"),some (.int N),some (.int step),some (.str fr),some (.int (at_:Int)),none,none,none]) σ (λK hK _=> ?_) λat_ hat=> ?_
 ·refine Leaf.mk (y0q hfs ?_)
  exact y3G (P:=λz=>K .next [some (.lst (xs.map V.int)),some (.int (n:Int)),some (.str "abcdefghijklmnopqrstuvwxyz"),some (.int N),some (.int step),some (.str fr),some (.int z),none,none,none] σ) (Nat.succ_pos _) hK
 have hal:at_<=fr.length:=Nat.le_of_lt_succ hat
 intro a o hf
 have l1:=z5z (x:=fr) hal
 have l2:=z5x (x:=fr) hal
 have z1:∀c:Nat,(Txt.slice fr none (some (at_:Int))).length+(⟨#[c]⟩:Str).length<=sizeLine:=λc=>z0x (by rw[l1];exact Nat.le_trans (Nat.succ_le_succ (Nat.le_trans hal hfl)) (by decide))
 have z3:∀c:Nat,(Txt.slice fr none (some (at_:Int))++⟨#[c]⟩++Txt.slice fr (some (at_:Int)) none).length=fr.length+1:=λc=>by
  rw[z1h,z1h,l1,l2,show(⟨#[c]⟩:Str).length=1 from rfl,Nat.add_right_comm,Nat.add_sub_cancel' hal]
 have z2:∀c:Nat,(Txt.slice fr none (some (at_:Int))++⟨#[c]⟩).length+(Txt.slice fr (some (at_:Int)) none).length<=sizeLine:=λc=>by rw[<-z1h,z3];exact z0x (Nat.le_trans (Nat.succ_le_succ hfl) (by decide))
 obtain⟨G,hG⟩:∃G:Nat->Str,∀j,G j=Txt.slice fr none (some (at_:Int))++⟨#[z6D (N.fdiv 504+step*(j:Int))]⟩++Txt.slice fr (some (at_:Int)) none:=⟨_,λ_=>rfl⟩
 refine Leaf.mk (.mk n (NmI (.lst (xs.map V.int)) (.int (n:Int)) (.str "abcdefghijklmnopqrstuvwxyz") (.int N) (.int step) (.str fr) (.int (at_:Int)) a G σ) rfl h1k .mk (λi hi m τ hI QB hQB _=> ?_) λm τ hI=> ?_)
 ·have hi20:i<20:=Nat.lt_of_lt_of_le hi h1
  clear q hsc hstep
  refine hI.casesOn @λo k sg=> ?_
  refine Leaf.mk (z3c ?_ (z3E (by lia)))
  refine Leaf.mk (z5F ?_)
  repeat' first|(refine Leaf.mk ?_;with_reducible refine⟨tyL At.hd,?_⟩)|refine Leaf.mk ?_|fail
  refine z4q .none (.int _) hfs ?_
  refine Leaf.mk (z72 ?_ (z1 _))
  refine Leaf.mk (z4q (.int _) .none hfs ?_)
  refine Leaf.mk (z72 ?_ (z2 _))
  refine Leaf.mk (z2C (z0x (by rw[List.length_map,List.length_map,List.length_range];exact Nat.le_trans (Nat.le_of_lt hi20) (by decide))) λo'=> ?_)
  refine hQB _ _ ?_
  have hm:NmI (.lst (xs.map V.int)) (.int (n:Int)) (.str "abcdefghijklmnopqrstuvwxyz") (.int N) (.int step) (.str fr) (.int (at_:Int)) a G σ (i+1) _ ((a,o',.list (((List.range (i+1)).map G).map V.str))::σ):= .mk (k:=some (.int (i:Int))) (sg:=some (.str ⟨#[z6D (N.fdiv 504+step*(i:Int))]⟩))
  rw[List.range_succ,List.map_append,List.map_append,show List.map V.str (List.map G [i])=[V.str (Txt.slice fr none (some (at_:Int))++⟨#[z6D (N.fdiv 504+step*(i:Int))]⟩++Txt.slice fr (some (at_:Int)) none)] from congrArg (λz=>[V.str z]) (hG i)] at hm
  exact hm
 refine hI.casesOn @λo k sg=> ?_
 have hG1:NmOk n ((List.range n).map G):=⟨by rw[List.length_map,List.length_range],λw hw=>by
   apply z0l hw;intro j _
   rw[hG]
   exact⟨by rw[z3];exact Nat.succ_pos _,by rw[z3];exact Nat.succ_le_succ hfl,((hj1.slice _ _).append (z9y (z3M _).2)).append (hj1.slice _ _)⟩,
  z1B λi j hi hj e=>by rw[hG,hG] at e;exact z9W hstep (Nat.lt_of_lt_of_le hi h1) (Nat.lt_of_lt_of_le hj h1) (y01 (y1O e))⟩
 generalize (List.range n).map G=ws at hG1
 clear hG z1 z2 z3 l1 l2 hstep
 refine z39 (α:=V×List Str) (λp=>(∃P,Has ((a,o,AO.list (ws.map V.str))::σ) p.1 (.list (p.2.map V.str)) P)/\NmOk n p.2) (λp=>[some (.lst (xs.map V.int)),some (.int (n:Int)),some (.str "abcdefghijklmnopqrstuvwxyz"),some (.int N),some (.int step),some (.str fr),some (.int (at_:Int)),some p.1,k,sg]) ((a,o,.list (ws.map V.str))::σ) (λK hK _=> ?_) λp hp=> ?_
 ·have hno:K .next [some (.lst (xs.map V.int)),some (.int (n:Int)),some (.str "abcdefghijklmnopqrstuvwxyz"),some (.int N),some (.int step),some (.str fr),some (.int (at_:Int)),some (.ref a),k,sg] ((a,o,.list (ws.map V.str))::σ):=hK (.ref a,ws) ⟨⟨_,.refL (.head _)⟩,hG1⟩
  cases hn9:decide ((n:Int)<9) with
  |false=>
   repeat' first|refine z0z (by with_reducible assumption) ?_|(refine z02 (λ_=> ?_) (λ_=> ?_)<;>try (exfalso;rename_i hb;revert hb;simp[V.isNone];done))|fail
   all_goals exact hno
  |true=>
  have hn8:n<=8:=Nat.le_of_lt_succ (Int.ofNat_lt.mp (of_decide_eq_true hn9))
  repeat' first|refine z18 (by with_reducible assumption) ?_|(refine z02 (λ_=> ?_) (λ_=> ?_)<;>try (exfalso;rename_i hb;revert hb;simp[V.isNone];done))|refine Leaf.mk ?_|fail
  rotate_left
  ·exact hno
  have hls:("abcdefghijklmnopqrstuvwxyz":Str).length<=sizeLine:=z0x (by rw[let_len];decide)
  obtain⟨ci,hci⟩:=Int.eq_ofNat_of_zero_le (Int.fmod_nonneg_of_pos (N.fdiv 504) (show(0:Int)<26 by decide))
  have hci26:ci<=26:=Nat.le_of_lt (Int.ofNat_lt.mp (hci▸Int.fmod_lt_of_pos (N.fdiv 504) (show(0:Int)<26 by decide)))
  have m1:(Txt.slice "abcdefghijklmnopqrstuvwxyz" (some ((N.fdiv 504).fmod 26)) none).length=26-ci:=by rw[hci,z5x (by rw[let_len];exact hci26),let_len]
  have m3:∀z:Nat,z<=100->z<=sizeLine:=λz h=>z0x (Nat.le_trans h (by decide))
  have m4:fr.length+(Txt.slice "abcdefghijklmnopqrstuvwxyz" (some ((N.fdiv 504).fmod 26)) none).length<=sizeLine:=m3 _ (by rw[m1];lia)
  have m5:(fr++Txt.slice "abcdefghijklmnopqrstuvwxyz" (some ((N.fdiv 504).fmod 26)) none).length+("abcdefghijklmnopqrstuvwxyz":Str).length<=sizeLine:=m3 _ (by rw[z1h,m1,let_len];lia)
  have m6:26<=(fr++Txt.slice "abcdefghijklmnopqrstuvwxyz" (some ((N.fdiv 504).fmod 26)) none++"abcdefghijklmnopqrstuvwxyz").length:=by rw[z1h,let_len];lia
  have hbig:(fr++Txt.slice "abcdefghijklmnopqrstuvwxyz" (some ((N.fdiv 504).fmod 26)) none++"abcdefghijklmnopqrstuvwxyz").length<=sizeLine:=by rw[z1h];exact m5
  have hlt:=(hj1.append (let_lt.slice (some ((N.fdiv 504).fmod 26)) none)).append let_lt
  show AS C env ["_law_script","_law_many","_law_letters","_law_number","_law_step","_law_frame","_law_at","_law_names_here","_law_k","_law_sign"] _ true _ (exec _ env) [some (.lst (xs.map V.int)),some (.int (n:Int)),some (.str "abcdefghijklmnopqrstuvwxyz"),some (.int N),some (.int step),some (.str fr),some (.int (at_:Int)),some (.ref a),k,sg] _ _
  refine z00 "_law_k" ["_law_frame","_law_letters","_law_number"] [] (z1C (by rw[hsc];kernel_rfl)) (by rw[hsc];kernel_rfl) GL_nil (.cons LkC.lk (.cons LkC.lk (.cons LkC.lk .nil))) (z2p ?_)
  repeat' with_reducible first|refine z0k ?_|refine z1k ?_|refine z0I ?_|refine z0s ?_|refine z0r ?_|refine z2z ?_|refine⟨z1i,?_⟩|fail
  refine⟨_,_,_,n,rfl,y0f h1k,y1n n,z0x (by rw[z1u];exact Nat.le_trans h1k (by decide)),λenv' he=>
   z1s (f:=y32 (fr++Txt.slice "abcdefghijklmnopqrstuvwxyz" (some ((N.fdiv 504).fmod 26)) none++"abcdefghijklmnopqrstuvwxyz")) (z0m he (by decide+kernel)) trivial _ _ _ (λX hX K hK=> ?_) ?_⟩
  ·obtain⟨j,hj,rfl⟩:=z17 hX
   repeat' with_reducible first|refine z0k ?_|refine z0O ?_|refine z0W ?_|refine z1D ?_|refine z3s ?_|refine z5g ?_ (by with_unfolding_all decide)|refine z5l ?_ (by with_unfolding_all decide) (by with_unfolding_all decide)|refine z2h ?_|refine z2f ?_|fail
   refine z4q (.int _) .none hls ?_
   repeat' with_reducible first|refine z0k ?_|refine z0O ?_|refine z1D ?_|refine z3s ?_|refine z5G ?_|refine z72 ?_ ?_|refine z2h ?_|refine z2f ?_|fail
   ·refine z4q .none (.int _) hbig ?_
    exact hK
   ·exact m5
   ·exact m4
  generalize (fr++Txt.slice "abcdefghijklmnopqrstuvwxyz" (some ((N.fdiv 504).fmod 26)) none++"abcdefghijklmnopqrstuvwxyz")=B at m6 hlt
  have m2:∀j:Nat,j<n->(Txt.slice B none (some (1+(j:Int)))).length=1+j:=λj hj=>z5z (n:=1+j) (Nat.le_trans (Nat.add_le_add_left (Nat.le_of_lt (Nat.lt_of_lt_of_le hj hn8)) 1) (Nat.le_trans (by decide) m6))
  rw[List.nil_append,show(z1j 0 1 n).map (y32 B)=((List.range n).map λj:Nat=>Txt.slice B none (some (1+(j:Int)))).map V.str by rw[z3P,List.map_map,List.map_map];rfl]
  with_reducible refine z2B ?_
  refine hK (_,_) ⟨⟨_,.lst _⟩,by rw[List.length_map,List.length_range],λw hw=> ?_,z1B λi j hi hj e=> ?_⟩
  ·apply z0l hw;intro j hj
   have hj:=List.mem_range.mp hj
   exact⟨by rw[m2 j hj];exact Nat.le_add_right 1 j,by rw[m2 j hj,Nat.add_comm];exact Nat.lt_of_lt_of_le hj hn8,hlt.slice _ _⟩
  ·have:=congrArg Str.length e
   rw[m2 i hi,m2 j hj] at this
   exact Nat.add_left_cancel this
 obtain⟨x,vs⟩:=p
 obtain⟨⟨P,hH⟩,hv⟩:=hp
 have hvz:(vs.map V.str).length<=sizeLine:=z0A (hv.l▸h1k) (by decide)
 repeat' first|(with_reducible refine z5n ?_)|refine Leaf.mk ?_|fail
 refine z9Y λi hi=> ?_
 refine Leaf.mk (z3N hH .none .none (.int _) (by rcases hi with rfl|rfl<;>decide) hvz (z45 ?_))
 obtain⟨vs',e,h4,h2,h3⟩:=y3P hi hv.w hv.d
 rw[e]
 exact⟨σ,List.sublist_cons_self _ _,q _ (h4.trans hv.l) h2 h3⟩
end
end
section
section
variable {C:Cx} [HM C] [NF C] {d:Nat} {σ:Sto} {Q:V->Sto->Prop}
structure NeedsOk(w:Str)(ns:List (Str×Int×Int)):Prop where
 len:ns.length<=6
 ok:∀n∈ns,NeedOk n
 ne:∀n∈ns,n.1≠w
 nd:(ns.map (·.1)).Nodup
noncomputable def fstV:V->V
 | .tup (x::_)=>x
 |v=>v
noncomputable def z3f(r1:Stmt)(r2:Stmt)(r3:Stmt):TC:=⟨[.loc 1,.isi .lst,.tvalc,.not,.mop .Or [.loc 1,.len,.psh (.int 6),.tcmpc .Gt,.mop .Or [.psh (.bool false)]],.ife [.rawS r1] [],.rawS r2,.loc 1,.forL 3 [.loc 3,.call (.ref 130) 1,.tvalc,.not,.mop .Or [.loc 3,.subT 0,.loc 2,.tcmpc .In,.mop .Or [.psh (.bool false)]],.ife [.rawS r3] [],.psh (.bool true),.loc 2,.loc 3,.subT 0,.setI]],[.inl r1,.inl r2,.inl r3],[([0,0,0],none),([1],none),([2,0,0,0,0],none)]⟩
--z3f 3
noncomputable def mtV(w:Str)(ns:List (Str×Int×Int)):List (Str×V):=(w,.bool true)::ns.map λn=>(n.1,.bool true)
theorem y0t{w:Str}{ns:List (Str×Int×Int)}:(mtV w ns).map (·.1)=w::ns.map (·.1):=by unfold mtV;rw[List.map_cons,List.map_map];rfl
theorem z9A{w:Str}{ns:List (Str×Int×Int)}{i:Nat}{n:Str×Int×Int}(hok:NeedsOk w ns)(h:ns[i]? =some n):n.1∉(mtV w (ns.take i)).map (·.1)/\((mtV w (ns.take i)).map (·.1)).Nodup/\mtV w (ns.take i)++[(n.1,.bool true)]=mtV w (ns.take (i+1)):=by
 have htk:ns.take (i+1)=ns.take i++[n]:=by rw[List.take_add_one,h];rfl
 have hnd:(w::ns.map (·.1)).Nodup:=List.nodup_cons.mpr ⟨λh=>by obtain⟨x,hx,e⟩:=List.mem_map.mp h;exact hok.ne x hx e,hok.nd⟩
 have hsub:(w::(ns.take (i+1)).map (·.1)).Sublist (w::ns.map (·.1)):=((List.take_sublist _ _).map _).cons_cons w
 have hnd1:=hsub.nodup hnd
 rw[htk,List.map_append] at hnd1
 have h3:=List.nodup_append.mp (show((w::(ns.take i).map (·.1))++[n.1]).Nodup from hnd1)
 rw[y0t]
 exact⟨λhm=>h3.2.2 _ hm _ (.head _) rfl,h3.1,by unfold mtV;rw[htk,List.map_append];rfl⟩
inductive NnI(w:Str)(a b:Addr)(ns:List (Str×Int×Int))(σ:Sto)(i:Nat):Loc->Sto->Prop
 |mk {o:Obj} {x:Option V}:NnI w a b ns σ i [some (.str w),some (.ref a),some (.ref b),x] ((b,o,dS (mtV w (ns.take i)))::σ)
theorem z6z(H:G1 C){w:Str}{a:Addr}{ns:List (Str×Int×Int)}(hat:At σ a (.list (ns.map z0g)))(hok:NeedsOk w ns)(q:Q .none σ):CW C (d+3) (.ref 213) [.str w,.ref a] σ Q:=by
 refine z08 ?_
 refine z0D (G1.kin (by assumption)) ["ware","needs","met","need"] [("isinstance",.bi "isinstance"),("list",.type "list"),("len",.bi "len"),("MOST_NEEDS",.int 6),("BadNeed",.ref 61),("is_need",.ref 130)] (by kernel_rfl) (vs2 λ_ _=>by kernel_rfl) rfl (z0a (z0h (by assumption)) (z0a (z0N (by assumption)) (z0a (z0Q (by assumption)) (z0a (z5R (by assumption)) (z0a (z9c (by assumption)) (z0a (z5t (by assumption)) GL_nil)))))) ?_
 intro env hsc
 clear hsc
 obtain⟨oa,hm⟩:=hat
 have h6:=hok.len
 refine z0e (z0o H) (z0n H) (z3f _ _ _) (by exact rfl) (by kernel_rfl) ?_
 intro F m0
 refine Leaf.mk (z6v (k:= .lst) (.refL hm) ?_)
 refine Leaf.mk (z0E (.refL hm) (List.length_map _) (z0A h6 (by decide)) ?_)
 refine z0z (decide_eq_false (Int.not_lt.mpr (Int.ofNat_le.mpr h6))) ?_
 refine Leaf.mk ?_
 show AS C env ["ware","needs","met","need"] _ true _ (exec _ env) [some (.str w),some (.ref a),none,none] _ _
 refine z14 (z7v (KK.str C.prog C.w) λb o hf=> ?_)
 repeat' with_reducible first|refine z0k ?_|refine z8U ?_
 refine⟨w,rfl,rfl,λo'=> ?_⟩
 with_reducible refine z2B ?_
 refine Leaf.mk (.mk _ _ (NnI w a b ns σ) (.refL (.tail _ hm)) .mk (λi X hX m τ hI QB hQB _=> ?_) λm τ hI=> ?_)
 ·clear q
  rw[List.getElem?_map] at hX
  apply z0Z hX;intro n hn
  obtain⟨hnew,hnd,hnx⟩:=z9A hok hn
  have hil:=(List.getElem?_eq_some_iff.mp hn).1
  have hz:(mtV w (ns.take i)).length<=sizeLine:=z0x (by unfold mtV;rw[List.length_cons,List.length_map,List.length_take];lia)
  have hno:=hok.ok n (List.mem_of_getElem? hn)
  refine hI.casesOn @λo x=> ?_
  refine Leaf.mk (fnc (z5m H hno ?_))
  refine Leaf.mk (z29 H.ns At.hd hnd (z0j ?_))
  rw[z1E hnew]
  refine Leaf.mk (z8j hnd hz λo'=> ?_)
  rw[z1N hnew,hnx]
  exact hQB _ _ (.tail _ hm) .mk
 ·cases hI with
  |mk=>exact⟨σ,List.sublist_cons_self _ _,q⟩
end
end
section
section
variable {C:Cx} [HM C] [NF C] {d:Nat} {σ:Sto} {Q:V->Sto->Prop}
noncomputable abbrev z0c:=Str×Int×Int
noncomputable abbrev kvV(kv:List (Str×Addr)):List (Str×V):=kv.map λp=>(p.1,.ref p.2)
noncomputable abbrev esV(es:List (Int×List z0c)):List (Int×V):=es.map λp=>(p.1,.lst (p.2.map z0g))
theorem z0t(kv:List (Str×Addr)):(kvV kv).map (·.1)=kv.map (·.1):=by simp[List.map_map,Function.comp_def]
theorem z0q(es:List (Int×List z0c)):(esV es).map (·.1)=es.map (·.1):=by simp[List.map_map,Function.comp_def]
structure Shp(σ:Sto)(i k:Addr)(kv:List (Str×Addr))(es:Str->List (Int×List z0c)):Prop where
 inst:∃dx,At σ i (.inst 272 dx [("kept",.ref k)])
 kept:At σ k (dS (kvV kv))
 kvn:(kv.map (·.1)).Nodup
 kl:kv.length<=12
 inn:∀p∈kv,At σ p.2 (dI (esV (es p.1)))
 out:∀w,w∉kv.map (·.1)->es w=[]
 eok:∀w,((es w).map (·.1)).Nodup/\(es w).length<=8/\∀p∈es w,p.2.length<=6
 sep:(i::k::kv.map (·.2)).Nodup
theorem Shp.at{i k:Addr}{kv:List (Str×Addr)}{es:Str->List (Int×List z0c)}(S:Shp σ i k kv es)(w:Str):
  (vAt (kvV kv) w=none/\w∉kv.map (·.1)/\es w=[])∨∃a,vAt (kvV kv) w=some (.ref a)/\(w,a)∈kv/\At σ a (dI (esV (es w))):=by
 by_cases h:w∈kv.map (·.1)
 ·apply z0l h;intro p hp
  exact .inr ⟨p.2,z0B (by rw[z0t];exact S.kvn) (List.mem_map.mpr ⟨p,hp,rfl⟩),hp,S.inn p hp⟩
 ·exact .inl ⟨z1E (by rw[z0t];exact h),h,S.out w h⟩
theorem z0R{a b dx:Addr}{P:V->Prop}(h:At σ a (.inst 272 dx [("kept",.ref b)]))(q:P (.ref b)):z8m 272 "kept" (.ref a) σ P:=y4n h rfl q
theorem z0K{a b dx:Addr}{nm:Str}{P:Addr->Prop}(h:At σ a (.inst 272 dx [("kept",.ref b)]))(hn:(nm==("kept":Str))=false)(q:P a):z5i 272 nm (.ref a) σ P:=
 y4v h (by rw[List.lookup_cons,hn];rfl) q
noncomputable def t_Shop_has:TC:=⟨[.loc 1,.call (.ref 116) 1,.vop .And [.loc 2,.call (.ref 123) 1,.vop .And [.loc 2,.loc 0,.att 272 "kept",.mty "dict",.loc 1,.dic,.meth (.bi "dict.get") 2,.cmpc .In]],.ret],[],[]⟩
--t_Shop_has 0
noncomputable def t_Shop_wares:TC:=⟨[.loc 0,.att 272 "kept",.call (.bi "sorted") 1,.ret],[],[]⟩
--t_Shop_wares 0
noncomputable def z3h(r1:Stmt):TC:=⟨[.loc 1,.call (.ref 116) 1,.tvalc,.not,.ife [.rawS r1] [],.loc 0,.att 272 "kept",.mty "dict",.loc 1,.dic,.meth (.bi "dict.get") 2,.call (.bi "sorted") 1,.ret],[.inl r1],[([0,0,0],none)]⟩
--z3h 1
noncomputable def z3e(r1:Stmt):TC:=⟨[.loc 0,.mI 272 "has",.loc 1,.loc 2,.meth (.ref 234) 2,.tvalc,.not,.ife [.rawS r1] [],.loc 0,.att 272 "kept",.loc 1,.sub,.loc 2,.sub,.call (.type "list") 1,.ret],[.inl r1],[([0,0,0],none)]⟩
--z3e 1
theorem Shp.kn{i k:Addr}{kv:List (Str×Addr)}{es:Str->List (Int×List z0c)}(S:Shp σ i k kv es):((kvV kv).map (·.1)).Nodup:=by rw[z0t];exact S.kvn
theorem Shp.en{i k:Addr}{kv:List (Str×Addr)}{es:Str->List (Int×List z0c)}(S:Shp σ i k kv es)(w:Str):((esV (es w)).map (·.1)).Nodup:=by rw[z0q];exact(S.eok w).1
theorem z6C(H:G1 C){i k b:Addr}{o:Obj}{kv:List (Str×Addr)}{es:Str->List (Int×List z0c)}{w:Str}(S:Shp σ i k kv es)(q:∀c,At ((b,o,.dict [])::σ) c (dI (esV (es w)))->Q (.ref c) ((b,o,.dict [])::σ)):KW C d (.bi "dict.get") [.ref k,.str w,.ref b] ((b,o,.dict [])::σ) Q:=by
 refine z6s H.ns (S.kept.cons _) S.kn ?_
 rcases S.at w with⟨e,_,e2⟩|⟨a,e,_,ha⟩
 ·rw[e];exact q b (by rw[e2];exact At.hd)
 ·rw[e];exact q a (ha.cons _)
theorem y1i(H:G1 C){i k:Addr}{kv:List (Str×Addr)}{es:Str->List (Int×List z0c)}{w:Str}{mk:Int}(S:Shp σ i k kv es)(hw:Ware w)(h1:1<=mk)(h2:mk<=999)(q:Q (.bool (vAt (esV (es w)) mk).isSome) σ):
  CW C (d+2) (.ref 234) [.ref i,.str w,.int mk] σ Q:=by
 refine z08 ?_
 refine z0D (G1.kin (by assumption)) ["self","ware","make"] [("is_ware",.ref 116),("is_make",.ref 123)] (by kernel_rfl) (vs3 λ_ _ _=>by kernel_rfl) rfl (z0a (z19 (by assumption)) (z0a (z2N (by assumption)) GL_nil)) ?_
 intro env hsc
 clear hsc
 obtain⟨dx,hin⟩:=S.inst
 have hk:=S.kept
 refine z0e (z0o H) (z0n H) t_Shop_has rfl (by kernel_rfl) ?_
 intro F m0
 refine Leaf.mk (fnc (z2a H hw ?_))
 refine Leaf.mk (fnc (z11 H h1 h2 ?_))
 refine Leaf.mk (z0R hin ?_)
 refine Leaf.mk ⟨tyD hk,?_⟩
 intro b o hf
 refine Leaf.mk (z6C H S λc hc=> ?_)
 refine Leaf.mk (y3p H.ns hc (S.en w) ?_)
 exact⟨σ,List.sublist_cons_self _ _,q⟩
theorem y0x{Xs:List V}{σ₁:Sto}(hs:σ.Sublist σ₁)(q:NLf Q Xs σ):NLf (λx σ'=>∃τ,τ.Sublist σ'/\Q x τ) Xs σ₁:=by
 rcases q with q|q
 ·exact .inl ⟨σ,hs,q⟩
 ·exact .inr λa o hf=>⟨_,hs.cons_cons _,q a o λp hp=>hf p (hs.subset hp)⟩
theorem y1T(H:G1 C){i k:Addr}{kv:List (Str×Addr)}{es:Str->List (Int×List z0c)}(S:Shp σ i k kv es)(q:NLf Q ((z1n (kv.map (·.1))).map V.str) σ):
  CW C (d+1) (.ref 269) [.ref i] σ Q:=by
 refine z0D (G1.kin (by assumption)) ["self"] [("sorted",.bi "sorted")] (by kernel_rfl) (vs1 λ_=>by kernel_rfl) rfl (z0a (z1O (by assumption)) GL_nil) ?_
 intro env hsc
 clear hsc
 obtain⟨dx,hin⟩:=S.inst
 refine z0e (z0o H) (z0n H) t_Shop_wares rfl (by kernel_rfl) ?_
 intro F m0
 refine Leaf.mk (z0R hin ?_)
 refine Leaf.mk (z67 H.ns S.kept S.kn (by rw[List.length_map];exact Nat.lt_of_le_of_lt S.kl (by decide)) ?_)
 rw[z0t]
 exact q
theorem z8E(H:G1 C){i k:Addr}{kv:List (Str×Addr)}{es:Str->List (Int×List z0c)}{w:Str}(S:Shp σ i k kv es)(hw:Ware w)(q:NLf Q ((z1g ((es w).map (·.1))).map V.int) σ):
  CW C (d+2) (.ref 255) [.ref i,.str w] σ Q:=by
 refine z08 ?_
 refine z0D (G1.kin (by assumption)) ["self","ware"] [("is_ware",.ref 116),("BadWare",.ref 37),("sorted",.bi "sorted")] (by kernel_rfl) (vs2 λ_ _=>by kernel_rfl) rfl (z0a (z19 (by assumption)) (z0a (z5A (by assumption)) (z0a (z1O (by assumption)) GL_nil))) ?_
 intro env hsc
 clear hsc
 obtain⟨dx,hin⟩:=S.inst
 refine z0e (z0o H) (z0n H) (z3h _) (by exact rfl) (by kernel_rfl) ?_
 intro F m0
 refine Leaf.mk (fnc (z2a H hw ?_))
 refine Leaf.mk (z0R hin ?_)
 refine Leaf.mk ⟨tyD S.kept,?_⟩
 intro b o hf
 refine Leaf.mk (z6C H S λc hc=> ?_)
 refine Leaf.mk (z2E H.ns hc (S.en w) (by rw[List.length_map];exact Nat.lt_of_le_of_lt (S.eok w).2.1 (by decide)) ?_)
 rw[z0q]
 exact y0x (List.sublist_cons_self _ _) q
theorem z4l(H:G1 C){i k:Addr}{kv:List (Str×Addr)}{es:Str->List (Int×List z0c)}{w:Str}{mk:Int}{ns:List z0c}(S:Shp σ i k kv es)(hw:Ware w)(h1:1<=mk)(h2:mk<=999)(hm:(mk,ns)∈es w)
  (q:NLf Q (ns.map z0g) σ):CW C (d+3) (.ref 262) [.ref i,.str w,.int mk] σ Q:=by
 refine z0D (G1.kin (by assumption)) ["self","ware","make"] [("NoMake",.ref 97),("list",.type "list")] (by kernel_rfl) (vs3 λ_ _ _=>by kernel_rfl) rfl (z0a (z6Q (by assumption)) (z0a (z0N (by assumption)) GL_nil)) ?_
 intro env hsc
 clear hsc
 obtain⟨dx,hin⟩:=S.inst
 have hv:vAt (esV (es w)) mk=some (.lst (ns.map z0g)):=z0B (S.en w) (List.mem_map.mpr ⟨_,hm,rfl⟩)
 rcases S.at w with⟨_,_,e2⟩|⟨a,e,_,ha⟩
 ·rw[e2] at hm;cases hm
 refine z0e (z0o H) (z0n H) (z3e _) (by exact rfl) (by kernel_rfl) ?_
 intro F m0
 refine Leaf.mk (z0K hin (by decide+kernel) ?_)
 refine Leaf.mk (fnc (y1i H S hw h1 h2 ?_))
 rw[hv]
 refine Leaf.mk (z0R hin ?_)
 refine Leaf.mk (z1F S.kept S.kn e ?_)
 refine Leaf.mk (z8Z ha (S.en w) hv ?_)
 exact⟨z1W (.lst _) (z0A ((S.eok w).2.2 _ hm) (by decide)) q⟩
end
end
section
section
variable {C:Cx} [HM C] [NF C] {d:Nat} {σ:Sto} {Q:V->Sto->Prop}
theorem y2w(es:List (Int×List z0c))(mk:Int):z2n (esV es) mk=esV (es.filter λp=>decide (p.1≠mk)):=by
 unfold z2n
 rw[List.filter_map];rfl
theorem y4g(kv:List (Str×Addr))(w:Str):z2n (kvV kv) w=kvV (kv.filter λp=>decide (p.1≠w)):=by
 unfold z2n
 rw[List.filter_map];rfl
theorem z8C(kv:List (Str×Addr))(w:Str)(b:Addr):kvV (kv++[(w,b)])=kvV kv++[(w,.ref b)]:=List.map_append
theorem z56(es:List (Int×List z0c))(mk:Int)(ns:List z0c):esV (es++[(mk,ns)])=esV es++[(mk,.lst (ns.map z0g))]:=List.map_append
theorem Shp.ne{i k:Addr}{kv:List (Str×Addr)}{es:Str->List (Int×List z0c)}(S:Shp σ i k kv es){w:Str}{a:Addr}(h:(w,a)∈kv):i≠a/\k≠a/\i≠k:=by
 have:=S.sep
 have ha:a∈kv.map (·.2):=List.mem_map.mpr ⟨_,h,rfl⟩
 have h1:=List.nodup_cons.mp this
 have h2:=List.nodup_cons.mp h1.2
 exact⟨λe=>h1.1 (.tail _ (e▸ha)),λe=>h2.1 (e▸ha),λe=>h1.1 (e▸ .head _)⟩
noncomputable def z36(r1:Stmt):TC:=⟨[.loc 0,.mI 272 "has",.loc 1,.loc 2,.meth (.ref 234) 2,.tvalc,.not,.ife [.rawS r1] [],.loc 0,.att 272 "kept",.loc 1,.sub,.mty "dict",.loc 2,.meth (.bi "dict.pop") 1,.pop,.loc 0,.att 272 "kept",.loc 1,.sub,.dic,.tcmpc .Eq,.ife [.loc 0,.att 272 "kept",.mty "dict",.loc 1,.meth (.bi "dict.pop") 1,.pop] []],[.inl r1],[([0,0,0],none)]⟩
--z36 1
noncomputable def z4w(r1:Stmt)(r2:Stmt)(r3:Stmt)(r4:Stmt)(r5:Stmt):TC:=⟨[.loc 1,.call (.ref 116) 1,.tvalc,.not,.ife [.rawS r1] [],.loc 2,.call (.ref 123) 1,.tvalc,.not,.ife [.rawS r2] [],.loc 1,.loc 3,.call (.ref 213) 2,.pop,.loc 0,.mI 272 "has",.loc 1,.loc 2,.meth (.ref 234) 2,.tvalc,.ife [.rawS r3] [],.cut [.loc 1,.loc 0,.att 272 "kept",.tcmpc .NotIn,.mop .And [.loc 0,.att 272 "kept",.len,.psh (.int 12),.tcmpc .Eq,.mop .And [.psh (.bool true)]],.ife [.rawS r4] []],.loc 0,.att 272 "kept",.mty "dict",.loc 1,.dic,.meth (.bi "dict.get") 2,.len,.psh (.int 8),.tcmpc .Eq,.ife [.rawS r5] [],.loc 3,.call (.type "list") 1,.loc 0,.att 272 "kept",.mty "dict",.loc 1,.dic,.meth (.bi "dict.setdefault") 2,.loc 2,.setI],[.inl r1,.inl r2,.inl r3,.inl r4,.inl r5],[([0,0,0],none),([1,0,0],none),([3,0,0],none),([4,0,0],none),([5,0,0],none)]⟩
--z4w 5
noncomputable def z2m(r1:Stmt):TC:=⟨[.rawS r1],[.inl r1],[([0],none)]⟩
--z2m 1
theorem y2P(H:G1 C){i k a:Addr}{kv:List (Str×Addr)}{es:Str->List (Int×List z0c)}{w:Str}{mk:Int}{ns:List z0c}(S:Shp σ i k kv es)(hw:Ware w)(h1:1<=mk)(h2:mk<=999)(hm:(mk,ns)∈es w)(ha:(w,a)∈kv)
  (qa:(es w).filter (λp=>decide (p.1≠mk))≠[]->∀σ',UpdS σ σ' a (dI (esV ((es w).filter λp=>decide (p.1≠mk))))->Q .none σ')
  (qb:(es w).filter (λp=>decide (p.1≠mk))=[]->∀σ₁ σ',UpdS σ σ₁ a (dI [])->UpdS σ₁ σ' k (dS (kvV (kv.filter λp=>decide (p.1≠w))))->Q .none σ'):
  CW C (d+3) (.ref 248) [.ref i,.str w,.int mk] σ Q:=by
 refine z0D (G1.kin (by assumption)) ["self","ware","make"] [("NoMake",.ref 97)] (by kernel_rfl) (vs3 λ_ _ _=>by kernel_rfl) rfl (z0a (z6Q (by assumption)) GL_nil) ?_
 intro env hsc
 clear hsc
 obtain⟨dx,hin⟩:=S.inst
 have hk:=S.kept
 have hkn:=S.kn
 have hen:=S.en w
 have hv:vAt (esV (es w)) mk=some (.lst (ns.map z0g)):=z0B hen (List.mem_map.mpr ⟨_,hm,rfl⟩)
 have hkv:vAt (kvV kv) w=some (.ref a):=z0B hkn (List.mem_map.mpr ⟨_,ha,rfl⟩)
 obtain⟨n1,n2,n3⟩:=S.ne ha
 refine z0e (z0o H) (z0n H) (z36 _) (by exact rfl) (by kernel_rfl) ?_
 intro F m0
 refine Leaf.mk (z0K hin (by decide+kernel) ?_)
 refine Leaf.mk (fnc (y1i H S hw h1 h2 ?_))
 rw[hv]
 refine Leaf.mk (z0R hin ?_)
 refine Leaf.mk (z1F hk hkn hkv ?_)
 refine Leaf.mk ⟨tyD (S.inn _ ha),?_⟩
 refine Leaf.mk (z6l (S.inn _ ha) hen (z0A (S.eok w).2.1 (by decide)) hv λσ' U=> ?_)
 rw[y2w] at U
 have hin':=U.at hin n1
 have hk':=U.at hk n2
 have hen':((esV ((es w).filter λp=>decide (p.1≠mk))).map (·.1)).Nodup:=by
  rw[z0q];exact((List.filter_sublist).map _).nodup (S.eok w).1
 refine Leaf.mk (z0R hin' ?_)
 refine Leaf.mk (z1F hk' hkn hkv ?_)
 intro b o hf
 refine Leaf.mk (y38 (KK.int C.prog C.w) H.ns (U.here.cons _) hen' At.hd ?_)
 have hke:∀p∈σ',p∈(b,o,AO.dict [])::σ':=λp h=> .tail _ h
 have he:(esV ((es w).filter λp=>decide (p.1≠mk))).isEmpty=((es w).filter λp=>decide (p.1≠mk)).isEmpty:=by unfold esV;rw[List.isEmpty_map]
 refine z0j ?_
 rw[he]
 refine z02 (λhb=> ?_) λhb=> ?_
 ·have hb:=List.isEmpty_iff.mp hb
  rw[hb] at U
  have hk2:=hk'.cons (b,o,AO.dict [])
  refine Leaf.mk (z0R (hin'.cons _) ?_)
  refine Leaf.mk ⟨tyD hk2,?_⟩
  refine Leaf.mk (y16 hk2 hkn (z0A S.kl (by decide)) hkv λσ₂ U2=> ?_)
  rw[y4g] at U2
  exact qb hb ((b,o,.dict [])::σ') σ₂ ⟨U.here.cons _,λp hp hn=> .tail _ (U.keep p hp hn)⟩ U2
 ·exact qa (λe=>by rw[e] at hb;cases hb) ((b,o,.dict [])::σ') ⟨U.here.cons _,λp hp hn=> .tail _ (U.keep p hp hn)⟩
theorem y2J(H:G1 C){i k nl:Addr}{kv:List (Str×Addr)}{es:Str->List (Int×List z0c)}{w:Str}{mk:Int}{ns:List z0c}(S:Shp σ i k kv es)(hw:Ware w)(h1:1<=mk)(h2:mk<=999)
  (hnl:At σ nl (.list (ns.map z0g))) (hns:NeedsOk w ns) (hnew:mk∉(es w).map (·.1)) (hroom:(es w).length≠8) (hroom2:w∉kv.map (·.1)->kv.length≠12)
  (qa:∀a,(w,a)∈kv->∀σ',UpdS σ σ' a (dI (esV (es w++[(mk,ns)])))->Q .none σ')
  (qb:w∉kv.map (·.1)->∀b σ',Fresh σ b->At σ' b (dI (esV [(mk,ns)]))->At σ' k (dS (kvV (kv++[(w,b)])))->(∀p∈σ,p.1≠k->p∈σ')->Q .none σ'):
  CW C (d+4) (.ref 241) [.ref i,.str w,.int mk,.ref nl] σ Q:=by
 refine z0D (G1.kin (by assumption)) ["self","ware","make","needs"] [("is_ware",.ref 116),("BadWare",.ref 37),("is_make",.ref 123),("BadMake",.ref 49),("need_needs",.ref 213),("Twice",.ref 73),("len",.bi "len"),("MOST_WARES",.int 12),("Full",.ref 85),("MOST_MAKES",.int 8),("list",.type "list")] (by kernel_rfl) (vs4 λ_ _ _ _=>by kernel_rfl) rfl (z0a (z19 (by assumption)) (z0a (z5A (by assumption)) (z0a (z2N (by assumption)) (z0a (z9m (by assumption)) (z0a (z6p (by assumption)) (z0a (y2n (by assumption)) (z0a (z0Q (by assumption)) (z0a (z6i (by assumption)) (z0a (y2V (by assumption)) (z0a (z6E (by assumption)) (z0a (z0N (by assumption)) GL_nil))))))))))) ?_
 intro env hsc
 clear hsc
 obtain⟨dx,hin⟩:=S.inst
 have hk:=S.kept
 have hkn:=S.kn
 have hen:=S.en w
 have hkz:(kvV kv).length<=sizeLine:=z0A S.kl (by decide)
 have hez:(esV (es w)).length<=sizeLine:=z0A (S.eok w).2.1 (by decide)
 have hv:vAt (esV (es w)) mk=none:=z1E (by rw[z0q];exact hnew)
 obtain⟨onl,hnm⟩:=hnl
 refine z0e (z0o H) (z0n H) (z4w _ _ _ _ _) (by exact rfl) (by kernel_rfl) ?_
 intro F m0
 refine Leaf.mk (fnc (z2a H hw ?_))
 refine Leaf.mk (fnc (z11 H h1 h2 ?_))
 refine Leaf.mk (fnc (z6z H ⟨onl,hnm⟩ hns ?_))
 refine Leaf.mk (z0K hin (by decide+kernel) ?_)
 refine Leaf.mk (fnc (y1i H S hw h1 h2 ?_))
 rw[hv]
 refine z6R [some (.ref i),some (.str w),some (.int mk),some (.ref nl)] σ (λK hK _=> ?_) ?_
 ·refine Leaf.mk (z0R hin ?_)
  refine Leaf.mk (z50 H.ns hk hkn (z0j ?_))
  refine z02 (λhb=> ?_) λ_=>hK
  refine Leaf.mk (z0R hin ?_)
  refine Leaf.mk (z2O H.ns hk hkn hkz ?_)
  refine z0z (decide_eq_false λe=>hroom2 (λhm=> ?_) (by rw[<-List.length_map];exact Int.ofNat.inj e)) hK
  obtain⟨p,hp,rfl⟩:=List.mem_map.mp hm
  rw[z0B hkn (List.mem_map.mpr ⟨p,hp,rfl⟩)] at hb
  cases hb
 refine Leaf.mk (z0R hin ?_)
 refine Leaf.mk ⟨tyD hk,?_⟩
 intro b0 o0 hf0
 refine Leaf.mk (z6C H S λc hc=> ?_)
 refine Leaf.mk (y19 H.ns hc hen hez ?_)
 refine z0z (decide_eq_false λe=>hroom (by rw[<-List.length_map];exact Int.ofNat.inj e)) ?_
 clear hc c
 refine Leaf.mk (z1W (.refL (.tail _ hnm)) (z0A hns.len (by decide)) (.inl ?_))
 refine Leaf.mk (z0R (hin.cons _) ?_)
 refine Leaf.mk ⟨tyD (hk.cons _),?_⟩
 intro b o hf
 rcases S.at w with⟨e,hno,e2⟩|⟨a,e,ha,hat⟩
 ·refine Leaf.mk (z4x H.ns ((hk.cons _).cons _) hkn hkz (λY hY=>by rw[e] at hY;cases hY) λ_ σ' U=> ?_)
  rw[z1N (by rw[z0t];exact hno)] at U
  have hfb:Fresh σ b:=λp hp=>hf p (.tail _ hp)
  have hbk:k≠b:=hfb.ne hk
  refine Leaf.mk (z5M (U.at At.hd hbk.symm:At σ' b (dI [])) List.nodup_nil (by decide) λσ'' U2=> ?_)
  refine qb hno b σ'' hfb U2.here (U2.at ?_ hbk) λp hp hne=>U2.keep p (U.keep p (.tail _ (.tail _ hp)) hne) (hfb p hp)
  rw[z8C]
  exact U.here
 ·refine Leaf.mk (z4x H.ns ((hk.cons _).cons _) hkn hkz (λY hY=> ?_) λhY=>by rw[e] at hY;cases hY)
  rw[e] at hY
  cases hY
  refine Leaf.mk (z5M ((hat.cons _).cons _) hen hez λσ'' U2=> ?_)
  rw[z1N (by rw[z0q];exact hnew)] at U2
  refine qa a ha σ'' ⟨?_,λp hp hne=>U2.keep p (.tail _ (.tail _ hp)) hne⟩
  rw[z56]
  exact U2.here
theorem y3D(H:G1 C){x dx:Addr}{o:Obj}(q:∀k σ',Fresh ((x,o,.inst 272 dx [])::σ) k->At σ' x (.inst 272 dx [("kept",.ref k)])->At σ' k (dS [])->(∀p∈σ,p.1≠x->p∈σ')->Q .none σ'):
  CW C (d+1) (.ref 227) [.ref x] ((x,o,.inst 272 dx [])::σ) Q:=by
 refine z0D (G1.kin (by assumption)) ["self"] [] (by kernel_rfl) (vs1 λ_=>by kernel_rfl) rfl GL_nil ?_
 intro env hsc
 clear hsc
 refine z0e (z0o H) (z0n H) (z2m _) (by exact rfl) (by kernel_rfl) ?_
 intro F m0
 refine Leaf.mk ?_
 show AS C env ["self"] _ true _ (exec _ env) [some (.ref x)] _ _
 refine z9p (z7J H) ?_
 refine z3w λk o' hf=> ?_
 with_reducible refine z0k ?_
 refine⟨x,dx,[],rfl,At.hd.cons _,rfl,by decide,λσ' U=> ?_⟩
 have hne:x≠k:=hf _ (.head _)
 exact q k σ' hf U.here (U.at At.hd hne.symm) λp hp hn=>U.keep p (.tail _ (.tail _ hp)) hn
theorem y3w(H:G1 C)(q:∀x k dx σ',Fresh σ x->Fresh σ k->x≠k->At σ' x (.inst 272 dx [("kept",.ref k)])->At σ' k (dS [])->(∀p∈σ,p∈σ')->Q (.ref x) σ'):CW C (d+2) (.ref 272) [] σ Q:=by
 refine y3c (y0A H) λx dx o hf=> ?_
 exact y3D H λk σ' hk h1 h2 h3=>⟨rfl,q x k dx σ' hf (λp hp=>hk p (.tail _ hp)) (hk _ (.head _)) h1 h2 λp hp=>h3 p hp (hf p hp)⟩
end
end
section
section
variable {C:Cx} [HM C] [NF C] {d:Nat} {σ:Sto} {Q:V->Sto->Prop}
noncomputable def t__law_stretch:TC:=⟨[.loc 1,.loc 0,.psh (.int 10),.binc .FloorDiv,.loc 1,.len,.binc .Mod,.sub,.asg 2,.loc 1,.loc 0,.psh (.int 60),.binc .FloorDiv,.loc 1,.len,.binc .Mod,.sub,.asg 3,.psh (.int 0),.psh (.int 1),.psh (.int 2),.psh (.int 3),.psh (.int 4),.psh (.int 4),.psh (.int 2),.psh (.int 1),.psh (.int 4),.psh (.int 5),.lst 10,.loc 0,.psh (.int 10),.binc .Mod,.sub,.asg 4,.loc 4,.psh (.int 0),.tcmpc .Eq,.ife [.loc 2,.loc 2,.tup 2,.ret] [],.loc 4,.psh (.int 1),.tcmpc .Eq,.ife [.loc 2,.loc 3,.call (.bi "min") 2,.loc 2,.loc 3,.call (.bi "max") 2,.tup 2,.ret] [],.loc 4,.psh (.int 2),.tcmpc .Eq,.ife [.loc 2,.psh (.int 999),.tup 2,.ret] [],.loc 4,.psh (.int 3),.tcmpc .Eq,.ife [.psh (.int 1),.loc 2,.tup 2,.ret] [],.loc 4,.psh (.int 4),.tcmpc .Eq,.ife [.psh (.int 1),.psh (.int 999),.tup 2,.ret] [],.psh (.int 999),.loc 2,.psh (.int 1),.binc .Add,.call (.bi "min") 2,.psh (.int 999),.loc 2,.psh (.int 1),.binc .Add,.call (.bi "min") 2,.tup 2,.ret],[],[]⟩
--t__law_stretch 0
noncomputable def isInt:V->Bool
 | .int _=>true
 |_=>false
theorem y1E{l:List V}(h:l.all isInt=true){X:V}(hX:X∈l):∃i,X= .int i:=by
 have:=List.all_eq_true.mp h X hX
 cases X<;>first|(cases this;done)|exact⟨_,rfl⟩
set_option tactic.hygienic true in
theorem z2J(H:G1 C){ms:List Int}{n:Int}(h0:0<ms.length)(h1:ms.length<=20)(hm:∀i∈ms,1<=i/\i<=999)(q:∀lo hi:Int,1<=lo->lo<=hi->hi<=999->Q (.tup [.int lo,.int hi]) σ):
  CW C (d+1) (.ref 295) [.int n,.lst (ms.map V.int)] σ Q:=by
 refine z0D (G1.kin (by assumption)) ["_law_number","_law_makes","_law_one","_law_other","_law_way"] [("len",.bi "len"),("min",.bi "min"),("max",.bi "max")] (by kernel_rfl) (vs2 λ_ _=>by kernel_rfl) rfl (z0a (z0Q (by assumption)) (z0a (y2I (by assumption)) (z0a (y2D (by assumption)) GL_nil))) ?_
 intro env hsc
 clear hsc
 have hl:(ms.map V.int).length<=sizeLine:=z0A h1 (by decide)
 have hp:(0:Int)<((ms.map V.int).length:Int):=by rw[List.length_map];exact Int.ofNat_lt.mpr h0
 have hk:(ms.map V.int).length<2^40:=by rw[List.length_map];exact Nat.lt_of_le_of_lt h1 (by decide)
 have hpick:∀(x:Int) (K:V->Sto->Prop),(∀i,1<=i->i<=999->K (.int i) σ)->SubR C d (.lst (ms.map V.int)) (.int (x.fmod (ms.map V.int).length)) σ K:=λx K k=>
  z33 (Int.fmod_nonneg_of_pos _ hp) (Int.fmod_lt_of_pos _ hp) hk λX hX=>by
   apply z0l hX;intro i hi
   exact k i (hm i hi).1 (hm i hi).2
 clear hm h0 h1 hk
 refine z0e (z0o H) (z0n H) t__law_stretch rfl (by kernel_rfl) ?_
 intro F m0
 repeat' (refine Leaf.mk ?_;with_reducible refine z2Y (.lst _) (by with_reducible assumption) ?_)
 refine z6r hp ?_
 refine Leaf.mk (hpick _ _ λone b1 b2=> ?_)
 repeat' (refine Leaf.mk ?_;with_reducible refine z2Y (.lst _) (by with_reducible assumption) ?_)
 refine z6r hp ?_
 refine Leaf.mk (hpick _ _ λother b3 b4=> ?_)
 clear hpick hp hl
 refine Leaf.mk (z33 (Int.fmod_nonneg_of_pos _ (by decide)) (Int.fmod_lt_of_pos _ (by decide)) (by decide) λX hX=> ?_)
 obtain⟨way,rfl⟩:=y1E rfl hX
 clear hX
 repeat' first|(refine Leaf.mk ?_;with_reducible first|refine z90 ?_|refine y03 ?_)|(refine z02 (λ_=> ?_) (λ_=> ?_)<;>try (exfalso;rename_i hb;revert hb;simp[V.isNone];done))
 ·exact q one one b1 (Int.le_refl _) b2
 ·exact q _ _ (Int.le_min.mpr ⟨b1,b3⟩) (Int.le_trans (Int.min_le_left ..) (Int.le_max_left ..)) (Int.max_le.mpr ⟨b2,b4⟩)
 ·exact q one 999 b1 b2 (Int.le_refl _)
 ·exact q 1 one (Int.le_refl _) b1 b2
 ·exact q 1 999 (by decide) (by decide) (Int.le_refl _)
 ·exact q _ _ (Int.le_min.mpr ⟨by decide,Int.le_trans b1 (Int.le_of_lt (Int.lt_succ one))⟩) (Int.le_refl _) (Int.min_le_left ..)
end
end
section
section
variable {C:Cx} [HM C] [NF C] {d:Nat} {σ:Sto} {Q:V->Sto->Prop}
noncomputable def msV(mss:List (List Int)):List V:=mss.map λms=>V.lst (ms.map V.int)
structure MsOk(mss:List (List Int)):Prop where
 lo:0<mss.length
 hi:mss.length<=12
 each:∀ms∈mss,0<ms.length/\ms.length<=8/\∀i∈ms,1<=i/\i<=999
 nd:∀ms∈mss,ms.Nodup
theorem z5h{l:List V}{b:Nat}(h:(l.all λx=>match x with| .int k=>decide (0<=k)&&decide (k<=(b:Int))|_=>false)=true):∀X∈l,∃n:Nat,X= .int (n:Int)/\n<=b:=λX hX=>by
 have:=List.all_eq_true.mp h X hX
 cases X with
 |int k=>
  simp at this
  obtain⟨n,rfl⟩:=Int.eq_ofNat_of_zero_le this.1
  exact⟨n,rfl,Int.ofNat_le.mp this.2⟩
 |_=>cases this
theorem y3J{mss:List (List Int)}(h:MsOk mss){K:V->Sto->Prop}{x:Int}(h0:0<=x)(h1:x<=mss.length)(q:∀ms:List Int,0<ms.length->ms.length<=20->(∀i∈ms,1<=i/\i<=999)->K (.lst (ms.map V.int)) σ):
  SubR C d (.lst (msV mss++[.lst [.int 5]])) (.int x) σ K:=by
 have hh:=h.hi
 refine z33 h0 (by simp[msV];lia) (by simp[msV];lia) λX hX=> ?_
 rcases List.mem_append.mp hX with hX|hX
 ·apply z0l hX;intro ms hm
  have:=h.each ms hm
  exact q ms this.1 (by lia) this.2.2
 ·rw[List.mem_singleton.mp hX]
  exact q [5] (by decide) (by decide) λi hi=>by simp at hi;lia
noncomputable def z3A(r1:Expr):TC:=⟨[.asgL 5,.loc 0,.loc 4,.call (.ref 283) 2,.asg 6,.psh (.int 0),.psh (.int 1),.psh (.int 1),.psh (.int 2),.psh (.int 2),.psh (.int 6),.lst 6,.loc 6,.psh (.int 6),.binc .Mod,.sub,.forR 7 [.loc 0,.loc 4,.psh (.int 1),.binc .Add,.loc 7,.binc .Add,.call (.ref 283) 2,.asg 8,.loc 3,.psh (.int 1),.binc .Add,.loc 6,.psh (.int 6),.binc .FloorDiv,.loc 7,.binc .Add,.psh (.int 1),.loc 2,.len,.psh (.int 1),.binc .Sub,.call (.bi "max") 2,.binc .Mod,.binc .Add,.loc 2,.len,.binc .Mod,.asg 9,.cut [.loc 8,.psh (.int 12),.binc .Mod,.psh (.int 5),.tcmpc .Eq,.ife [.loc 2,.len,.asg 9] []],.loc 9,.loc 3,.tcmpc .NotEq,.mop .And [.loc 1,.loc 9,.sub,.raw r1,.tcmpc .NotIn,.mop .And [.psh (.bool true)]],.ife [.loc 8,.psh (.int 12),.binc .FloorDiv,.loc 2,.psh (.int 5),.lst 1,.lst 1,.binc .Add,.loc 9,.sub,.call (.ref 295) 2,.asg2 10 11,.loc 5,.mty "list",.loc 1,.loc 9,.sub,.loc 10,.loc 11,.tup 3,.meth (.bi "list.append") 1,.pop] []],.loc 5,.ret],[.inr r1],[([2,0,3],some [1,1])]⟩
--z3A 1
structure NsI(w:Str)(ns:List z0c):Prop where
 ok:∀n∈ns,NeedOk n
 ne:∀n∈ns,n.1≠w
 nd:(ns.map (·.1)).Nodup
theorem NsI.nil{w:Str}:NsI w []:=⟨(λ_ h=>by cases h),(λ_ h=>by cases h),List.nodup_nil⟩
theorem NsI.add{w nm:Str}{ns:List z0c}{lo hi:Int}(h:NsI w ns)(ok:NeedOk (nm,lo,hi))(hw:nm≠w)(hn:(ns.map (·.1)).any (·==nm)=false):NsI w (ns++[(nm,lo,hi)]):=by
 have hm:∀n∈ns++[(nm,lo,hi)],n∈ns∨n=(nm,lo,hi):=λn hn=>(List.mem_append.mp hn).imp id List.mem_singleton.mp
 refine⟨λn hn=> ?_,λn hn=> ?_,?_⟩
 ·rcases hm n hn with h'|rfl
  ·exact h.ok n h'
  ·exact ok
 ·rcases hm n hn with h'|rfl
  ·exact h.ne n h'
  ·exact hw
 ·rw[List.map_append]
  refine List.nodup_append.mpr ⟨h.nd,List.nodup_cons.mpr ⟨List.not_mem_nil,List.nodup_nil⟩,λx hx y hy e=> ?_⟩
  rw[List.mem_singleton.mp hy] at e
  exact List.any_eq_false.mp hn x hx (beq_iff_eq.mpr e)
inductive NdI(a0 a1 a2 a3 a4 a6:V)(a:Addr)(w:Str)(σ:Sto)(i:Nat):Loc->Sto->Prop
 |mk {o:Obj} {ns:List z0c} {o1 o2 o3 o4 o5:Option V}:ns.length<=i->NsI w ns->NdI a0 a1 a2 a3 a4 a6 a w σ i [some a0,some a1,some a2,some a3,some a4,some (.ref a),some a6,o1,o2,o3,o4,o5] ((a,o,.list (ns.map z0g))::σ)
set_option tactic.hygienic true in
theorem z6w(H:G1 C){xs:List Int}{ws:List Str}{mka:Addr}{mss:List (List Int)}{w:Str}{k:Nat}{at_:Int}(hx:xs.length<=100)(hmk:At σ mka (.list (msV mss)))(hms:MsOk mss)(hwl:ws.length=mss.length+1)(hw:∀x∈ws,Ware x)(hwn:ws.Nodup)
  (h1:k<mss.length) (hkw:ws[k]? =some w) (a0:0<=at_) (a1:at_<900) (q:∀ns,NeedsOk w ns->Q (.lst (ns.map z0g)) σ):
  CW C (d+3) (.ref 300) [.lst (xs.map V.int),.lst (ws.map V.str),.ref mka,.int (k:Int),.int at_] σ Q:=by
 refine z1e ?_
 refine z0D (G1.kin (by assumption)) ["_law_script","_law_names_here","_law_makes","_law_k","_law_at","_law_found","_law_first","_law_turn","_law_number","_law_other","_law_low","_law_high"] [("_law_mixed",.ref 283),("range",.type "range"),("max",.bi "max"),("len",.bi "len"),("_law_stretch",.ref 295)] (by kernel_rfl) (vs5 λ_ _ _ _ _=>by kernel_rfl) rfl (z0a (z1m (by assumption)) (z0a (z2i (by assumption)) (z0a (y2D (by assumption)) (z0a (z0Q (by assumption)) (z0a (z2H (by assumption)) GL_nil))))) ?_
 intro env hsc
 have hhi:=hms.hi
 obtain⟨omk,hmm⟩:=hmk
 have hml:(msV mss).length=mss.length:=List.length_map _
 have hmz:(msV mss).length<=sizeLine:=z0x (by rw[hml];exact Nat.le_trans hhi (by decide))
 have hmz2:(msV mss).length+1<=sizeLine:=z0x (by rw[hml];exact Nat.le_trans (Nat.succ_le_succ hhi) (by decide))
 have hM:(0:Int)<max 1 ((mss.length:Int)-1):=Int.lt_of_lt_of_le (by decide) (Int.le_max_left ..)
 have hL:(0:Int)<(mss.length:Int):=Int.ofNat_lt.mpr (Nat.zero_lt_of_lt h1)
 refine z0e (z0o H) (z0n H) (z3A _) (by exact rfl) (by kernel_rfl) ?_
 intro F m0 a o hf
 refine Leaf.mk (fnc (z0C H hx a0 (Int.lt_trans a1 (by decide)) λfst b0 b1=> ?_))
 clear b0 b1
 refine Leaf.mk (z33 (Int.fmod_nonneg_of_pos _ (by decide)) (Int.fmod_lt_of_pos _ (by decide)) (by decide) λX hX=> ?_)
 obtain⟨cnt,rfl,c1⟩:∃cnt:Nat,X= .int (cnt:Int)/\cnt<=6:=z5h (by decide) X hX
 clear hX
 refine Leaf.mk (.mk cnt (NdI (.lst (xs.map V.int)) (.lst (ws.map V.str)) (.ref mka) (.int (k:Int)) (.int at_) (.int fst) a w σ) rfl (Nat.le_trans c1 (by decide)) (.mk (ns:=[]) (Nat.le_refl _) .nil) (λi hi m τ hI QB hQB _=> ?_) λm τ hI=> ?_)
 ·have hi6:i<6:=Nat.lt_of_lt_of_le hi c1
  refine hI.casesOn @λo ns o1 o2 o3 o4 o5 hnl hns=> ?_
  have hnz:(ns.map z0g).length<=sizeLine:=z0A (Nat.le_trans hnl (Nat.le_of_lt hi6)) (by decide)
  refine Leaf.mk (fnc (z0C H hx (by lia) (by lia) λnum b2 b3=> ?_))
  clear b2 b3
  repeat' refine Leaf.mk ?_
  refine z0E (.refL (.tail _ hmm)) hml hmz ?_
  repeat' (refine Leaf.mk ?_;with_reducible refine z90 ?_)
  refine z6r hM ?_
  refine Leaf.mk (z0E (.refL (.tail _ hmm)) hml hmz ?_)
  refine z1U (Nat.zero_lt_of_lt h1) λot0 t1=> ?_
  refine z39 (α:=Nat) (λot=>ot<=mss.length) (λot=>[some (.lst (xs.map V.int)),some (.lst (ws.map V.str)),some (.ref mka),some (.int (k:Int)),some (.int at_),some (.ref a),some (.int fst),some (.int (i:Int)),some (.int num),some (.int (ot:Int)),o4,o5]) ((a,o,.list (ns.map z0g))::σ) (λK hK _=> ?_) λot hot=> ?_
  ·repeat' first|(refine z02 (λ_=> ?_) (λ_=> ?_)<;>try (exfalso;rename_i hb;revert hb;simp[V.isNone];done))|refine Leaf.mk ?_
   ·refine z0E (.refL (.tail _ hmm)) hml hmz ?_
    exact hK _ (Nat.le_refl _)
   ·exact hK _ (Nat.le_of_lt t1)
  clear t1 ot0 hM hL
  have hno:QB .next [some (.lst (xs.map V.int)),some (.lst (ws.map V.str)),some (.ref mka),some (.int (k:Int)),some (.int at_),some (.ref a),some (.int fst),some (.int (i:Int)),some (.int num),some (.int (ot:Int)),o4,o5] ((a,o,.list (ns.map z0g))::σ):=hQB _ _ (.mk (Nat.le_succ_of_le hnl) hns)
  by_cases hb:ot=k
  ·subst hb
   exact z0z (by rw[decide_eq_true rfl];rfl) hno
  have hoi:ot<ws.length:=by rw[hwl];exact Nat.lt_succ_of_le hot
  have ho4:ot<1000:=Nat.lt_of_le_of_lt hot (Nat.lt_of_le_of_lt hhi (by decide))
  obtain⟨nm,hnm⟩:∃nm,ws[ot]? =some nm:=⟨_,List.getElem?_eq_getElem hoi⟩
  have hnw:nm≠w:=λe=>hb (by
   subst e
   obtain⟨p1,p2⟩:=List.getElem?_eq_some_iff.mp hnm
   obtain⟨p3,p4⟩:=List.getElem?_eq_some_iff.mp hkw
   exact(List.getElem_inj hwn).mp (p2.trans p4.symm))
  have hom:=hw nm (List.mem_of_getElem? hnm)
  have hotV:=z1b (f:=V.str) hnm
  refine z18 (by rw[decide_eq_false (λe:(ot:Int)=(k:Int)=>hb (Int.ofNat.inj e))];rfl) ?_
  clear hb hnm hw hwn hkw hoi hwl
  refine Leaf.mk (z0U (.lst _) ho4 hotV ?_)
  refine Leaf.mk ?_
  show AT C env ["_law_script","_law_names_here","_law_makes","_law_k","_law_at","_law_found","_law_first","_law_turn","_law_number","_law_other","_law_low","_law_high"] _ true _ (eval _ env) [some (.lst (xs.map V.int)),some (.lst (ws.map V.str)),some (.ref mka),some (.int (k:Int)),some (.int at_),some (.ref a),some (.int fst),some (.int (i:Int)),some (.int num),some (.int (ot:Int)),o4,o5] _ _
  refine z0P "_law_need" [] [] (by rw[hsc];kernel_rfl) GL_nil .nil (z0J ?_)
  with_reducible refine z0k ?_
  refine⟨_,_,.refL (.head _),hnz,λenv' he=>z1s (f:=fstV) (z0m he (by decide+kernel)) (.head _) _ _ _ (λX hX K hK=> ?_) ?_⟩
  ·obtain⟨n,_,rfl⟩:=List.mem_map.mp hX
   unfold z0g at hK⊢
   repeat' with_reducible first|refine z0k ?_|refine z0O ?_|refine z0W ?_|refine z2w (by with_unfolding_all decide) (by with_unfolding_all decide) (by with_unfolding_all exact rfl) ?_
   exact hK
  rw[List.nil_append,show(ns.map z0g).map fstV=(ns.map (·.1)).map V.str by rw[List.map_map,List.map_map];rfl]
  clear hsc
  refine Leaf.mk (z3x (.lst _) ?_)
  cases hin:(ns.map (·.1)).any (·==nm) with
  |true=>exact z0j hno
  |false=>
   refine z0j ?_
   repeat' refine Leaf.mk ?_
   refine z28 (.refL (.tail _ hmm)) (.lst _) hmz2 (z45 ?_)
   refine Leaf.mk (y3J hms (Int.natCast_nonneg _) (Int.ofNat_le.mpr hot) λms m0 m1 m2=> ?_)
   refine Leaf.mk (fnc (z2J H m0 m1 m2 λlo hi u0 u1 u2=> ?_))
   repeat' first|(refine Leaf.mk ?_;with_reducible refine⟨tyL At.hd,?_⟩)|refine Leaf.mk ?_
   refine z0U (.lst _) ho4 hotV ?_
   repeat' refine Leaf.mk ?_
   refine z2C hnz (λo'=> ?_)
   refine hQB _ _ ?_
   have:=NdI.mk (a0:= .lst (xs.map V.int)) (a1:= .lst (ws.map V.str)) (a2:= .ref mka) (a3:= .int (k:Int)) (a4:= .int at_) (a6:= .int fst) (a:=a) (σ:=σ) (o:=o') (ns:=ns++[(nm,lo,hi)]) (o1:=some (.int (i:Int))) (o2:=some (.int num)) (o3:=some (.int (ot:Int))) (o4:=some (.int lo)) (o5:=some (.int hi)) (i:=i+1) (by rw[List.length_append];exact Nat.succ_le_succ hnl) (hns.add ⟨hom,u0,u1,u2⟩ hnw hin)
   rw[List.map_append] at this
   exact this
 ·cases hI with
  | @mk o ns o1 o2 o3 o4 o5 hnl hns=>exact⟨a,o,_,σ,rfl,rfl,q ns ⟨Nat.le_trans hnl c1,hns.ok,hns.ne,hns.nd⟩⟩
end
end
section
section
variable {C:Cx} [HM C] [NF C] {d:Nat} {σ:Sto} {Q:V->Sto->Prop}
theorem z06{α β:Type}{f:α->β}:∀{l:List α},(l.map f).Nodup->∀{x y:α},x∈l->y∈l->f x=f y->x=y
 |a::l,h,x,y,hx,hy,e=>by
  have h':=List.nodup_cons.mp h
  rcases List.mem_cons.mp hx with hx|hx
  ·rcases List.mem_cons.mp hy with hy|hy
   ·rw[hx,hy]
   ·exact absurd (List.mem_map.mpr ⟨y,hy,by rw[<-e,hx]⟩) h'.1
  ·rcases List.mem_cons.mp hy with hy|hy
   ·exact absurd (List.mem_map.mpr ⟨x,hx,by rw[e,hy]⟩) h'.1
   ·exact z06 h'.2 hx hy e
theorem z1r{α:Type}{l:List α}{x:α}(h:l.Nodup)(hx:x∉l):(l++[x]).Nodup:=
 List.nodup_append.mpr ⟨h,List.nodup_cons.mpr ⟨List.not_mem_nil,List.nodup_nil⟩,λa ha b hb=>by
  rw[List.mem_singleton.mp hb];rintro rfl;exact hx ha⟩
structure EsOk(w:Str)(l:List (Int×List z0c)):Prop where
 nd:(l.map (·.1)).Nodup
 len:l.length<=8
 mb:∀p∈l,1<=p.1/\p.1<=999
 nok:∀p∈l,NeedsOk w p.2
theorem EsOk.nil{w:Str}:EsOk w []:=⟨List.nodup_nil,by decide,(λp h=>by cases h),λp h=>by cases h⟩
theorem EsOk.filter{w:Str}{l:List (Int×List z0c)}(h:EsOk w l)(f:Int×List z0c->Bool):EsOk w (l.filter f):=
 ⟨((List.filter_sublist).map _).nodup h.nd,Nat.le_trans (List.length_filter_le _ _) h.len,λp hp=>h.mb p (List.mem_filter.mp hp).1,λp hp=>h.nok p (List.mem_filter.mp hp).1⟩
theorem EsOk.add{w:Str}{l:List (Int×List z0c)}(h:EsOk w l){mk:Int}{ns:List z0c}(hn:mk∉l.map (·.1))(hl:l.length<8)(h1:1<=mk)(h2:mk<=999)(h6:NeedsOk w ns):EsOk w (l++[(mk,ns)]):=by
 refine⟨by rw[List.map_append];exact z1r h.nd hn,by simp;lia,λp hp=> ?_,λp hp=> ?_⟩
 ·rcases List.mem_append.mp hp with e|e
  ·exact h.mb p e
  ·rw[List.mem_singleton.mp e];exact⟨h1,h2⟩
 ·rcases List.mem_append.mp hp with e|e
  ·exact h.nok p e
  ·rw[List.mem_singleton.mp e];exact h6
noncomputable def z1p(es:Str->List (Int×List z0c))(w:Str)(l:List (Int×List z0c)):Str->List (Int×List z0c):=λv=>if v=w then l else es v
theorem z0w(es:Str->List (Int×List z0c))(w:Str)(l:List (Int×List z0c)):z1p es w l w=l:=by simp[z1p]
theorem z0H{es:Str->List (Int×List z0c)}{w v:Str}{l:List (Int×List z0c)}(h:v≠w):z1p es w l v=es v:=by simp[z1p,h]
theorem z3T(es:Str->List (Int×List z0c))(w:Str)(l l':List (Int×List z0c)):z1p (z1p es w l) w l'=z1p es w l':=by
 funext v
 by_cases e:v=w
 ·rw[e,z0w,z0w]
 ·rw[z0H e,z0H e,z0H e]
theorem z8e{es:Str->List (Int×List z0c)}{w:Str}{l:List (Int×List z0c)}(h:es w=l):z1p es w l=es:=by
 funext v
 by_cases e:v=w
 ·rw[e,z0w,h]
 ·rw[z0H e]
structure Rw(σ:Sto)(ro:Addr)(rv:List (Str×Addr))(es:Str->List (Int×List z0c)):Prop where
 rows:At σ ro (dS (kvV rv))
 rin:∀p∈rv,At σ p.2 (dI (esV (es p.1)))
 rwn:(rv.map (·.1)).Nodup
 rl:rv.length<=12
 wok:∀p∈rv,Ware p.1
 out:∀w,w∉rv.map (·.1)->es w=[]
 eok:∀w,EsOk w (es w)
 sep:(ro::rv.map (·.2)).Nodup
variable {ro:Addr} {rv:List (Str×Addr)} {es:Str->List (Int×List z0c)}
theorem Rw.frame{σ':Sto}(S:Rw σ ro rv es)(h:∀a∈ro::rv.map (·.2),∀x,At σ a x->At σ' a x):Rw σ' ro rv es:=
 {S with rows:=h _ (.head _) _ S.rows,rin:=λp hp=>h _ (.tail _ (List.mem_map.mpr ⟨p,hp,rfl⟩)) _ (S.rin p hp)}
theorem Rw.ne(S:Rw σ ro rv es){p:Str×Addr}(h:p∈rv):p.2≠ro:=λe=>(List.nodup_cons.mp S.sep).1 (e▸List.mem_map.mpr ⟨p,h,rfl⟩)
theorem Rw.set(S:Rw σ ro rv es){σ':Sto}{w:Str}{b:Addr}{l:List (Int×List z0c)}(hb:(w,b)∈rv)(ok:EsOk w l)(U:UpdS σ σ' b (dI (esV l))):Rw σ' ro rv (z1p es w l):=by
 refine{S with rows:=U.at S.rows (S.ne hb).symm,rin:=λp hp=> ?_,out:=λv hv=> ?_,eok:=λv=> ?_}
 ·by_cases e:p.1=w
  ·have:p=(w,b):=z06 S.rwn hp hb e
   subst this;rw[z0w];exact U.here
  ·rw[z0H e]
   exact U.at (S.rin p hp) λe2=>e (by rw[z06 (List.nodup_cons.mp S.sep).2 hp hb e2])
 ·rw[z0H (λe=>hv (by rw[e];exact List.mem_map.mpr ⟨_,hb,rfl⟩))];exact S.out v hv
 ·by_cases e:v=w
  ·subst e;rw[z0w];exact ok
  ·rw[z0H e];exact S.eok v
theorem Rw.add(S:Rw σ ro rv es){σ':Sto}{w:Str}{b:Addr}{o:Obj}(hw:Ware w)(hn:w∉rv.map (·.1))(hl:rv.length<12)(hf:Fresh σ b)(U:UpdS ((b,o,dI [])::σ) σ' ro (dS (kvV (rv++[(w,b)])))):Rw σ' ro (rv++[(w,b)]) es:=by
 have hr:b≠ro:=(hf.ne S.rows).symm
 have mem:∀p∈rv++[(w,b)],p∈rv∨p=(w,b):=λp hp=>by simpa using hp
 refine⟨U.here,λp hp=> ?_,by rw[List.map_append];exact z1r S.rwn hn,by simp;lia,λp hp=> ?_,λv hv=>S.out v λh=>hv (by rw[List.map_append];exact List.mem_append_left _ h),S.eok,?_⟩
 ·rcases mem p hp with h|rfl
  ·exact U.at ((S.rin p h).cons _) (S.ne h)
  ·rw[S.out w hn];exact U.at At.hd hr
 ·rcases mem p hp with h|rfl
  ·exact S.wok p h
  ·exact hw
 ·rw[List.map_append]
  refine z1r (l:=ro::rv.map (·.2)) S.sep λh=> ?_
  rcases List.mem_cons.mp h with h|h
  ·exact hr h
  ·obtain⟨p,hp,e⟩:=List.mem_map.mp h
   exact hf.ne (S.rin p hp) e
theorem Rw.at(S:Rw σ ro rv es){w:Str}(h:w∈rv.map (·.1)):∃b,(w,b)∈rv/\vAt (kvV rv) w=some (.ref b)/\At σ b (dI (esV (es w))):=by
 apply z0l h;intro p hp
 exact⟨p.2,hp,z0B (by rw[z0t];exact S.rwn) (List.mem_map.mpr ⟨p,hp,rfl⟩),S.rin p hp⟩
noncomputable def y2u(f s:Int):V->V
 | .int j=> .int (f+j*s)
 |v=>v
noncomputable def z34(r1:Expr):TC:=⟨[.psh (.int 1),.loc 0,.psh (.int 0),.call (.ref 283) 2,.loc 1,.binc .Mod,.binc .Add,.asg 3,.loc 0,.loc 3,.psh (.int 1),.binc .Add,.call (.ref 288) 2,.asg 4,.asgL 5,.loc 3,.forR 6 [.loc 0,.psh (.int 10),.loc 6,.binc .Add,.call (.ref 283) 2,.asg 7,.psh (.int 1),.psh (.int 999),.psh (.int 3),.loc 2,.binc .Mult,.binc .Sub,.psh (.int 1),.loc 7,.psh (.int 12),.binc .FloorDiv,.psh (.int 900),.binc .Mod,.binc .Add,.psh (.int 1),.loc 7,.psh (.int 12),.binc .FloorDiv,.psh (.int 20),.binc .Mod,.binc .Add,.lst 4,.loc 7,.psh (.int 4),.binc .Mod,.sub,.asg 8,.loc 5,.mty "list",.raw r1,.meth (.bi "list.append") 1,.pop],.asgD 9,.loc 3,.forR 6 [.dic,.loc 9,.loc 4,.loc 6,.sub,.setI,.loc 5,.loc 6,.sub,.len,.forR 10 [.loc 0,.loc 4,.loc 5,.loc 6,.psh (.int 20),.psh (.int 9),.loc 6,.binc .Mult,.binc .Add,.psh (.int 3),.loc 10,.binc .Mult,.binc .Add,.call (.ref 300) 5,.loc 9,.loc 4,.loc 6,.sub,.sub,.loc 5,.loc 6,.sub,.loc 10,.sub,.setI]],.loc 9,.ret],[.inr r1],[([3,0,2],some [1])]⟩
--z34 1
structure MkOk(mm:Nat)(ms:List Int):Prop where
 lo:0<ms.length
 hi:ms.length<=mm
 mb:∀i∈ms,1<=i/\i<=999
 nd:ms.Nodup
theorem y09{f st:Int}{c mm:Nat}(g0:1<=f)(g1:f<=999-3*(mm:Int))(hc:0<c)(hcm:c<=mm)(e0:0<=st)(e1:st<3):∃ms:List Int,(z1j 0 1 c).map (y2u f (1+st))=ms.map V.int/\MkOk mm ms:=by
 have h3:st=0∨st=1∨st=2:=by lia
 refine⟨(List.range c).map λj:Nat=>f+(j:Int)*(1+st),by rw[z3P,List.map_map,List.map_map];rfl,by rw[List.length_map,List.length_range];exact hc,by rw[List.length_map,List.length_range];exact hcm,λx hx=> ?_,z1B λa b _ _ e=> ?_⟩
 ·apply z0l hx;intro j hj
  have hj:=List.mem_range.mp hj
  clear hx
  rcases h3 with rfl|rfl|rfl<;>constructor<;>lia
 ·rcases h3 with rfl|rfl|rfl<;>lia
theorem y0R{n:Int}{mm:Nat}(h1:1<=mm)(h8:mm<=8):∀X∈[V.int 1,.int (999-3*(mm:Int)),.int (1+(n.fdiv 12).fmod 900),.int (1+(n.fdiv 12).fmod 20)],∃f,X= .int f/\1<=f/\f<=999-3*(mm:Int):=by
 have d0:=Int.fmod_nonneg_of_pos (n.fdiv 12) (show(0:Int)<900 by decide)
 have d1:=Int.fmod_lt_of_pos (n.fdiv 12) (show(0:Int)<900 by decide)
 have d2:=Int.fmod_nonneg_of_pos (n.fdiv 12) (show(0:Int)<20 by decide)
 have d3:=Int.fmod_lt_of_pos (n.fdiv 12) (show(0:Int)<20 by decide)
 refine List.forall_mem_cons.mpr ⟨⟨_,rfl,by decide,by lia⟩,List.forall_mem_cons.mpr ⟨⟨_,rfl,by lia,Int.le_refl _⟩,List.forall_mem_cons.mpr ⟨⟨_,rfl,by lia,by lia⟩,List.forall_mem_cons.mpr ⟨⟨_,rfl,by lia,by lia⟩,λ_ h=>by cases h⟩⟩⟩⟩
structure RwNew(mm:Nat)(σ σ':Sto)(ro:Addr)(rv:List (Str×Addr))(es:Str->List (Int×List z0c)):Prop where
 rw_:Rw σ' ro rv es
 ne:∀p∈rv,es p.1≠[]/\(es p.1).length<=mm
 lo:0<rv.length
 fr:Fresh σ ro/\∀p∈rv,Fresh σ p.2
 keep:∀p∈σ,p∈σ'
inductive MkI(a0 a1 a2 a3 a4:V)(mka:Addr)(mm:Nat)(σ:Sto)(i:Nat):Loc->Sto->Prop
 |mk {o:Obj} {mss:List (List Int)} {k num fst:Option V}:mss.length=i->(∀ms∈mss,MkOk mm ms)->MkI a0 a1 a2 a3 a4 mka mm σ i [some a0,some a1,some a2,some a3,some a4,some (.ref mka),k,num,fst,none,none] ((mka,o,.list (msV mss))::σ)
inductive RwI(a0 a1 a2 a3 a4 a5:V)(num fst:Option V)(ro:Addr)(ws:List Str)(mm:Nat)(σ1:Sto)(i:Nat):Loc->Sto->Prop
 |mk {rv:List (Str×Addr)} {es:Str->List (Int×List z0c)} {k j:Option V} {τ:Sto}:Rw τ ro rv es->rv.map (·.1)=ws.take i->(∀p∈rv,es p.1≠[]/\(es p.1).length<=mm)->(∀p∈rv,Fresh σ1 p.2)->(∀p∈σ1,p∈τ)->RwI a0 a1 a2 a3 a4 a5 num fst ro ws mm σ1 i [some a0,some a1,some a2,some a3,some a4,some a5,k,num,fst,some (.ref ro),j] τ
inductive RjI(a0 a1 a2 a3 a4 a5 a6:V)(num fst:Option V)(ro:Addr)(rv:List (Str×Addr))(es:Str->List (Int×List z0c))(w:Str)(ms:List Int)(σ1:Sto)(jj:Nat):Loc->Sto->Prop
 |mk {l:List (Int×List z0c)} {j:Option V} {τ:Sto}:Rw τ ro rv (z1p es w l)->l.map (·.1)=ms.take jj->(∀p∈σ1,p∈τ)->RjI a0 a1 a2 a3 a4 a5 a6 num fst ro rv es w ms σ1 jj [some a0,some a1,some a2,some a3,some a4,some a5,some a6,num,fst,some (.ref ro),j] τ
theorem z65(H:G1 C){xs:List Int}{most mm:Nat}(hx:xs.length<=100)(h0:0<most)(h1:most<=12)(m1:1<=mm)(m8:mm<=8)
  (q:∀ro rv es σ',RwNew mm σ σ' ro rv es->rv.length<=most->Q (.ref ro) σ'):
  CW C (d+4) (.ref 305) [.lst (xs.map V.int),.int (most:Int),.int (mm:Int)] σ Q:=by
 refine z0D (G1.kin (by assumption)) ["_law_script","_law_most","_law_many_makes","_law_many","_law_names_here","_law_makes","_law_k","_law_number","_law_first","_law_rows_here","_law_j"] [("_law_mixed",.ref 283),("_law_names",.ref 288),("range",.type "range"),("len",.bi "len"),("_law_needs",.ref 300)] (by kernel_rfl) (vs3 λ_ _ _=>by kernel_rfl) rfl (z0a (z1m (by assumption)) (z0a (z3p (by assumption)) (z0a (z2i (by assumption)) (z0a (z0Q (by assumption)) (z0a (z5V (by assumption)) GL_nil))))) ?_
 intro env hsc
 refine z0e (z0o H) (z0n H) (z34 _) (by exact rfl) (by kernel_rfl) ?_
 intro F m0
 refine Leaf.mk (fnc (z0C H hx (by decide) (by decide) λn0 b0 b1=> ?_))
 clear b0 b1
 refine z1U h0 λr0 hr0=> ?_
 have hrm:1+r0<=most:=Nat.add_comm 1 r0▸hr0
 have hr1:0<1+r0:=Nat.add_comm 1 r0▸Nat.succ_pos r0
 have hr2:=Nat.le_trans hrm h1
 have hrk:1+r0<=1000:=Nat.le_trans hr2 (by decide)
 refine Leaf.mk (fnc (z3L H (n:=1+r0+1) hx (Nat.le_trans (Nat.succ_le_succ hr2) (by decide)) λws wl hw hwn=> ?_))
 intro mka omk hfm
 refine Leaf.mk (.mk (1+r0) (MkI (.lst (xs.map V.int)) (.int (most:Int)) (.int (mm:Int)) (.int ((1+r0:Nat):Int)) (.lst (ws.map V.str)) mka mm σ) rfl hrk (.mk (mss:=[]) rfl λ_ h=>by cases h) (λi hi m τ hI QB hQB _=> ?_) λm τ hI=> ?_)
 ·clear q
  refine hI.casesOn @λo mss k num fst hml hms=> ?_
  have hi12:i<12:=Nat.lt_of_lt_of_le hi hr2
  refine Leaf.mk (fnc (z0C H (k:=((10+i:Nat):Int)) hx (Int.natCast_nonneg _) (Int.ofNat_lt.mpr (Nat.lt_trans (Nat.add_lt_add_left hi12 10) (by decide))) λn c0 c1=> ?_))
  clear c0 c1
  repeat' first|(refine Leaf.mk ?_;with_reducible refine z3c ?_ (IntMulOk.of_left (by with_unfolding_all decide)))|refine Leaf.mk ?_|fail
  refine z33 (Int.fmod_nonneg_of_pos _ (by decide)) (Int.fmod_lt_of_pos _ (by decide)) (show 4<2^40 by decide) λX hX=> ?_
  obtain⟨f,rfl,g0,g1⟩:=y0R (n:=n) m1 m8 X hX
  clear hX
  have e0:=Int.fmod_nonneg_of_pos (n.fdiv 24) (show(0:Int)<3 by decide)
  have e1:=Int.fmod_lt_of_pos (n.fdiv 24) (show(0:Int)<3 by decide)
  have hmp:(0:Int)<(mm:Int):=Int.ofNat_lt.mpr m1
  have hmz:(mm:Int)≠0:=Int.ne_of_gt hmp
  obtain⟨c,hc⟩:=Int.eq_ofNat_of_zero_le (Int.fmod_nonneg_of_pos (n.fdiv 72) hmp)
  have hcm:1+c<=mm:=Nat.add_comm 1 c▸Int.ofNat_lt.mp (hc▸Int.fmod_lt_of_pos (n.fdiv 72) hmp)
  obtain⟨ms,hme,hmo⟩:=y09 g0 g1 (Nat.add_comm 1 c▸Nat.succ_pos c) hcm e0 e1
  have hmo1:∀j:Int,IntMulOk j (1+(n.fdiv 24).fmod 3):=λj=>z3E (by lia)
  have hck:1+c<=1000:=Nat.le_trans hcm (Nat.le_trans m8 (by decide))
  clear e0 e1 g0 g1
  repeat' first|(refine Leaf.mk ?_;with_reducible refine⟨tyL At.hd,?_⟩)|refine Leaf.mk ?_|fail
  show AT C env ["_law_script","_law_most","_law_many_makes","_law_many","_law_names_here","_law_makes","_law_k","_law_number","_law_first","_law_rows_here","_law_j"] _ true _ (eval _ env) [some (.lst (xs.map V.int)),some (.int (most:Int)),some (.int (mm:Int)),some (.int ((1+r0:Nat):Int)),some (.lst (ws.map V.str)),some (.ref mka),some (.int (i:Int)),some (.int n),some (.int f),none,none] _ _
  refine z0P "_law_j" ["_law_first","_law_number"] [] (by rw[hsc];kernel_rfl) GL_nil (.cons LkC.lk (.cons LkC.lk .nil)) (z2p ?_)
  repeat' with_reducible first|refine z0k ?_|refine z1k ?_|refine z0O ?_|refine z0I ?_|refine z1D ?_|refine z0s ?_|refine z0r ?_|refine z5G ?_|refine z5g ?_ (by with_reducible assumption)|refine z5l ?_ (by with_unfolding_all decide) (by with_unfolding_all decide)|refine z2z ?_|refine⟨z1i,?_⟩|fail
  rw[hc]
  refine⟨_,_,_,1+c,rfl,y0f hck,y1n (1+c),z0x (by rw[z1u];exact Nat.le_trans hck (by decide)),λenv' he=>z1s (f:=y2u f (1+(n.fdiv 24).fmod 3)) (z0m he (by decide+kernel)) trivial _ _ _ (λX hX K hK=> ?_) ?_⟩
  ·obtain⟨j,hj,rfl⟩:=z17 hX
   repeat' with_reducible first|refine z0k ?_|refine z0O ?_|refine z1D ?_|refine z5G ?_|refine z5g ?_ (by with_unfolding_all decide)|refine z5l ?_ (by with_unfolding_all decide) (by with_unfolding_all decide)|refine z3c ?_ ?_|fail
   all_goals first|exact hmo1 _|exact hK
  rw[List.nil_append,hme]
  refine Leaf.mk (z2C (z0x (by unfold msV;rw[List.length_map,hml];exact Nat.le_trans (Nat.le_of_lt hi12) (by decide))) λo'=> ?_)
  refine hQB _ _ ?_
  rw[show msV mss++[.lst (ms.map V.int)]=msV (mss++[ms]) by unfold msV;rw[List.map_append];rfl]
  exact .mk (by rw[List.length_append,hml];rfl) λx hx=>(List.mem_append.mp hx).elim (hms x) λh=>List.mem_singleton.mp h▸hmo
 refine hI.casesOn @λo mss k num fst hml hms=> ?_
 have hMs:MsOk mss:=⟨by rw[hml];exact hr1,by rw[hml];exact hr2,λms hm=>⟨(hms ms hm).lo,Nat.le_trans (hms ms hm).hi m8,(hms ms hm).mb⟩,λms hm=>(hms ms hm).nd⟩
 intro ro oro hfr
 have hmem:(mka,o,AO.list (msV mss))∈(mka,o,AO.list (msV mss))::σ:= .head _
 generalize hσ1:(mka,o,AO.list (msV mss))::σ=σ1 at hfr hmem⊢
 have hsub:∀p∈σ,p∈σ1:=λp hp=>by rw[<-hσ1];exact .tail _ hp
 clear hσ1 hfm
 refine Leaf.mk (.mk (1+r0) (RwI (.lst (xs.map V.int)) (.int (most:Int)) (.int (mm:Int)) (.int ((1+r0:Nat):Int)) (.lst (ws.map V.str)) (.ref mka) num fst ro ws mm σ1) rfl hrk (.mk (rv:=[]) (es:=λ_=>[]) ⟨At.hd,(λ_ h=>by cases h),List.nodup_nil,by decide,(λ_ h=>by cases h),(λ_ _=>rfl),(λ_=> .nil),List.nodup_cons.mpr ⟨List.not_mem_nil,List.nodup_nil⟩⟩ rfl (λ_ h=>by cases h) (λ_ h=>by cases h) λp hp=> .tail _ hp) (λi hi m τ hI QB hQB _=> ?_) λm τ hI=> ?_)
 ·clear q
  refine hI.casesOn @λrv es k j τ S hkeys hne hfp hkp=> ?_
  have hi12:i<12:=Nat.lt_of_lt_of_le hi hr2
  have hik:i<1000:=Nat.lt_trans hi12 (by decide)
  have hwi:i<ws.length:=by rw[wl];exact Nat.lt_succ_of_lt hi
  have hwnew:ws[i]∉rv.map (·.1):=by rw[hkeys];exact z3u hwn hwi
  have htk:ws.take (i+1)=ws.take i++[ws[i]]:=z7h hwi
  obtain⟨w,hwe⟩:∃w,ws[i]=w:=⟨_,rfl⟩
  rw[hwe] at hwnew htk
  have hwe:ws[i]? =some w:=by rw[List.getElem?_eq_getElem hwi,hwe]
  have hwm:w∈ws:=List.mem_of_getElem? hwe
  have hweV:=z1b (f:=V.str) hwe
  have hmi:i<mss.length:=by rw[hml];exact hi
  obtain⟨ms,hmse⟩:∃ms,mss[i]? =some ms:=⟨_,List.getElem?_eq_getElem hmi⟩
  have hmo:=hms ms (List.mem_of_getElem? hmse)
  have hmsV:(msV mss)[i]? =some (V.lst (ms.map V.int)):=z1b hmse
  have hkl:rv.length=i:=z4u hkeys (Nat.le_of_lt hwi)
  have hrn:((kvV rv).map (·.1)).Nodup:=by rw[z0t];exact S.rwn
  have hkz:(kvV rv).length<=sizeLine:=z0x (by unfold kvV;rw[List.length_map,hkl];exact Nat.le_trans (Nat.le_of_lt hi12) (by decide))
  intro b ob hfb
  refine Leaf.mk (z0U (.lst _) hik hweV ?_)
  refine Leaf.mk (y3u (S.rows.cons _) hrn hkz λτ1 U=> ?_)
  rw[z1N (by rw[z0t];exact hwnew),<-z8C] at U
  have S1:=S.add (hw w hwm) hwnew (hkl▸hi12) hfb U
  have hb1:(w,b)∈rv++[(w,b)]:=List.mem_append_right _ (.head _)
  have hkp1:∀p∈σ1,p∈τ1:=λp hp=>U.keep p (.tail _ (hkp p hp)) λe=>hfr p hp e
  have hbf:Fresh σ1 b:=λp hp=>hfb p (hkp p hp)
  have hout:=S.out w hwnew
  have hm8:ms.length<=8:=Nat.le_trans hmo.hi m8
  have hmz:(ms.map V.int).length<=sizeLine:=z0A hm8 (by decide)
  clear S U hfb hkp hrn hkz hkl hmse
  refine Leaf.mk (z0U (.refL (hkp1 _ hmem)) hik hmsV ?_)
  refine Leaf.mk (z0E (.lst _) (List.length_map _) hmz ?_)
  refine Leaf.mk (.mk ms.length (RjI (.lst (xs.map V.int)) (.int (most:Int)) (.int (mm:Int)) (.int ((1+r0:Nat):Int)) (.lst (ws.map V.str)) (.ref mka) (.int (i:Int)) num fst ro (rv++[(w,b)]) es w ms σ1) rfl (Nat.le_trans hm8 (by decide)) (.mk (l:=[]) (by rw[z8e hout];exact S1) rfl hkp1) (λjj hj m τ2 hI QB hQB' _=> ?_) λm τ2 hI=> ?_)
  ·clear hQB S1 hkp1 hne hfp htk
   refine hI.casesOn @λl j2 τ2 S2 hlk hkp2=> ?_
   have hj8:jj<8:=Nat.lt_of_lt_of_le hj hm8
   have hjk:jj<1000:=Nat.lt_trans hj8 (by decide)
   have hjnew:ms[jj]∉l.map (·.1):=by rw[hlk];exact z3u hmo.nd hj
   have hjt:ms.take (jj+1)=ms.take jj++[ms[jj]]:=z7h hj
   have hjm:=hmo.mb _ (List.getElem_mem hj)
   have hje:ms[jj]? =some ms[jj]:=List.getElem?_eq_getElem hj
   generalize ms[jj]=mk at hje hjm hjnew hjt
   have hjV:=z1b (f:=V.int) hje
   have hat:=S2.rin _ hb1
   have hlok:=S2.eok w
   rw[z0w] at hat hlok
   have hll:l.length=jj:=z4u hlk (Nat.le_of_lt hj)
   have hrn2:((kvV (rv++[(w,b)])).map (·.1)).Nodup:=by rw[z0t];exact S2.rwn
   have hrv2:vAt (kvV (rv++[(w,b)])) w=some (.ref b):=z0B hrn2 (List.mem_map.mpr ⟨_,hb1,rfl⟩)
   have hen:((esV l).map (·.1)).Nodup:=by rw[z0q];exact hlok.nd
   have hlz:(esV l).length<=sizeLine:=z0x (by unfold esV;rw[List.length_map,hll];exact Nat.le_trans (Nat.le_of_lt hj8) (by decide))
   have hro:=S2.rows
   repeat' first|(refine Leaf.mk ?_;with_reducible refine z3c ?_ (IntMulOk.of_left (by with_unfolding_all decide)))|refine Leaf.mk ?_|fail
   refine fnc (z6w H hx (at_:=((20+9*i+3*jj:Nat):Int)) ⟨_,hkp2 _ hmem⟩ hMs (by rw[wl,hml]) hw hwn hmi hwe (Int.natCast_nonneg _) (Int.ofNat_lt.mpr (show 20+9*i+3*jj<900 by lia)) λns hns=> ?_)
   refine Leaf.mk (z0U (.lst _) hik hweV ?_)
   refine Leaf.mk (z1F hro hrn2 hrv2 ?_)
   refine Leaf.mk (z0U (.refL (hkp2 _ hmem)) hik hmsV ?_)
   refine Leaf.mk (z0U (.lst _) hjk hjV ?_)
   refine Leaf.mk (z5M hat hen hlz λτ3 U3=> ?_)
   rw[z1N (by rw[z0q];exact hjnew),<-z56] at U3
   refine hQB' _ _ (.mk (l:=l++[(mk,ns)]) ?_ (by rw[List.map_append,hlk,hjt];rfl) λp hp=>U3.keep p (hkp2 p hp) (hbf p hp))
   rw[<-z3T es w l]
   exact S2.set hb1 (hlok.add hjnew (hll▸hj8) hjm.1 hjm.2 hns) U3
  ·refine hI.casesOn @λl j2 τ2 S2 hlk hkp2=> ?_
   rw[List.take_length] at hlk
   have hll:l.length=ms.length:=by rw[<-hlk,List.length_map]
   refine hQB _ _ (.mk (rv:=rv++[(w,b)]) S2 (by rw[List.map_append,hkeys,htk];rfl) (λp hp=> ?_) (λp hp=>(List.mem_append.mp hp).elim (hfp p) λh=>List.mem_singleton.mp h▸hbf) hkp2)
   rcases List.mem_append.mp hp with h|h
   ·rw[z0H (λe=>hwnew (by rw[<-e];exact List.mem_map.mpr ⟨p,h,rfl⟩))];exact hne p h
   ·rw[List.mem_singleton.mp h,z0w]
    exact⟨λe=>Nat.lt_irrefl 0 (by have:=hmo.lo;rw[<-hll,e] at this;exact this),by rw[hll];exact hmo.hi⟩
 ·refine hI.casesOn @λrv es k j τ S hkeys hne hfp hkp=> ?_
  have hkl:rv.length=1+r0:=z4u hkeys (by rw[wl];exact Nat.le_succ _)
  exact q ro rv es τ ⟨S,hne,by rw[hkl];exact hr1,⟨λp hp=>hfr p (hsub p hp),λp hp p' hp'=>hfp p hp p' (hsub p' hp')⟩,λp hp=>hkp p (hsub p hp)⟩ (by rw[hkl];exact hrm)
end
end
section
section
variable {C:Cx} [HM C] [NF C] {d:Nat} {σ:Sto} {Q:V->Sto->Prop} {ro:Addr} {rv:List (Str×Addr)} {es:Str->List (Int×List z0c)}
structure WishOk(wi:List z0c):Prop where
 len:wi.length<=8
 ok:∀n∈wi,NeedOk n
theorem y3o{xs:List V}(h1:0<xs.length)(hs:xs.length<2^40)(q:∀X∈xs,Q X σ):SubR C d (.lst xs) (.int (-1)) σ Q:=by
 have hl:(-1+(xs.length:Int)).toNat<xs.length:=by lia
 exact z8R (.lst _) (by decide) (by lia) (by decide) (List.getElem?_eq_getElem hl) (q _ (List.getElem_mem hl))
theorem y1k{l:List Int}{P:Int->Prop}(h:∀i∈l,P i):∀i∈z1g l,P i:=λi hi=>h i ((z01 l).mem_iff.mp hi)
theorem z7i(H:G1 C)(S:Rw σ ro rv es)(hne:∀p∈rv,es p.1≠[]/\(es p.1).length<=8){w:Str}(hw:w∈rv.map (·.1)):
  0<(z1g ((es w).map (·.1))).length/\(z1g ((es w).map (·.1))).length<=20/\∀i∈z1g ((es w).map (·.1)),1<=i/\i<=999:=by
 apply z0l hw;intro p hp
 have h:=hne p hp
 have hl:(z1g ((es p.1).map (·.1))).length=(es p.1).length:=by rw[(z01 _).length_eq,List.length_map]
 refine⟨by rw[hl];exact List.length_pos_iff.mpr h.1,by lia,y1k λi hi=> ?_⟩
 apply z0l hi;intro e he
 exact(S.eok p.1).mb e he
noncomputable def z4d(r1:Expr):TC:=⟨[.loc 1,.call (.type "list") 1,.loc 0,.loc 1,.len,.psh (.int 1),.binc .Add,.call (.ref 288) 2,.psh (.int 1),.una .USub,.psh .none,.psh .none,.slc,.sub,.binc .Add,.asg 3,.asgL 4,.loc 0,.psh (.int 170),.call (.ref 283) 2,.asg 5,.psh (.int 1),.loc 5,.psh (.int 9),.binc .FloorDiv,.loc 2,.binc .Mod,.binc .Add,.psh (.int 8),.psh (.int 0),.lst 3,.psh (.int 0),.psh (.int 0),.psh (.int 0),.psh (.int 0),.psh (.int 2),.psh (.int 0),.psh (.int 1),.psh (.int 0),.psh (.int 0),.lst 9,.loc 5,.psh (.int 9),.binc .Mod,.sub,.sub,.forR 6 [.loc 0,.psh (.int 171),.loc 6,.binc .Add,.call (.ref 283) 2,.asg 5,.loc 3,.loc 5,.loc 1,.len,.binc .Mod,.sub,.asg 7,.cut [.loc 5,.psh (.int 7),.binc .FloorDiv,.psh (.int 24),.binc .Mod,.psh (.int 5),.tcmpc .Eq,.ife [.loc 3,.psh (.int 1),.una .USub,.sub,.asg 7] []],.loc 5,.psh (.int 168),.binc .FloorDiv,.loc 1,.mty "dict",.loc 7,.raw r1,.meth (.bi "dict.get") 2,.call (.bi "sorted") 1,.call (.ref 295) 2,.asg2 8 9,.drp,.loc 4,.mty "list",.loc 7,.loc 8,.loc 9,.tup 3,.meth (.bi "list.append") 1,.pop],.loc 4,.ret],[.inr r1],[([3,0,3],some [2,1,2])]⟩
--z4d 1
theorem z9k(H:G1 C)(S:Rw σ ro rv es)(hne:∀p∈rv,es p.1≠[]/\(es p.1).length<=8){nm:Str}{b:Addr}{τ:Sto}(hk:∀a x,At σ a x->At τ a x)(hb:At τ b (.dict (z0Y (KK.int C.prog C.w) [(7,V.lst [])])))(q:∀ms:List Int,0<ms.length->ms.length<=20->(∀i∈ms,1<=i/\i<=999)->Q (.lst (ms.map V.int)) τ):KW C d (.bi "sorted") [(vAt (kvV rv) nm).getD (.ref b)] τ Q:=by
 by_cases hm:nm∈rv.map (·.1)
 ·obtain⟨b',hb',e,hat⟩:=S.at hm
  have hs:=z7i H S hne hm
  rw[e]
  refine z2E (kvs:=esV (es nm)) H.ns (hk _ _ hat) (by rw[z0q];exact(S.eok nm).nd) (by unfold esV;rw[List.length_map];exact Nat.lt_of_le_of_lt (hne _ hb').2 (by decide)) (.inl ?_)
  rw[z0q]
  exact q _ hs.1 hs.2.1 hs.2.2
 ·rw[z1E (by rw[z0t];exact hm)]
  refine z2E (kvs:=[(7,V.lst [])]) H.ns hb (by decide) (by decide) (.inl ?_)
  show Q (.lst ((z1g [7]).map V.int)) _
  rw[show z1g [7]=[7] from by simp[z1g]]
  exact q [7] (by decide) (by decide) (by decide)
theorem y0h{k:Nat}(h:k<8):∀X∈[V.int (1+(k:Int)),.int 8,.int 0],∃cnt:Nat,X= .int (cnt:Int)/\cnt<=8:=
 List.forall_mem_cons.mpr ⟨⟨1+k,rfl,Nat.add_comm 1 k▸h⟩,List.forall_mem_cons.mpr ⟨⟨8,rfl,by decide⟩,List.forall_mem_cons.mpr ⟨⟨0,rfl,by decide⟩,λ_ h=>by cases h⟩⟩⟩
inductive WiI(a0 a1 a2 a3:V)(a:Addr)(σ:Sto)(i:Nat):Loc->Sto->Prop
 |mk {o:Obj} {wi:List z0c} {v1 v2 v3 v4 v5:Option V}:wi.length<=i->(∀n∈wi,NeedOk n)->WiI a0 a1 a2 a3 a σ i [some a0,some a1,some a2,some a3,some (.ref a),v1,v2,v3,v4,v5] ((a,o,.list (wi.map z0g))::σ)
theorem z7r(H:G1 C){xs:List Int}{most:Nat}(hx:xs.length<=100)(S:Rw σ ro rv es)(hlo:0<rv.length)(hne:∀p∈rv,es p.1≠[]/\(es p.1).length<=8)(m1:0<most)(m2:most<=8)
  (q:∀wi,WishOk wi->Q (.lst (wi.map z0g)) σ):CW C (d+3) (.ref 312) [.lst (xs.map V.int),.ref ro,.int (most:Int)] σ Q:=by
 refine z1e ?_
 refine z0D (G1.kin (by assumption)) ["_law_script","_law_rows_here","_law_most","_law_names_here","_law_found","_law_number","_law_turn","_law_name","_law_low","_law_high"] [("list",.type "list"),("_law_names",.ref 288),("len",.bi "len"),("_law_mixed",.ref 283),("range",.type "range"),("_law_stretch",.ref 295),("sorted",.bi "sorted")] (by kernel_rfl) (vs3 λ_ _ _=>by kernel_rfl) rfl (z0a (z0N (by assumption)) (z0a (z3p (by assumption)) (z0a (z0Q (by assumption)) (z0a (z1m (by assumption)) (z0a (z2i (by assumption)) (z0a (z2H (by assumption)) (z0a (z1O (by assumption)) GL_nil))))))) ?_
 intro env hsc
 clear hsc
 have hrl:=S.rl
 have hro:=S.rows
 have hrn:((kvV rv).map (·.1)).Nodup:=by rw[z0t];exact S.rwn
 have hkl:(kvV rv).length=rv.length:=List.length_map _
 have hkp:0<(kvV rv).length:=hkl▸hlo
 have hkz:(kvV rv).length<=sizeLine:=z0A hrl (by decide)
 refine z0e (z0o H) (z0n H) (z4d _) (by exact rfl) (by kernel_rfl) ?_
 intro F m0
 refine Leaf.mk (z4D H.ns hro hrn hkz (.inl ?_))
 refine Leaf.mk (z2O H.ns hro hrn hkz ?_)
 refine Leaf.mk (fnc (z3L H (n:=(kvV rv).length+1) hx (Nat.le_trans (Nat.succ_le_succ (hkl▸hrl)) (by decide)) λws wl hw hwn=> ?_))
 refine Leaf.mk (z5n ?_)
 have hwl:(ws.map V.str).length<=20:=by rw[List.length_map,wl,hkl];exact Nat.le_trans (Nat.succ_le_succ hrl) (by decide)
 refine Leaf.mk (z3N (.lst _) (.int _) .none .none (λe=>nomatch e) (z0x (Nat.le_trans hwl (by decide))) (z45 ?_))
 have hsl:=Nat.le_trans (y3i (xs:=ws.map V.str) (lo:=some (-1)) (hi:=none)) hwl
 have hnm:∀X∈((kvV rv).map λp=>V.str p.1)++slL (ws.map V.str) (some (-1)) none none,∃w,X= .str w/\Ware w:=λX hX=>by
  rcases List.mem_append.mp hX with h|h
  ·apply z0l h;intro p hp
   apply z0l hp;intro p' hp'
   exact⟨_,rfl,S.wok p' hp'⟩
  ·apply z0l (z8K X h);intro w hm
   exact⟨w,rfl,hw w hm⟩
 have hl1:((kvV rv).map λp=>V.str p.1).length=(kvV rv).length:=List.length_map _
 have hs40:((kvV rv).map λp=>V.str p.1).length+(slL (ws.map V.str) (some (-1)) none none).length<=40:=by rw[hl1,hkl];exact Nat.le_trans (Nat.add_le_add hrl hsl) (by decide)
 refine Leaf.mk (z28 (.lst _) (.lst _) (z0x (Nat.le_trans hs40 (by decide))) (z45 ?_))
 have hnl:(((kvV rv).map λp=>V.str p.1)++slL (ws.map V.str) (some (-1)) none none).length<2^40:=by rw[List.length_append];exact Nat.lt_of_le_of_lt hs40 (by decide)
 have hlow:(kvV rv).length<=(((kvV rv).map λp=>V.str p.1)++slL (ws.map V.str) (some (-1)) none none).length:=by rw[List.length_append,hl1];exact Nat.le_add_right _ _
 generalize ((kvV rv).map λp=>V.str p.1)++slL (ws.map V.str) (some (-1)) none none=nms at hnm hnl hlow⊢
 clear hs40 hl1 hsl hwl hw hwn wl hlo hkl hrl
 intro a o hf
 refine Leaf.mk (fnc (z0C H hx (by decide) (by decide) λn0 b0 b1=> ?_))
 clear b0 b1
 refine z1U m1 λk hk=> ?_
 refine Leaf.mk (z33 (Int.fmod_nonneg_of_pos _ (by decide)) (Int.fmod_lt_of_pos _ (by decide)) (by decide) λX hX=> ?_)
 obtain⟨w0,rfl,w2⟩:∃w0:Nat,X= .int (w0:Int)/\w0<=2:=z5h (by decide) X hX
 clear hX
 refine Leaf.mk (z33 (Int.natCast_nonneg w0) (Int.ofNat_lt.mpr (Nat.lt_succ_of_le w2)) (show 3<2^40 by decide) λX hX=> ?_)
 obtain⟨cnt,rfl,c1⟩:=y0h (Nat.lt_of_lt_of_le hk m2) X hX
 clear hX hk w2
 refine Leaf.mk (.mk cnt (WiI (.lst (xs.map V.int)) (.ref ro) (.int (most:Int)) (.lst nms) a σ) rfl (Nat.le_trans c1 (by decide)) (.mk (wi:=[]) (Nat.le_refl _) λ_ h=>by cases h) (λi hi m τ hI QB hQB _=> ?_) λm τ hI=> ?_)
 ·clear q hf
  refine hI.casesOn @λo wi v1 v2 v3 v4 v5 hwl2 hok=> ?_
  have hi8:i<8:=Nat.lt_of_lt_of_le hi c1
  have hwV:(wi.map z0g).length<=sizeLine:=z0A (Nat.le_trans hwl2 (Nat.le_of_lt hi8)) (by decide)
  refine Leaf.mk (fnc (z0C H (k:=((171+i:Nat):Int)) hx (Int.natCast_nonneg _) (Int.ofNat_lt.mpr (Nat.lt_trans (Nat.add_lt_add_left hi8 171) (by decide))) λn c2 c3=> ?_))
  clear c2 c3
  refine Leaf.mk (z2O H.ns (hro.cons _) hrn hkz ?_)
  refine z1U hkp λj hj=> ?_
  refine Leaf.mk (z33 (Int.natCast_nonneg j) (Int.ofNat_lt.mpr (Nat.lt_of_lt_of_le hj hlow)) hnl λX hX=> ?_)
  obtain⟨nm0,rfl,hnw0⟩:=hnm X hX
  refine z39 (α:=Str) Ware (λnm=>[some (.lst (xs.map V.int)),some (.ref ro),some (.int (most:Int)),some (.lst nms),some (.ref a),some (.int n),some (.int (i:Int)),some (.str nm),v4,v5]) ((a,o,.list (wi.map z0g))::σ) (λK hK _=> ?_) λnm hnw=> ?_
  ·refine z02 (λ_=> ?_) λ_=>hK _ hnw0
   refine Leaf.mk (z5n ?_)
   refine Leaf.mk (y3o (Nat.lt_of_lt_of_le hkp hlow) hnl λX hX=> ?_)
   obtain⟨nm,rfl,hnw⟩:=hnm X hX
   exact hK _ hnw
  clear hX hnw0
  refine Leaf.mk ⟨tyD (hro.cons _),?_⟩
  refine Leaf.mk ?_
  show AT C env _ _ true _ (eval _ env) [some (.lst (xs.map V.int)),some (.ref ro),some (.int (most:Int)),some (.lst nms),some (.ref a),some (.int n),some (.int (i:Int)),some (.str nm),v4,v5] _ _
  refine z7v (KK.int C.prog C.w) λb ob hfb=> ?_
  repeat' with_reducible first|refine z0O ?_|refine z3G ?_|refine z0r ?_|refine⟨by with_unfolding_all exact Nat.le_of_ble_eq_true rfl,?_⟩|fail
  refine⟨7,rfl,rfl,λob'=> ?_⟩
  refine Leaf.mk (z6s H.ns ((hro.cons _).cons _) hrn ?_)
  refine Leaf.mk (z9k H S hne (λa x h=>(h.cons _).cons _) At.hd λms k0 k1 k2=> ?_)
  refine Leaf.mk (fnc (z2J H k0 k1 k2 λlo hi u0 u1 u2=> ?_))
  refine Leaf.mk ⟨(a,o,.list (wi.map z0g))::σ,List.sublist_cons_self _ _,?_⟩
  refine Leaf.mk ⟨tyL At.hd,?_⟩
  refine Leaf.mk (z2C hwV λo'=> ?_)
  refine hQB _ _ ?_
  have hm:WiI (.lst (xs.map V.int)) (.ref ro) (.int (most:Int)) (.lst nms) a σ (i+1) _ ((a,o',.list ((wi++[(nm,lo,hi)]).map z0g))::σ):= .mk (v1:=some (.int n)) (v2:=some (.int (i:Int))) (v3:=some (.str nm)) (v4:=some (.int lo)) (v5:=some (.int hi)) (by rw[List.length_append];exact Nat.succ_le_succ hwl2) λn hn=>(List.mem_append.mp hn).elim (hok n) λh=>List.mem_singleton.mp h▸⟨hnw,u0,u1,u2⟩
  rw[List.map_append] at hm
  exact hm
 ·cases hI with
  | @mk o wi v1 v2 v3 v4 v5 hwl2 hok=>exact⟨a,o,_,σ,rfl,rfl,q wi ⟨Nat.le_trans hwl2 c1,hok⟩⟩
end
end
section
section
variable {C:Cx} [HM C] [NF C] {d:Nat} {σ:Sto} {Q:V->Sto->Prop} {i k ro:Addr} {kv rv:List (Str×Addr)} {es:Str->List (Int×List z0c)}
theorem EsOk.e3{w:Str}{l:List (Int×List z0c)}(h:EsOk w l):(l.map (·.1)).Nodup/\l.length<=8/\∀p∈l,p.2.length<=6:=⟨h.nd,h.len,λp hp=>(h.nok p hp).len⟩
theorem Shp.frame{σ':Sto}(S:Shp σ i k kv es)(h:∀a∈i::k::kv.map (·.2),∀x,At σ a x->At σ' a x):Shp σ' i k kv es:=
 ⟨let⟨dx,e⟩:=S.inst;⟨dx,h _ (.head _) _ e⟩,h _ (.tail _ (.head _)) _ S.kept,S.kvn,S.kl,λp hp=>h _ (.tail _ (.tail _ (List.mem_map.mpr ⟨p,hp,rfl⟩))) _ (S.inn p hp),S.out,S.eok,S.sep⟩
theorem z4O{P:Str->List (Int×List z0c)->Prop}{w:Str}{l:List (Int×List z0c)}(h:∀v,P v (es v))(hl:P w l):∀v,P v (z1p es w l v):=λv=>by
 by_cases e:v=w
 ·subst e;rw[z0w];exact hl
 ·rw[z0H e];exact h v
noncomputable abbrev E3(l:List (Int×List z0c)):Prop:=(l.map (·.1)).Nodup/\l.length<=8/\∀p∈l,p.2.length<=6
theorem Shp.vv(S:Shp σ i k kv es):(kv.map (·.2)).Nodup:=(List.nodup_cons.mp (List.nodup_cons.mp S.sep).2).2
theorem Shp.set(S:Shp σ i k kv es){σ':Sto}{w:Str}{a:Addr}{l:List (Int×List z0c)}(ha:(w,a)∈kv)(ok:EsOk w l)(U:UpdS σ σ' a (dI (esV l))):Shp σ' i k kv (z1p es w l):=by
 obtain⟨n1,n2,n3⟩:=S.ne ha
 obtain⟨dx,hin⟩:=S.inst
 refine⟨⟨dx,U.at hin n1⟩,U.at S.kept n2,S.kvn,S.kl,λp hp=> ?_,λv hv=> ?_,z4O (P:=λ_ l=>E3 l) S.eok ok.e3,S.sep⟩
 ·by_cases e:p.1=w
  ·have:p=(w,a):=z06 S.kvn hp ha e
   subst this;rw[z0w];exact U.here
  ·rw[z0H e]
   exact U.at (S.inn p hp) λe2=>e (by rw[z06 S.vv hp ha e2])
 ·rw[z0H (λe=>hv (by rw[e];exact List.mem_map.mpr ⟨_,ha,rfl⟩))];exact S.out v hv
theorem Shp.add(S:Shp σ i k kv es){σ':Sto}{w:Str}{b:Addr}{l:List (Int×List z0c)}(hno:w∉kv.map (·.1))(hl:kv.length<12)(ok:EsOk w l)(hf:Fresh σ b)(h1:At σ' b (dI (esV l)))(h2:At σ' k (dS (kvV (kv++[(w,b)]))))(h3:∀p∈σ,p.1≠k->p∈σ'):
  Shp σ' i k (kv++[(w,b)]) (z1p es w l):=by
 have mv:∀c x,c≠k->At σ c x->At σ' c x:=λc x h ⟨o,ho⟩=>⟨o,h3 _ ho h⟩
 have mem:∀p∈kv++[(w,b)],p∈kv∨p=(w,b):=λp hp=>by simpa using hp
 obtain⟨dx,hin⟩:=S.inst
 have s1:=List.nodup_cons.mp S.sep
 have s2:=List.nodup_cons.mp s1.2
 refine⟨⟨dx,mv _ _ (λe=>s1.1 (e▸ .head _)) hin⟩,h2,by rw[List.map_append];exact z1r S.kvn hno,by simp;lia,λp hp=> ?_,λv hv=> ?_,z4O (P:=λ_ l=>E3 l) S.eok ok.e3,?_⟩
 ·rcases mem p hp with h|rfl
  ·rw[z0H (λe=>hno (by rw[<-e];exact List.mem_map.mpr ⟨p,h,rfl⟩))]
   exact mv _ _ (λe=>s2.1 (e▸List.mem_map.mpr ⟨p,h,rfl⟩)) (S.inn p h)
  ·rw[z0w];exact h1
 ·rw[List.map_append,List.mem_append,not_or] at hv
  rw[z0H (λe=>hv.2 (by rw[e];exact .head _))];exact S.out v hv.1
 ·rw[List.map_append]
  refine z1r (l:=i::k::kv.map (·.2)) S.sep λh=> ?_
  rcases List.mem_cons.mp h with h|h
  ·exact hf.ne hin h.symm
  ·rcases List.mem_cons.mp h with h|h
   ·exact hf.ne S.kept h.symm
   ·obtain⟨p,hp,e⟩:=List.mem_map.mp h
    exact hf.ne (S.inn p hp) e
theorem Shp.del(S:Shp σ i k kv es){σ₁ σ':Sto}{w:Str}{a:Addr}(ha:(w,a)∈kv)(U:UpdS σ σ₁ a (dI []))(U2:UpdS σ₁ σ' k (dS (kvV (kv.filter λp=>decide (p.1≠w))))):
  Shp σ' i k (kv.filter λp=>decide (p.1≠w)) (z1p es w []):=by
 obtain⟨n1,n2,n3⟩:=S.ne ha
 obtain⟨dx,hin⟩:=S.inst
 have s1:=List.nodup_cons.mp S.sep
 have s2:=List.nodup_cons.mp s1.2
 have sub:∀p,p∈kv.filter (λp=>decide (p.1≠w))->p∈kv/\p.1≠w:=λp hp=>by simpa using List.mem_filter.mp hp
 refine⟨⟨dx,U2.at (U.at hin n1) n3⟩,U2.here,((List.filter_sublist).map _).nodup S.kvn,Nat.le_trans (List.length_filter_le _ _) S.kl,λp hp=> ?_,λv hv=> ?_,z4O (P:=λ_ l=>E3 l) S.eok (EsOk.nil (w:=w)).e3,?_⟩
 ·obtain⟨h1,h2⟩:=sub p hp
  rw[z0H h2]
  exact U2.at (U.at (S.inn p h1) λe2=>h2 (by rw[z06 S.vv h1 ha e2])) λe=>s2.1 (e▸List.mem_map.mpr ⟨p,h1,rfl⟩)
 ·by_cases e:v=w
  ·rw[e,z0w]
  ·rw[z0H e]
   refine S.out v λhm=>hv ?_
   obtain⟨p,hp,rfl⟩:=List.mem_map.mp hm
   exact List.mem_map.mpr ⟨p,List.mem_filter.mpr ⟨hp,by simpa using e⟩,rfl⟩
 ·exact((((List.filter_sublist (l:=kv)).map (·.2)).cons_cons k).cons_cons i).nodup S.sep
theorem y2y(l:List (Str×Addr)):((kvV l).map λp=>(KK.str C.prog C.w).v p.1)=(l.map (·.1)).map V.str:=by rw[List.map_map,List.map_map];rfl
noncomputable def z35(r1:Stmt):TC:=⟨[.rawS r1,.loc 0,.forDS 2 [.loc 0,.loc 2,.sub,.forDI 3 [.loc 1,.mI 272 "put",.loc 2,.loc 3,.loc 0,.loc 2,.sub,.loc 3,.sub,.call (.type "list") 1,.meth (.ref 241) 3,.pop]],.loc 1,.ret],[.inl r1],[([0],none)]⟩
--z35 1
inductive ShI(ro x k:Addr)(rv:List (Str×Addr))(es:Str->List (Int×List z0c))(σ:Sto)(i:Nat):Loc->Sto->Prop
 |mk {kv:List (Str×Addr)} {es':Str->List (Int×List z0c)} {u v:Option V} {τ:Sto}:Shp τ x k kv es'->kv.map (·.1)=(rv.map (·.1)).take i->(∀w∈(rv.map (·.1)).take i,es' w=es w)->(∀p∈kv,Fresh σ p.2)->(∀p∈σ,p∈τ)->ShI ro x k rv es σ i [some (.ref ro),some (.ref x),u,v] τ
inductive SjI(ro x k:Addr)(kv:List (Str×Addr))(es':Str->List (Int×List z0c))(w:Str)(l:List (Int×List z0c))(σ:Sto)(j:Nat):Loc->Sto->Prop
 |mk {kv':List (Str×Addr)} {v:Option V} {τ:Sto}:Shp τ x k kv' (z1p es' w (l.take j))->(j=0/\kv'=kv∨0<j/\kv'.map (·.1)=kv.map (·.1)++[w])->(∀p∈kv',Fresh σ p.2)->(∀p∈σ,p∈τ)->SjI ro x k kv es' w l σ j [some (.ref ro),some (.ref x),some (.str w),v] τ
theorem EsOk.tk{w:Str}{l:List (Int×List z0c)}(h:EsOk w l)(j:Nat):EsOk w (l.take j):=
 ⟨((List.take_sublist _ _).map _).nodup h.nd,Nat.le_trans (List.take_sublist _ _).length_le h.len,λp hp=>h.mb p (List.mem_of_mem_take hp),λp hp=>h.nok p (List.mem_of_mem_take hp)⟩
theorem z1w{α:Type}{l:List α}{j:Nat}{x:α}(h:l[j]? =some x):l.take (j+1)=l.take j++[x]:=by rw[List.take_add_one,h];rfl
theorem z8J{α:Type}{l:List α}(hn:l.Nodup){j:Nat}{x:α}(h:l[j]? =some x):x∉l.take j:=λhm=>by
 have:=(List.take_sublist (j+1) l).nodup hn
 rw[z1w h] at this
 exact(List.nodup_append.mp this).2.2 _ hm _ (.head _) rfl
theorem z7H(H:G1 C)(S:Rw σ ro rv es)(hne:∀p∈rv,es p.1≠[])
  (q:∀x k kv σ',Shp σ' x k kv es->kv.map (·.1)=rv.map (·.1)->Fresh σ x->Fresh σ k->(∀p∈kv,Fresh σ p.2)->(∀p∈σ,p∈σ')->Q (.ref x) σ'):CW C (d+5) (.ref 319) [.ref ro] σ Q:=by
 refine z0D (G1.kin (by assumption)) ["_law_rows_here","_law_shop_here","_law_ware","_law_make"] [("Shop",.ref 272),("list",.type "list")] (by kernel_rfl) (vs1 λ_=>by kernel_rfl) rfl (z0a (y3C (by assumption)) (z0a (z0N (by assumption)) GL_nil)) ?_
 intro env hsc
 clear hsc
 have hrn:((kvV rv).map (·.1)).Nodup:=by rw[z0t];exact S.rwn
 obtain⟨oro,hrm⟩:=S.rows
 refine z0e (z0o H) (z0n H) (z35 _) (by exact rfl) (by kernel_rfl) ?_
 intro F m0
 refine Leaf.mk ?_
 show AS C env ["_law_rows_here","_law_shop_here","_law_ware","_law_make"] [("Shop",.ref 272),("list",.type "list")] true _ (exec _ env) [some (.ref ro),none,none,none] _ _
 refine z14 (z9e (y0A H) ?_)
 with_reducible refine z1k ?_
 refine⟨rfl,y3w H λx k dx σ1 f1 f2 f3 f4 f5 f6=> ?_⟩
 with_reducible refine z2B ?_
 refine Leaf.mk (.mk ro oro (kvV rv) (ShI ro x k rv es σ) rfl H.ns (f6 _ hrm) hrn (.mk (kv:=[]) (es':=λ_=>[]) ⟨⟨dx,f4⟩,f5,List.nodup_nil,by decide,(λ_ h=>by cases h),(λ_ _=>rfl),(λ_=>(EsOk.nil (w:="")).e3),List.nodup_cons.mpr ⟨λh=>f3 (List.mem_singleton.mp h),List.nodup_cons.mpr ⟨List.not_mem_nil,List.nodup_nil⟩⟩⟩ rfl (λ_ h=>by cases h) (λ_ h=>by cases h) f6) (λi p hX m τ hI QB hQB _=> ?_) λm τ hI=> ?_)
 ·clear q
  refine hI.casesOn @λkv es' u v τ T hkeys hes hfp hkp=> ?_
  rw[List.getElem?_map] at hX
  apply z0Z hX;rintro ⟨w,b⟩ hwb
  have hb:=List.mem_of_getElem? hwb
  have hwe:(rv.map (·.1))[i]? =some w:=z1b hwb
  have htk:=z1w hwe
  have hnew:w∉kv.map (·.1):=by rw[hkeys];exact z8J S.rwn hwe
  have hil:=(List.getElem?_eq_some_iff.mp hwb).1
  have hkl:kv.length<12:=by
   have:=congrArg List.length hkeys
   rw[List.length_map,List.length_take,List.length_map] at this
   have:=S.rl
   lia
  have hok:=S.eok w
  have hw:=S.wok _ hb
  have hen:((esV (es w)).map (·.1)).Nodup:=by rw[z0q];exact hok.nd
  obtain⟨ob,hbm⟩:=S.rin _ hb
  have hrb:vAt (kvV rv) w=some (.ref b):=z0B hrn (List.mem_map.mpr ⟨_,hb,rfl⟩)
  have hne1:=hne _ hb
  clear hX hwb hwe hil
  refine Leaf.mk (z1F ⟨oro,hkp _ hrm⟩ hrn hrb ?_)
  refine Leaf.mk (.mk b ob (esV (es w)) (SjI ro x k kv es' w (es w) σ) rfl H.ns (hkp _ hbm) hen (.mk (kv':=kv) (by rw[List.take_zero,z8e (T.out w hnew)];exact T) (.inl ⟨rfl,rfl⟩) hfp hkp) (λj p hX m τ2 hI QB hQB' _=> ?_) λm τ2 hI=> ?_)
  ·clear hQB hes hkeys hne1 T hfp hkp htk
   refine hI.casesOn @λkv' v' τ2 T2 hk2 hfp2 hkp2=> ?_
   rw[List.getElem?_map] at hX
   apply z0Z hX;rintro ⟨mk,ns⟩ hme
   have hmem:=List.mem_of_getElem? hme
   have hjl:=(List.getElem?_eq_some_iff.mp hme).1
   have hns:=hok.nok _ hmem
   have hmb:=hok.mb _ hmem
   have hv:vAt (esV (es w)) mk=some (.lst (ns.map z0g)):=z0B hen (List.mem_map.mpr ⟨_,hmem,rfl⟩)
   have hjt:=z1w hme
   have hjnew:mk∉(z1p es' w ((es w).take j) w).map (·.1):=by rw[z0w,List.map_take];exact z8J hok.nd (z1b hme)
   have hj8:(z1p es' w ((es w).take j) w).length≠8:=by rw[z0w,List.length_take];have:=hok.len;lia
   have hokj:=hok.tk (j+1)
   obtain⟨dx',hin⟩:=T2.inst
   have hkl2:w∉kv'.map (·.1)->j=0/\kv'=kv:=λhno=>by
    rcases hk2 with h|⟨_,e⟩
    ·exact h
    ·rw[e] at hno;exact absurd (List.mem_append_right _ (.head _)) hno
   clear hX hme hjl hmem
   refine Leaf.mk (z0K hin (by decide+kernel) ?_)
   refine Leaf.mk (z1F ⟨oro,hkp2 _ hrm⟩ hrn hrb ?_)
   refine Leaf.mk (z8Z ⟨ob,hkp2 _ hbm⟩ hen hv ?_)
   refine Leaf.mk (z1W (.lst _) (z0A hns.len (by decide)) (.inr λnl onl hfn=> ?_))
   have T3:Shp ((nl,onl,.list (ns.map z0g))::τ2) x k kv' (z1p es' w ((es w).take j)):=T2.frame λa _ y hy=>hy.cons _
   clear T2 hin
   refine Leaf.mk (fnc (y2J H T3 hw hmb.1 hmb.2 At.hd hns hjnew hj8 (λhno e=>Nat.ne_of_lt hkl (by rw[<-(hkl2 hno).2];exact e)) (λa ha σ2 U=> ?_) λhno b2 σ2 hf h1 h2 h3=> ?_))
   ·rw[z0w,<-hjt] at U
    have T4:=T3.set ha hokj U
    rw[z3T] at T4
    refine hQB' _ _ (U.keep _ (.tail _ (hkp2 _ hbm)) λe=>hfp2 _ ha _ hbm e) (.mk T4 (.inr ⟨Nat.succ_pos _,?_⟩) hfp2 λp hp=>U.keep p (.tail _ (hkp2 p hp)) λe=>hfp2 _ ha p hp e)
    rcases hk2 with⟨_,rfl⟩|⟨_,e⟩
    ·exact absurd (List.mem_map.mpr ⟨_,ha,rfl⟩) hnew
    ·exact e
   ·obtain⟨rfl,rfl⟩:=hkl2 hno
    have T4:=T3.add hno hkl hokj hf (by rw[hjt];exact h1) h2 h3
    rw[z3T] at T4
    have kp:∀p∈σ,p∈σ2:=λp hp=>h3 p (.tail _ (hkp2 p hp)) (f2 p hp)
    refine hQB' _ _ (kp _ hbm) (.mk T4 (.inr ⟨Nat.succ_pos _,List.map_append⟩) (λp hp=>(List.mem_append.mp hp).elim (hfp2 p) λh=>List.mem_singleton.mp h▸λp' hp'=>hf p' (.tail _ (hkp2 p' hp'))) kp)
  ·refine hI.casesOn @λkv' v' τ2 T2 hk2 hfp2 hkp2=> ?_
   have hz:(esV (es w)).length=(es w).length:=List.length_map _
   rw[hz,List.take_length] at T2
   have hk3:kv'.map (·.1)=kv.map (·.1)++[w]:=by
    rcases hk2 with⟨e,_⟩|⟨_,e⟩
    ·exact absurd (List.eq_nil_of_length_eq_zero (hz▸e)) hne1
    ·exact e
   refine hQB _ _ (hkp2 _ hrm) (.mk T2 (by rw[hk3,htk,hkeys]) (λv hv=> ?_) hfp2 hkp2)
   rw[htk] at hv
   by_cases e:v=w
   ·rw[e,z0w]
   ·rw[z0H e]
    exact(List.mem_append.mp hv).elim (hes v) λh=>absurd (List.mem_singleton.mp h) e
 ·refine hI.casesOn @λkv es' u v τ T hkeys hes hfp hkp=> ?_
  rw[List.length_map,<-List.length_map (f:=(·.1)),List.take_length] at hkeys hes
  have e:es'=es:=funext λv=>by
   by_cases h:v∈rv.map (·.1)
   ·exact hes v h
   ·rw[S.out v h,T.out v (by rw[hkeys];exact h)]
  subst e
  exact q x k kv τ T hkeys f1 f2 hfp hkp
end
end
section
section
variable {C:Cx} [HM C] [NF C] {d:Nat} {σ:Sto} {Q:V->Sto->Prop} {i k ro:Addr} {kv rv:List (Str×Addr)} {es:Str->List (Int×List z0c)}
noncomputable abbrev pkV(pk:List (Str×Int)):List (Str×V):=pk.map λp=>(p.1,V.int p.2)
theorem z0L(pk:List (Str×Int)):(pkV pk).map (·.1)=pk.map (·.1):=by simp[List.map_map,Function.comp_def]
structure PkB(pk:List (Str×Int)):Prop where
 nd:(pk.map (·.1)).Nodup
 len:pk.length<=12
 ok:∀p∈pk,Ware p.1/\1<=p.2/\p.2<=999
noncomputable def PkIn(es:Str->List (Int×List z0c))(pk:List (Str×Int)):Prop:=∀p∈pk,∃ns,(p.2,ns)∈es p.1
noncomputable def nx(es:Str->List (Int×List z0c))(pk:List (Str×Int))(w:Str):List Str:=
 match pk.find? (λp=>decide (p.1=w)) with
 |none=>[]
 |some p=>match(es w).find? (λe=>decide (e.1=p.2)) with
  |none=>[]
  |some e=>e.2.map (·.1)
theorem z3d{K B:Type}[DecidableEq K]{l:List (K×B)}(hn:(l.map (·.1)).Nodup){k:K}{b:B}(h:(k,b)∈l):l.find? (λp=>decide (p.1=k))=some (k,b):=by
 cases e:l.find? (λp=>decide (p.1=k)) with
 |none=>exact absurd (List.find?_eq_none.mp e _ h) (by simp)
 |some p=>
  have h1:=List.mem_of_find?_eq_some e
  have h2:=List.find?_some e
  rw[z06 hn h1 h (by simpa using h2)]
theorem z6F{K B:Type}[DecidableEq K]{l:List (K×B)}{k:K}(h:k∉l.map (·.1)):l.find? (λp=>decide (p.1=k))=none:=
 List.find?_eq_none.mpr λp hp=>by
  have:p.1≠k:=λe=>h (e▸List.mem_map.mpr ⟨p,hp,rfl⟩)
  simpa using this
theorem z8s{pk:List (Str×Int)}(pb:PkB pk)(pi:PkIn es pk)(w:Str)(en:((es w).map (·.1)).Nodup):
  (w∉pk.map (·.1)/\vAt (pkV pk) w=none/\nx es pk w=[])∨∃mk ns,(w,mk)∈pk/\vAt (pkV pk) w=some (.int mk)/\(mk,ns)∈es w/\nx es pk w=ns.map (·.1):=by
 by_cases h:w∈pk.map (·.1)
 ·obtain⟨⟨w,mk⟩,hp,rfl⟩:=List.mem_map.mp h
  obtain⟨ns,hns⟩:=pi _ hp
  refine .inr ⟨mk,ns,hp,z0B (by rw[z0L];exact pb.nd) (List.mem_map.mpr ⟨_,hp,rfl⟩),hns,?_⟩
  unfold nx
  rw[z3d pb.nd hp]
  show(match(es w).find? (λe:Int×List z0c=>decide (e.1=mk)) with|none=>[]|some e=>e.2.map (λn:z0c=>n.1))=_
  rw[z3d en hns]
 ·refine .inl ⟨h,z1E (by rw[z0L];exact h),?_⟩
  unfold nx
  rw[z6F h]
set_option tactic.hygienic true in
theorem y21{pk:List (Str×Int)}(h:∀w,∀p∈es w,p.2.length<=6)(w:Str):(nx es pk w).length<=6:=by
 unfold nx
 split
 ·exact Nat.zero_le _
 ·split
  ·exact Nat.zero_le _
  ·rename_i e he
   rw[List.length_map];exact h w _ (List.mem_of_find?_eq_some he)
theorem y4i{pk:List (Str×Int)}{wi:List z0c}(pb:PkB pk)(h6:∀w,∀p∈es w,p.2.length<=6)(h8:wi.length<=8):∃N R,N<=100/\Bf (nx es pk) N [] (wi.map (·.1)) R:=by
 obtain⟨N,R,h1,h2⟩:=y0P (nx:=nx es pk) (U:=pk.map (·.1)) (λx hx=>by unfold nx;rw[z6F hx]) 100 [] (wi.map (·.1)) (by
  have:=y0a (U:=pk.map (·.1)) (f:=[]) (y21 (pk:=pk) h6)
  have hl:=pb.len
  rw[List.length_map] at this⊢
  lia)
 exact⟨N,R,h1,h2⟩
theorem y4B{b:Bool}(h:(!b)=true):¬b=true:=by cases b<;>simp at h⊢
theorem z93{b:Bool}(h:(!b)=false):b=true:=by cases b<;>simp at h⊢
noncomputable def z4c(r1:Expr)(r2:Stmt):TC:=⟨[.loc 0,.isi .lst,.tvalc,.not,.mop .Or [.loc 0,.len,.psh (.int 8),.tcmpc .Gt,.mop .Or [.raw r1,.call (.bi "all") 1,.tvalc,.not,.mop .Or [.psh (.bool false)]]],.ife [.rawS r2] []],[.inr r1,.inl r2],[([0],some [2,0,1]),([0,0,0],none)]⟩
--z4c 2
noncomputable def t_agenda_of_1:TC:=⟨[.cut [.loc 3,.loc 5,.sub,.loc 2,.tcmpc .In,.ife [.loc 0,.mI 272 "needs",.loc 3,.loc 5,.sub,.loc 2,.loc 3,.loc 5,.sub,.sub,.meth (.ref 262) 2,.forL 4 [.loc 4,.subT 0,.loc 3,.tcmpc .NotIn,.ife [.loc 3,.mty "list",.loc 4,.subT 0,.meth (.bi "list.append") 1,.pop] []]] []],.loc 5,.psh (.int 1),.binc .Add,.asg 5],[],[]⟩
--t_agenda_of_1 0
noncomputable def z3Z(r1:Stmt):TC:=⟨[.asgL 3,.loc 1,.forL 4 [.loc 4,.subT 0,.loc 3,.tcmpc .NotIn,.ife [.loc 3,.mty "list",.loc 4,.subT 0,.meth (.bi "list.append") 1,.pop] []],.psh (.int 0),.asg 5,.rawS r1,.loc 3,.ret],[.inl r1],[([3],none)]⟩
--z3Z 1
theorem z6j{x:V}{xs:List V}{P:Sto->Prop}{k:TK}(h:Has σ x (.list xs) P)(q:Q (.bool (TK.lst.is k)) σ):cQ ((y1F x k).map .bool) σ Q (KW C d (.bi "isinstance") [x,.type k.n] σ Q):=by
 cases h with
 |lst=>exact q
 |refL h=>exact⟨z6v (.refL h) q⟩
theorem z61(H:G1 C){x:V}{wi:List z0c}{Px:Sto->Prop}(hx:Has σ x (.list (wi.map z0g)) Px)(ok:WishOk wi)(q:Q .none σ):CW C (d+3) (.ref 142) [x] σ Q:=by
 refine z0D (G1.kin (by assumption)) ["wish"] [("isinstance",.bi "isinstance"),("list",.type "list"),("len",.bi "len"),("MOST_WISHES",.int 8),("all",.bi "all"),("BadWish",.ref 109)] (by kernel_rfl) (vs1 λ_=>by kernel_rfl) rfl (z0a (z0h (by assumption)) (z0a (z0N (by assumption)) (z0a (z0Q (by assumption)) (z0a (z41 (by assumption)) (z0a (y1o (by assumption)) (z0a (z9w (by assumption)) GL_nil)))))) ?_
 intro env hsc
 have hz:(wi.map z0g).length<=sizeLine:=z0A ok.len (by decide)
 refine z0e (z0o H) (z0n H) (z4c _ _) (by exact rfl) (by kernel_rfl) ?_
 intro F m0
 refine z6j hx ?_
 refine y0r hx hz ?_
 refine z0z (decide_eq_false (Int.not_lt.mpr (Int.ofNat_le.mpr (by rw[List.length_map];exact ok.len)))) ?_
 refine Leaf.mk ?_
 show AT C env ["wish"] _ true _ (eval _ env) [some x] _ _
 refine z0P "need" [] [("is_need",.ref 130)] (by rw[hsc];kernel_rfl) (z0a (z5t H) GL_nil) .nil (z0J ?_)
 with_reducible refine z0k ?_
 refine⟨_,_,hx,hz,λenv' he=>z1s (f:=λ_=> .bool true) (z0m he (by decide+kernel)) hx.p _ _ _ (λX hX K hK=> ?_) ?_⟩
 ·apply z0l hX;intro n hn
  repeat' with_reducible first|refine z0k ?_|refine z1k ?_|refine z0I ?_|refine z0s ?_|refine z0r ?_|refine⟨z5v (by assumption),?_⟩|fail
  exact fnc (z5m H (ok.ok n hn) hK)
 ·rw[List.nil_append,show(wi.map z0g).map (λ_=>V.bool true)=(wi.map λ_=>true).map V.bool by rw[List.map_map,List.map_map];rfl]
  refine Leaf.mk (z9H (.lst _) ?_)
  rw[show(wi.map λ_=>true).all id=true by rw[List.all_map];exact List.all_eq_true.mpr λ_ _=>rfl]
  exact q
theorem z4V{f:List Str}{l:List Str}{j:Nat}{y:Str}(h:l[j]? =some y):z03 f (l.take (j+1))=z03 (z03 f (l.take j)) [y]:=by rw[z1w h,z7G];rfl
noncomputable abbrev agC:List Ins:=[.loc 4,.subT 0,.loc 3,.tcmpc .NotIn,.ife [.loc 3,.mty "list",.loc 4,.subT 0,.meth (.bi "list.append") 1,.pop] []]
theorem z8x{F:Fx}{n:Nat}{QB:Fl->Loc->Sto->Prop}{a0 a1 a2:V}{v5:Option V}{a:Addr}{o:Obj}{f:List Str}{nd:z0c}(hl:f.length<=1000)(h:∀o',QB .next [some a0,some a1,some a2,some (.ref a),some (z0g nd),v5] ((a,o',.list ((z03 f [nd.1]).map V.str))::σ)):W F (n+50) QB agC [] [some a0,some a1,some a2,some (.ref a),some (z0g nd),v5] [] ((a,o,.list (f.map V.str))::σ):=by
 refine Leaf.mk (z3x (.refL (.head _)) (z0j ?_))
 have e:z03 f [nd.1]=if f.any (·==nd.1) then f else f++[nd.1]:=rfl
 refine z02 (λhb=> ?_) λhb=> ?_
 ·rw[if_neg (y4B hb)] at e
  rw[e,List.map_append] at h
  refine Leaf.mk ⟨tyL At.hd,?_⟩
  exact⟨z2C (z0A hl (by decide)) h⟩
 ·rw[if_pos (z93 hb)] at e
  rw[e] at h
  exact h o
inductive AgI(a0 a1 a2:V)(a:Addr)(f l:List Str)(v5:Option V)(σ:Sto)(j:Nat):Loc->Sto->Prop
 |mk {o:Obj} {v:Option V}:AgI a0 a1 a2 a f l v5 σ j [some a0,some a1,some a2,some (.ref a),v,v5] ((a,o,.list ((z03 f (l.take j)).map V.str))::σ)
inductive AwI(a0 a1 a2:V)(a:Addr)(nx:Str->List Str)(R:List Str)(σ:Sto)(n:Nat):Loc->Sto->Prop
 |mk {o:Obj} {v:Option V} {f w:List Str}:Bf nx n f w R->(f++w).Nodup->f.length+n<=100->AwI a0 a1 a2 a nx R σ n [some a0,some a1,some a2,some (.ref a),v,some (.int (f.length:Int))] ((a,o,.list ((f++w).map V.str))::σ)
theorem z7L(H:G1 C)(S:Shp σ i k kv es){x:V}{wi:List z0c}{Px:Sto->Prop}(hx:Has σ x (.list (wi.map z0g)) Px)(ok:WishOk wi){pa:Addr}{pk:List (Str×Int)}(hp:At σ pa (dS (pkV pk)))(pb:PkB pk)(pi:PkIn es pk)
  {N:Nat} {R:List Str} (hN:N<=100) (hB:Bf (nx es pk) N [] (wi.map (·.1)) R) (q:∀a o,Fresh σ a->Q (.ref a) ((a,o,.list (R.map V.str))::σ)):CW C (d+4) (.ref 149) [.ref i,x,.ref pa] σ Q:=by
 refine z0D (G1.kin (by assumption)) ["shop","wish","pick","found","need","at"] [("len",.bi "len")] (by kernel_rfl) (vs3 λ_ _ _=>by kernel_rfl) rfl (z0a (z0Q (by assumption)) GL_nil) ?_
 intro env hsc
 clear hsc
 have hn:((pkV pk).map (·.1)).Nodup:=by rw[z0L];exact pb.nd
 obtain⟨dx,hin⟩:=S.inst
 refine z0e (z0o H) (z0n H) (z3Z _) (by exact rfl) (by kernel_rfl) ?_
 intro F m0 a o hf
 refine Leaf.mk (.mk _ _ (AgI (.ref i) x (.ref pa) a [] (wi.map (·.1)) none σ) (hx.mono λp h=> .tail _ h) .mk (λj X hX m τ hI QB hQB _=> ?_) λm τ hI=> ?_)
 ·rw[List.getElem?_map] at hX
  apply z0Z hX;intro n hne
  refine hI.casesOn @λo v=> ?_
  have hl:=addNew_len ((wi.map (·.1)).take j) []
  exact z8x (Nat.le_trans hl (by rw[List.length_take,List.length_map,List.length_nil];have:=ok.len;lia)) λo'=>hQB _ _ (hx.mono λp h=> .tail _ h).p (by rw[<-z4V (z1b hne)];exact .mk)
 refine hI.casesOn @λo v=> ?_
 rw[List.length_map,<-List.length_map (f:=(·.1)),List.take_length]
 obtain⟨n0,v0,hn0,hB0,he0⟩:=Bf.news (w:=[]) (ys:=wi.map (·.1)) (f:=[]) hB
 rw[List.nil_append,List.nil_append] at he0
 rw[he0]
 have hnd0:v0.Nodup:=by rw[<-he0];exact addNew_nodup List.nodup_nil
 clear he0 hx ok hB
 refine Leaf.mk ?_
 show AS C env ["shop","wish","pick","found","need","at"] _ true _ (exec _ env) [some (.ref i),some x,some (.ref pa),some (.ref a),v,some (.int 0)] _ _
 refine z6K (AwI (.ref i) x (.ref pa) a (nx es pk) R σ) (λn m τ hI QB hQB=> ?_) n0 (.mk (f:=[]) (w:=v0) hB0 hnd0 (by rw[List.length_nil,Nat.zero_add];exact Nat.le_trans hn0 hN))
 refine hI.casesOn @λo v f w hB hnd hfl=> ?_
 have hwl:=hB.len
 have hzz:((f++w).map V.str).length=f.length+w.length:=by rw[List.length_map,List.length_append]
 repeat' with_reducible first|refine z0k ?_|refine z1k ?_|refine z0I ?_|refine z0s ?_|refine z0r ?_|refine z1x ?_|refine⟨z1d,?_⟩|fail
 refine z0E (.refL (.head _)) hzz (z0x (by rw[hzz];lia)) ?_
 refine y4x (z0j ⟨λhb=> ?_,λhb=> ?_⟩)
 ·cases w with
  |nil=>exact absurd (of_decide_eq_true hb) (Int.lt_irrefl _)
  |cons y w=>
   clear hb q
   have hyf:y∉f:=λh=>(List.nodup_append.mp hnd).2.2 _ h _ (.head _) rfl
   obtain⟨n,rfl,hB2⟩:∃n',n=n'+1/\Bf (nx es pk) n' (f++[y]) (w++nx es pk y) R:=by
    cases hB with
    |skip h _=>exact absurd h hyf
    |take _ h=>exact⟨_,rfl,h⟩
   obtain⟨n',w',hn',hB',he'⟩:=Bf.news hB2
   have hnd':(f++[y]++w').Nodup:=by
    rw[<-he'];exact addNew_nodup (by rw[List.append_assoc];exact hnd)
   have hf99:f.length<1000:=by lia
   have hat:((f++y::w).map V.str)[f.length]? =some (.str y):=z1b (by rw[List.getElem?_append_right (Nat.le_refl _),Nat.sub_self];rfl)
   have hpc:∀o' l,At ((a,o',AO.list l)::σ) pa (dS (pkV pk)):=λo' l=>hp.cons _
   have hend:∀o v,QB .next [some (.ref i),some x,some (.ref pa),some (.ref a),v,some (.int ((f++[y]).length:Int))] ((a,o,.list ((f++[y]++w').map V.str))::σ):=λo v=>hQB n' _ _ (Nat.lt_succ_of_le hn') (.mk hB' hnd' (by rw[List.length_append];show f.length+1+n'<=100;lia))
   rw[List.length_append] at hend
   have hfa:f.length+(y::w).length<=200:=by have:=hB2.len;rw[List.length_append] at this;rw[List.length_cons];lia
   clear hQB hB hnd hB2 hB' hnd' hwl hn' hB0 hnd0 hn0 hN hzz
   refine z0e (z0o H) (z0n H) t_agenda_of_1 rfl (by kernel_rfl) ?_
   intro F m0
   refine y3U (α:=Obj×Option V) (λ_=>True) (λp=>[some (.ref i),some x,some (.ref pa),some (.ref a),p.2,some (.int (f.length:Int))]) (λp=>(a,p.1,.list ((f++[y]++w').map V.str))::σ) (λK hK _=> ?_) λp _=>hend p.1 p.2
   clear hend
   refine Leaf.mk (z0U (.refL (.head _)) hf99 hat ?_)
   rcases z8s pb pi y (S.eok y).1 with⟨_,e1,e2⟩|⟨mk,ns,hpm,e1,hns,e2⟩
   ·rw[e2] at he'
    have he':f++[y]++w=f++[y]++w':=he'
    rw[List.append_assoc] at he'
    rw[show f++y::w=f++[y]++w' from he']
    refine Leaf.mk (z29 H.ns (hpc _ _) hn (z0j ?_))
    rw[e1]
    exact hK (o,v) trivial
   ·obtain⟨hw,h1,h2⟩:=pb.ok _ hpm
    have hnl:=(S.eok y).2.2 _ hns
    refine Leaf.mk (z29 H.ns (hpc _ _) hn (z0j ?_))
    rw[e1]
    refine Leaf.mk (z0K (hin.cons _) (by decide+kernel) ?_)
    refine Leaf.mk (z0U (.refL (.head _)) hf99 hat ?_)
    refine Leaf.mk (z0U (.refL (.head _)) hf99 hat ?_)
    refine Leaf.mk (z1F (hpc _ _) hn e1 ?_)
    refine Leaf.mk (fnc (z4l H (S.frame λa _ x h=>h.cons _) hw h1 h2 hns (.inl ?_)))
    refine Leaf.mk (.mk _ _ (AgI (.ref i) x (.ref pa) a (f++y::w) (ns.map (·.1)) (some (.int (f.length:Int))) σ) (.lst _) .mk (λj X hX m τ hI QB hQB _=> ?_) λm τ hI=> ?_)
    ·rw[List.getElem?_map] at hX
     apply z0Z hX;intro nd hne
     refine hI.casesOn @λo v=> ?_
     have hl:=addNew_len ((ns.map (·.1)).take j) (f++y::w)
     exact z8x (Nat.le_trans hl (by rw[List.length_take,List.length_map,List.length_append];simp only at hnl;lia)) λo'=>hQB _ _ trivial (by rw[<-z4V (z1b hne)];exact .mk)
    ·refine hI.casesOn @λo v=> ?_
     rw[show(ns.map z0g).length=(ns.map (·.1)).length by rw[List.length_map,List.length_map],List.take_length,<-e2,show f++y::w=f++[y]++w from(List.append_assoc f [y] w).symm,he']
     exact hK (o,v) trivial
 ·cases w with
  |nil=>
   have hfR:f=R:=by cases hB;rfl
   subst hfR
   rw[List.append_nil]
   exact q _ _ hf
  |cons y w=>exact absurd (Int.ofNat_lt.mpr (Nat.lt_add_of_pos_right (Nat.succ_pos w.length))) (of_decide_eq_false hb)
end
end
section
section
variable {C:Cx} [HM C] [NF C] {d:Nat} {σ:Sto} {Q:V->Sto->Prop} {i k ro:Addr} {kv rv:List (Str×Addr)} {es:Str->List (Int×List z0c)}
noncomputable def z0y(es:Str->List (Int×List z0c))(p:Str×Int):List z0c:=match(es p.1).find? (λe=>decide (e.1=p.2)) with
 |none=>[]
 |some e=>e.2
theorem z04{w:Str}{mk:Int}{ns:List z0c}(en:((es w).map (·.1)).Nodup)(h:(mk,ns)∈es w):z0y es (w,mk)=ns:=by
 unfold z0y
 show(match(es w).find? (λe:Int×List z0c=>decide (e.1=mk)) with|none=>[]|some e=>e.2)=_
 rw[z3d en h]
set_option tactic.hygienic true in
theorem z8z{pk:List (Str×Int)}(h:∀w,∀p∈es w,∀n∈p.2,NeedOk n)(w:Str):∀y∈nx es pk w,Ware y:=by
 unfold nx
 intro y hy
 split at hy
 ·cases hy
 ·split at hy
  ·cases hy
  ·rename_i e he
   apply z0l hy;intro n hn
   exact(h w _ (List.mem_of_find?_eq_some he) n hn).w
theorem z3Q{α:Type}[DecidableEq α]:∀{l r:List α},l.Nodup->(∀x∈l,x∈r)->l.length<=r.length
 |[],r,_,_=>Nat.zero_le _
 |x::l,r,hn,hs=>by
  obtain⟨h1,h2⟩:=List.nodup_cons.mp hn
  have hx:=hs x (.head _)
  have:=z3Q (r:=r.erase x) h2 λy hy=>(List.mem_erase_of_ne λe=>h1 (by rw[<-e];exact hy)).mpr (hs y (.tail _ hy))
  rw[List.length_erase_of_mem hx] at this
  have h3:0<r.length:=List.length_pos_of_mem hx
  rw[List.length_cons];lia
noncomputable def t_within:TC:=⟨[.loc 1,.loc 0,.cm2 .LtE [.loc 2,.cmpc .LtE],.ret],[],[]⟩
--t_within 0
theorem z4Q(H:G1 C){mk lo hi:Int}(q:Q (.bool (decide (lo<=mk)&&decide (mk<=hi))) σ):CW C (d+1) (.ref 137) [.int mk,.int lo,.int hi] σ Q:=by
 refine z0D (G1.kin (by assumption)) ["make","low","high"] [] (by kernel_rfl) (vs3 λ_ _ _=>by kernel_rfl) rfl GL_nil ?_
 intro env hsc
 clear hsc
 refine z0e (z0o H) (z0n H) t_within rfl (by kernel_rfl) ?_
 intro F m0
 exact z02 (λh=>qB q (by rw[h];rfl)) λh=>qB q (by rw[h];rfl)
theorem z6G(H:G1 C)(S:Shp σ i k kv es){x:V}{wi:List z0c}{Px:Sto->Prop}(hx:Has σ x (.list (wi.map z0g)) Px)(ok:WishOk wi){pa:Addr}{pk:List (Str×Int)}(hp:At σ pa (dS (pkV pk)))(pb:PkB pk)(pi:PkIn es pk)
  {N:Nat} {R:List Str} (hN:N<=100) (hB:Bf (nx es pk) N [] (wi.map (·.1)) R) (q:Q (.lst (R.map V.str)) σ):CW C (d+4) (.ref 149) [.ref i,x,.ref pa] σ Q:=
 z1e (z7L H S hx ok hp pb pi hN hB λa o hf=>⟨a,o,_,σ,rfl,rfl,q⟩)
theorem Rw.inRv(S:Rw σ ro rv es){w:Str}{e:Int×List z0c}(h:e∈es w):w∈rv.map (·.1):=by
 by_cases hm:w∈rv.map (·.1)
 ·exact hm
 ·rw[S.out w hm] at h;cases h
noncomputable def y2d(pk:List (Str×Int))(w:Str)(mk:Int):List (Str×Int):=if pk.any (λp=>p.1=w) then pk.map (λp=>if p.1=w then(p.1,mk) else p) else pk++[(w,mk)]
theorem y3z(pk:List (Str×Int))(w:Str)(mk:Int):z13 (pkV pk) w (.int mk)=pkV (y2d pk w mk):=by
 unfold z13 y2d pkV
 rw[show(pk.map λp=>(p.1,V.int p.2)).any (λkv=>decide (kv.1=w))=pk.any (λp=>decide (p.1=w)) by rw[List.any_map];rfl]
 split
 ·rw[List.map_map,List.map_map]
  refine List.map_congr_left λp _=> ?_
  show(if p.1=w then(p.1,V.int mk) else(p.1,V.int p.2))=((if p.1=w then(p.1,mk) else p).1,V.int (if p.1=w then(p.1,mk) else p).2)
  split<;>rfl
 ·rw[List.map_append];rfl
theorem y4p(S:Rw σ ro rv es){pk:List (Str×Int)}(hn:(pk.map (·.1)).Nodup)(pi:PkIn es pk):pk.length<=rv.length:=by
 have:=z3Q (r:=rv.map (·.1)) hn λw hw=>by
  apply z0l hw;intro p hp
  obtain⟨ns,hns⟩:=pi p hp
  exact S.inRv hns
 rw[List.length_map,List.length_map] at this
 exact this
theorem PkB.sub{pk pk':List (Str×Int)}(pb:PkB pk)(h:pk'.Sublist pk):PkB pk':=⟨(h.map _).nodup pb.nd,Nat.le_trans h.length_le pb.len,λp hp=>pb.ok p (h.subset hp)⟩
noncomputable def pI(pk:List (Str×Int))(w:Str):Option Int:=(pk.find? (λp=>decide (p.1=w))).map (·.2)
theorem y0c{pk:List (Str×Int)}(hn:(pk.map (·.1)).Nodup){w:Str}{mk:Int}(h:(w,mk)∈pk):pI pk w=some mk:=by
 unfold pI;rw[z3d hn h];rfl
theorem y0O{pk:List (Str×Int)}{w:Str}{mk:Int}(h:pI pk w=some mk):(w,mk)∈pk:=by
 unfold pI at h
 apply z0Z h;rintro ⟨v,n⟩ e
 have h2:=List.find?_some e
 have h3:v=w:=by simpa using h2
 rw[<-h3];exact List.mem_of_find?_eq_some e
theorem z6a{ps:List (Str×Int)}{x:Str}(h:x∉ps.map (·.1)):pI ps x=none:=by unfold pI;rw[z6F h];rfl
theorem z4H{ps:List (Str×Int)}{x:Str}(hn:(ps.map (·.1)).Nodup)(h:x∈ps.map (·.1)):∃m,(x,m)∈ps/\pI ps x=some m:=by
 apply z0l h;rintro ⟨x,m⟩ hp
 exact⟨m,hp,y0c hn hp⟩
end
end
section
section
variable {C:Cx} [HM C] [NF C] {d:Nat} {σ:Sto} {Q:V->Sto->Prop} {i k ro:Addr} {kv rv:List (Str×Addr)} {es:Str->List (Int×List z0c)}
theorem Ware.ok{x:Str}(h:Ware x):PyData.strOk x=true:=by
 unfold PyData.strOk
 rw[<-Array.all_toList,List.all_eq_true]
 intro c hc
 have:=h.lt c hc
 simp[z2L] at this
 exact decide_eq_true (show c<0x110000 by lia)
theorem z8o{α:Type}(f:α->V)(g:α->PyData)(h:∀a,Dp σ (f a) (g a)):∀l:List α,Dps σ (l.map f) (l.map g)
 |[]=> .nil
 |a::l=> .cons (h a) (z8o f g h l)
theorem z8I{α:Type}(g:α->PyData)(hd:∀a,PyData.depth (g a)<=2):∀l:List α,(∀a∈l,PyData.canLay0 (g a)=true)->PyData.canLayAll0 (l.map g)=true/\PyData.depthAll (l.map g)<=2
 |[],_=>⟨rfl,Nat.zero_le _⟩
 |a::l,hc=>by
  have ih:=z8I g hd l λb hb=>hc b (.tail _ hb)
  exact⟨by simp[PyData.canLayAll0,hc a (.head _),ih.1],by have:=ih.2;have:=hd a;simp only[List.map_cons,PyData.depthAll];lia⟩
structure Dat(xs:List V)(ds:List PyData):Prop where
 dp:∀σ,Dps σ xs ds
 sh:SeqAt.shaped (.list ds)=true
 nil:PyData.eqv (.list ds) (.list [])=xs.isEmpty
theorem z6T{α:Type}(f:α->V)(g:α->PyData)(l:List α)(h1:∀σ a,Dp σ (f a) (g a))(hd:∀a,PyData.depth (g a)<=2)(hc:∀a∈l,PyData.canLay0 (g a)=true):
  Dat (l.map f) (l.map g):=by
 refine⟨λσ=>z8o f g (h1 σ) l,?_,by cases l<;>simp[PyData.eqv,PyData.eqvAll]⟩
 have:=z8I g hd l hc
 have h2:PyData.depth (.list (l.map g))<=64:=by
  have:=this.2
  simp only[PyData.depth];lia
 unfold SeqAt.shaped
 rw[show PyData.canLay0 (.list (l.map g))=true from by simp only[PyData.canLay0];exact this.1,decide_eq_true h2];rfl
theorem z57{l:List Str}(h:∀w∈l,Ware w):Dat (l.map V.str) (l.map PyData.str):=
 z6T V.str PyData.str l (λ_ a=> .str a) (λa=>by simp[PyData.depth]) λa ha=>by simp only[PyData.canLay0];exact(h a ha).ok
theorem Has.dp{x:V}{xs:List V}{ds:List PyData}{P:Sto->Prop}(h:Has σ x (.list xs) P)(hd:Dps σ xs ds):Dp σ x (.list ds):=by
 cases h with
 |lst=>exact .lst hd
 |refL h=>exact .ref h hd
theorem y1W{x:V}{xs:List V}{ds:List PyData}{P:Sto->Prop}(D:Dat xs ds)(hx:Has σ x (.list xs) P)(q:Q (.bool (!xs.isEmpty)) σ):AC2 C d (compareOp .NotEq) x (.lst []) σ Q:=by
 refine z8q (hx.dp (D.dp σ)) (.lst .nil) D.sh rfl ?_
 rw[D.nil];exact q
theorem eqvS:∀a b:List Str,PyData.eqvAll (a.map PyData.str) (b.map PyData.str)=decide (a=b)
 |[],[]=>by simp[PyData.eqvAll]
 |[],_::_=>by simp[PyData.eqvAll]
 |_::_,[]=>by simp[PyData.eqvAll]
 |x::a,y::b=>by
  simp only[List.map_cons,PyData.eqvAll,PyData.eqv,eqvS a b,List.cons.injEq]
  by_cases h:x=y
  ·simp[h]
  ·simp[h]
theorem y3b{a b:List Str}(ha:∀w∈a,Ware w)(hb:∀w∈b,Ware w)(q:Q (.bool (decide (a=b))) σ):AC2 C d (compareOp .Eq) (.lst (a.map V.str)) (.lst (b.map V.str)) σ Q:=by
 refine y0y ((Has.lst _).dp ((z57 ha).dp σ)) ((Has.lst _).dp ((z57 hb).dp σ)) (z57 ha).sh (z57 hb).sh ?_
 rw[show PyData.eqv (.list (a.map PyData.str)) (.list (b.map PyData.str))=_ from eqvS a b];exact q
theorem z9F{a b:List Str}(ha:∀w∈a,Ware w)(hb:∀w∈b,Ware w)(q:Q (.bool (!decide (a=b))) σ):AC2 C d (compareOp .NotEq) (.lst (a.map V.str)) (.lst (b.map V.str)) σ Q:=by
 refine z8q ((Has.lst _).dp ((z57 ha).dp σ)) ((Has.lst _).dp ((z57 hb).dp σ)) (z57 ha).sh (z57 hb).sh ?_
 rw[show PyData.eqv (.list (a.map PyData.str)) (.list (b.map PyData.str))=_ from eqvS a b];exact q
theorem z23{l:List Str}(h:∀w∈l,Ware w):∀w∈z1n l,Ware w:=λw hw=>h w ((z21 l).mem_iff.mp hw)
noncomputable def z2o(pk:List (Str×Int))(n:z0c):Bool:=match vAt (pkV pk) n.1 with
 |some (.int mk)=>decide (n.2.1<=mk)&&decide (mk<=n.2.2)
 |_=>false
theorem z8T{pk:List (Str×Int)}{w:Str}{lo hi mk:Int}(h:vAt (pkV pk) w=some (.int mk)):z2o pk (w,lo,hi)=(decide (lo<=mk)&&decide (mk<=hi)):=by unfold z2o;rw[h]
theorem y2h{pk:List (Str×Int)}{w:Str}{lo hi:Int}(h:vAt (pkV pk) w=none):z2o pk (w,lo,hi)=false:=by unfold z2o;rw[h]
noncomputable def z5U(es:Str->List (Int×List z0c))(wi:List z0c)(pk:List (Str×Int))(R:List Str):Bool:=
 decide (z1n (pk.map (·.1))=z1n R)&&(wi.all (z2o pk)&&pk.all λp=>(z0y es p).all (z2o pk))
end
end
section
section
variable {C:Cx} [HM C] [NF C] {d:Nat} {σ:Sto} {Q:V->Sto->Prop} {i k ro:Addr} {kv rv:List (Str×Addr)} {es:Str->List (Int×List z0c)}
noncomputable def z1H(r1:Expr):TC:=⟨[.loc 4,.mty "list",.psh (.int 0),.meth (.bi "list.pop") 1,.asg 5,.loc 5,.loc 3,.tcmpc .NotIn,.ife [.loc 3,.mty "list",.loc 5,.meth (.bi "list.append") 1,.pop,.loc 5,.loc 2,.tcmpc .In,.ife [.loc 4,.raw r1,.binc .Add,.asg 4,.drp] []] []],[.inr r1],[([1,0,1,0,0],some [1])]⟩
--z1H 1
noncomputable def z2U(r1:Stmt)(r2:Stmt):TC:=⟨[.asgL 3,.rawS r1,.rawS r2,.loc 3,.ret],[.inl r1,.inl r2],[([1],none),([2],none)]⟩
--z2U 2
inductive LaI(a0 a1 a2:V)(a:Addr)(nx:Str->List Str)(R:List Str)(σ:Sto)(n:Nat):Loc->Sto->Prop
 |mk {oa ob:Obj} {b:Addr} {v:Option V} {f w:List Str}:Bf nx n f w R->(∀y∈f++w,Ware y)->f.length+n<=100->LaI a0 a1 a2 a nx R σ n [some a0,some a1,some a2,some (.ref a),some (.ref b),v] ((b,ob,.list (w.map V.str))::(a,oa,.list (f.map V.str))::σ)
theorem z9O{n:z0c}{K:V->Sto->Prop}(q:K (.str n.1) σ):SubR C d (z0g n) (.int 0) σ K:=z2w (by with_unfolding_all decide) (by with_unfolding_all decide) (by with_unfolding_all exact rfl) q
theorem z9K(l:List z0c):(l.map z0g).map fstV=(l.map (·.1)).map V.str:=by rw[List.map_map,List.map_map];rfl
theorem z2W(H:G1 C)(S:Rw σ ro rv es){x:V}{wi:List z0c}{Px:Sto->Prop}(hx:Has σ x (.list (wi.map z0g)) Px)(ok:WishOk wi){pa:Addr}{pk:List (Str×Int)}(hp:At σ pa (dS (pkV pk)))(pb:PkB pk)(pi:PkIn es pk)
  {N:Nat} {R:List Str} (hN:N<=100) (hB:Bf (nx es pk) N [] (wi.map (·.1)) R) (q:Q (.lst (R.map V.str)) σ):CW C (d+1) (.ref 324) [.ref ro,x,.ref pa] σ Q:=by
 refine z1e (z08 ?_)
 refine z0D (G1.kin (by assumption)) ["_law_rows_here","_law_wish_here","_law_pick","_law_found","_law_waiting","_law_ware"] [] (by kernel_rfl) (vs3 λ_ _ _=>by kernel_rfl) rfl GL_nil ?_
 intro env hsc
 have hn:((pkV pk).map (·.1)).Nodup:=by rw[z0L];exact pb.nd
 have hrn:((kvV rv).map (·.1)).Nodup:=by rw[z0t];exact S.rwn
 have hro:=S.rows
 have hnw:=z8z (es:=es) (pk:=pk) λw p hp n hn=>((S.eok w).nok p hp).ok n hn
 refine z0e (z0o H) (z0n H) (z2U _ _) (by exact rfl) (by kernel_rfl) ?_
 intro F m0 a o hf
 refine Leaf.mk ?_
 show AS C env ["_law_rows_here","_law_wish_here","_law_pick","_law_found","_law_waiting","_law_ware"] _ true _ (exec _ env) [some (.ref ro),some x,some (.ref pa),some (.ref a),none,none] _ _
 refine z1M "_law_need" [] [] (z1C (by rw[hsc];kernel_rfl)) (by rw[hsc];kernel_rfl) GL_nil .nil (z0J ?_)
 with_reducible refine z0k ?_
 have hx2:=hx.mono (τ:=(a,o,AO.list [])::σ) λp h=> .tail _ h
 refine⟨_,_,hx2,z0A ok.len (by decide),λenv' he=>z1s (f:=fstV) (z0m he (by decide+kernel)) hx2.p _ _ _ (λX hX K hK=> ?_) ?_⟩
 ·revert hK;apply z0l hX;intro n hn hK
  repeat' with_reducible first|refine z0k ?_|refine z0O ?_|refine z0W ?_|fail
  exact z9O hK
 clear hx2
 rw[List.nil_append,z9K]
 intro b ob
 with_reducible refine z2B ?_
 refine Leaf.mk ?_
 show AS C env ["_law_rows_here","_law_wish_here","_law_pick","_law_found","_law_waiting","_law_ware"] _ true _ (exec _ env) [some (.ref ro),some x,some (.ref pa),some (.ref a),some (.ref b),none] _ _
 refine z6K (LaI (.ref ro) x (.ref pa) a (nx es pk) R σ) (λn m τ hI QB hQB=> ?_) N (.mk (f:=[]) hB (λy hy=> ?_) (by rw[List.length_nil,Nat.zero_add];exact hN))
 rotate_left
 ·apply z0l hy;intro n hn
  exact(ok.ok n hn).w
 clear hB hN hx ok
 refine hI.casesOn @λoa ob b v f w hB hw hfl=> ?_
 have hwl:=hB.len
 repeat' with_reducible first|refine z0k ?_|refine z1x ?_|refine z3G ?_|refine z0r ?_|refine⟨by with_unfolding_all exact Nat.le_of_ble_eq_true rfl,?_⟩|fail
 refine y1W (z57 λy hy=>hw y (List.mem_append_right _ hy)) (.refL (.head _)) (z0j ⟨λhb=> ?_,λhb=> ?_⟩)
 ·cases w with
  |nil=>exact ff hb
  |cons y w=>
   clear hb q
   rw[List.length_cons] at hwl
   have hwy:=hw y (List.mem_append_right _ (.head _))
   have hz:((y::w).map V.str).length<=sizeLine:=z0A (n:=100) (by rw[List.length_cons];lia) (by decide)
   have hzf:(f.map V.str).length<=sizeLine:=z0A (n:=100) (by lia) (by decide)
   by_cases hy:y∈f
   ·have hend:∀ob',QB .next [some (.ref ro),some x,some (.ref pa),some (.ref a),some (.ref b),some (.str y)] ((b,ob',.list (w.map V.str))::(a,oa,.list (f.map V.str))::σ):=λob'=>by
     cases hB with
     |take h _=>exact absurd hy h
     | @skip n _ _ _ _ _ hB=>exact hQB n _ _ (Nat.lt_succ_self n) (.mk hB (λz hz=>hw z ((List.mem_append.mp hz).elim (λh=>List.mem_append_left _ h) λh=>List.mem_append_right _ (.tail _ h))) (by lia))
    clear hQB hB
    refine z0e (z0o H) (z0n H) (z1H _) (by exact rfl) (by kernel_rfl) ?_
    intro F m0
    refine Leaf.mk ⟨tyL At.hd,?_⟩
    refine Leaf.mk (z8G hz λob'=> ?_)
    refine Leaf.mk (z3x (.refL (.tail _ (.head _))) (z0j ?_))
    rw[any_mem.mpr hy]
    exact hend ob'
   ·obtain⟨n,rfl,hB2⟩:∃n',n=n'+1/\Bf (nx es pk) n' (f++[y]) (w++nx es pk y) R:=by
     cases hB with
     |skip h _=>exact absurd h hy
     |take _ h=>exact⟨_,rfl,h⟩
    have hwl2:=hB2.len
    rw[List.length_append] at hwl2
    have hw2:∀z∈(f++[y])++(w++nx es pk y),Ware z:=λz hz=>by
     rcases List.mem_append.mp hz with h|h
     ·rcases List.mem_append.mp h with h|h
      ·exact hw z (List.mem_append_left _ h)
      ·rw[List.mem_singleton.mp h];exact hwy
     ·rcases List.mem_append.mp h with h|h
      ·exact hw z (List.mem_append_right _ (.tail _ h))
      ·exact hnw y z h
    have hend:∀b ob' oa' v,QB .next [some (.ref ro),some x,some (.ref pa),some (.ref a),some (.ref b),v] ((b,ob',.list ((w++nx es pk y).map V.str))::(a,oa',.list ((f++[y]).map V.str))::σ):=λb ob' oa' v=>hQB n _ _ (Nat.lt_succ_self n) (.mk hB2 hw2 (by rw[List.length_append];show f.length+1+n<=100;lia))
    clear hQB hB hB2 hw2 hw
    refine z0e (z0o H) (z0n H) (z1H _) (by exact rfl) (by kernel_rfl) ?_
    intro F m0
    refine Leaf.mk ⟨tyL At.hd,?_⟩
    refine Leaf.mk (z8G hz λob'=> ?_)
    refine Leaf.mk (z3x (.refL (.tail _ (.head _))) (z0j ?_))
    rw[show(f.any (·==y))=false from eq_false_of_ne_true λh=>hy (any_mem.mp h)]
    refine Leaf.mk ⟨tyL (At.cons _ At.hd),?_⟩
    refine Leaf.mk (z4y (σ':=λo'=>(b,ob',.list (w.map V.str))::(a,o',.list (f.map V.str++[.str y]))::σ) (λo'=> .tail .head) hzf λoa'=> ?_)
    rw[show f.map V.str++[V.str y]=(f++[y]).map V.str by rw[List.map_append];rfl]
    refine Leaf.mk (z29 H.ns ((hp.cons _).cons _) hn (z0j ?_))
    rcases z8s pb pi y (S.eok y).nd with⟨_,e1,e2⟩|⟨mk,ns,hpm,e1,hns,e2⟩
    ·rw[e1]
     rw[e2,List.append_nil] at hend
     exact hend _ _ _ _
    ·rw[e1]
     have hym:y∈rv.map (·.1):=by
      by_cases h:y∈rv.map (·.1)
      ·exact h
      ·rw[S.out y h] at hns;cases hns
     obtain⟨rb,hrb,hv1,hat⟩:=S.at hym
     have hen:((esV (es y)).map (·.1)).Nodup:=by rw[z0q];exact(S.eok y).nd
     have hv2:vAt (esV (es y)) mk=some (.lst (ns.map z0g)):=z0B hen (List.mem_map.mpr ⟨_,hns,rfl⟩)
     have hnl:=((S.eok y).nok _ hns).len
     refine Leaf.mk ?_
     show AT C env ["_law_rows_here","_law_wish_here","_law_pick","_law_found","_law_waiting","_law_ware"] _ true _ (eval _ env) [some (.ref ro),some x,some (.ref pa),some (.ref a),some (.ref b),some (.str y)] _ _
     refine z0P "_law_need" [] [] (by rw[hsc];kernel_rfl) GL_nil .nil (z0J ?_)
     repeat' with_reducible first|refine z0k ?_|refine z0W ?_|refine z1F ((hro.cons _).cons _) hrn hv1 ?_|refine z1F ((hp.cons _).cons _) hn e1 ?_|refine z8Z ((hat.cons _).cons _) hen hv2 ?_|fail
     refine⟨_,_,.lst _,z0A hnl (by decide),λenv' he=>z1s (f:=fstV) (z0m he (by decide+kernel)) trivial _ _ _ (λX hX K hK=> ?_) ?_⟩
     ·revert hK;apply z0l hX;intro n hn hK
      repeat' with_reducible first|refine z0k ?_|refine z0O ?_|refine z0W ?_|fail
      exact z9O hK
     rw[List.nil_append,z9K,<-e2]
     refine Leaf.mk (z28 (.refL (.head _)) (.lst _) (z0x (by rw[List.length_map,List.length_map];lia)) (y4u λc oc=> ?_))
     rw[<-List.map_append]
     refine Leaf.mk ⟨(c,oc,.list ((w++nx es pk y).map V.str))::(a,oa',.list ((f++[y]).map V.str))::σ,.cons_cons _ (List.sublist_cons_self _ _),?_⟩
     exact hend _ _ _ _
 ·cases w with
  |nil=>
   have hfR:f=R:=by cases hB;rfl
   subst hfR
   exact⟨_,List.sublist_cons_self _ _,a,oa,_,σ,rfl,rfl,q⟩
  |cons y w=>exact tf hb
end
end
section
section
variable {C:Cx} [HM C] [NF C] {d:Nat} {σ:Sto} {Q:V->Sto->Prop} {i k ro:Addr} {kv rv:List (Str×Addr)} {es:Str->List (Int×List z0c)}
theorem y2Q{l:List (Str×Int)}(h:∀p∈l,(z0y es p).length<=6):(l.flatMap (z0y es)).length<=6*l.length:=by
 induction l with
 |nil=>exact Nat.le_refl _
 |cons p l ih=>
  have h1:=h p (.head _)
  have h2:=ih λp hp=>h p (.tail _ hp)
  rw[List.flatMap_cons,List.length_append,List.length_cons];lia
theorem y3g(pk:List (Str×Int))(wi:List z0c):(wi++pk.flatMap (z0y es)).all (z2o pk)=(wi.all (z2o pk)&&pk.all λp=>(z0y es p).all (z2o pk)):=by rw[List.all_append,List.all_flatMap]
noncomputable def t__law_meets_1:TC:=⟨[.loc 4,.loc 2,.tcmpc .NotIn,.mop .Or [.loc 5,.loc 2,.loc 4,.sub,.tcm2 .LtE [.loc 6,.tcmpc .LtE],.not,.mop .Or [.psh (.bool false)]],.ife [.psh (.bool false),.ret] []],[],[]⟩
--t__law_meets_1 0
noncomputable def z3J(r1:Stmt):TC:=⟨[.loc 1,.call (.type "list") 1,.asg 3,.loc 2,.forDS 4 [.loc 3,.loc 0,.loc 4,.sub,.loc 2,.loc 4,.sub,.sub,.binc .Add,.asg 3],.rawS r1,.loc 2,.call (.bi "sorted") 1,.loc 0,.loc 1,.loc 2,.call (.ref 324) 3,.call (.bi "sorted") 1,.cmpc .Eq,.ret],[.inl r1],[([2],none)]⟩
--z3J 1
inductive LmI(a0 a1 a2:V)(es:Str->List (Int×List z0c))(wi:List z0c)(pk:List (Str×Int))(σ:Sto)(j:Nat):Loc->Sto->Prop
 |mk {v:Option V}:LmI a0 a1 a2 es wi pk σ j [some a0,some a1,some a2,some (.lst ((wi++(pk.take j).flatMap (z0y es)).map z0g)),v,none,none] σ
inductive LnI(a0 a1 a2 a3:V)(al:List z0c)(pk:List (Str×Int))(σ:Sto)(j:Nat):Loc->Sto->Prop
 |mk {v1 v2 v3:Option V}:(al.take j).all (z2o pk)=true->LnI a0 a1 a2 a3 al pk σ j [some a0,some a1,some a2,some a3,v1,v2,v3] σ
theorem z6x(H:G1 C)(S:Rw σ ro rv es){x:V}{wi:List z0c}{Px:Sto->Prop}(hx:Has σ x (.list (wi.map z0g)) Px)(ok:WishOk wi){pa:Addr}{pk:List (Str×Int)}(hp:At σ pa (dS (pkV pk)))(pb:PkB pk)(pi:PkIn es pk)
  {N:Nat} {R:List Str} (hN:N<=100) (hB:Bf (nx es pk) N [] (wi.map (·.1)) R) (hRw:∀w∈R,Ware w) (hRl:R.length<=60) (q:Q (.bool (z5U es wi pk R)) σ):CW C (d+2) (.ref 331) [.ref ro,x,.ref pa] σ Q:=by
 refine z0D (G1.kin (by assumption)) ["_law_rows_here","_law_wish_here","_law_pick","_law_needs_here","_law_ware","_law_low","_law_high"] [("list",.type "list"),("sorted",.bi "sorted"),("_law_agenda",.ref 324)] (by kernel_rfl) (vs3 λ_ _ _=>by kernel_rfl) rfl (z0a (z0N (by assumption)) (z0a (z1O (by assumption)) (z0a (z1X (by assumption)) GL_nil))) ?_
 intro env hsc
 clear hsc
 have hpn:((pkV pk).map (·.1)).Nodup:=by rw[z0L];exact pb.nd
 have hrn:((kvV rv).map (·.1)).Nodup:=by rw[z0t];exact S.rwn
 have hro:=S.rows
 have hkw:∀w∈pk.map (·.1),Ware w:=λw hw=>by
  apply z0l hw;intro p hp
  exact(pb.ok p hp).1
 have hnd:∀p∈pk,(z0y es p).length<=6:=λp hp=>by
  obtain⟨ns,hns⟩:=pi p hp
  rw[show z0y es p=ns from z04 (S.eok p.1).nd hns]
  exact((S.eok p.1).nok _ hns).len
 have hlen:∀j,(wi++(pk.take j).flatMap (z0y es)).length<=80:=λj=>by
  have h1:=y2Q (es:=es) (l:=pk.take j) λp hp=>hnd p (List.mem_of_mem_take hp)
  have h2:(pk.take j).length<=pk.length:=(List.take_sublist _ _).length_le
  have h12:=pb.len
  have h8:=ok.len
  rw[List.length_append];lia
 obtain⟨o,hm⟩:=id hp
 refine z0e (z0o H) (z0n H) (z3J _) (by exact rfl) (by kernel_rfl) ?_
 intro F m0
 refine Leaf.mk (z1W hx (z0A ok.len (by decide)) (.inl ?_))
 have h0:LmI (.ref ro) x (.ref pa) es wi pk σ 0 [some (.ref ro),some x,some (.ref pa),some (.lst ((wi++(pk.take 0).flatMap (z0y es)).map z0g)),none,none,none] σ:= .mk
 rw[List.take_zero,List.flatMap_nil,List.append_nil] at h0
 refine Leaf.mk (.mk pa o (pkV pk) (LmI (.ref ro) x (.ref pa) es wi pk σ) rfl H.ns hm hpn h0 (λj p hX m τ hI QB hQB _=> ?_) λm τ hI=> ?_)
 ·clear h0 q
  refine hI.casesOn @λv=> ?_
  rw[List.getElem?_map] at hX
  apply z0Z hX;rintro ⟨w,mk⟩ hpe
  have hpm:=List.mem_of_getElem? hpe
  have hv:vAt (pkV pk) w=some (.int mk):=z0B hpn (List.mem_map.mpr ⟨_,hpm,rfl⟩)
  obtain⟨ns,hns⟩:=pi _ hpm
  have hnd2:=z04 (S.eok w).nd hns
  obtain⟨b,hb,hrb,hat⟩:=S.at (S.inRv hns)
  have hen:((esV (es w)).map (·.1)).Nodup:=by rw[z0q];exact(S.eok w).nd
  have hv2:vAt (esV (es w)) mk=some (.lst (ns.map z0g)):=z0B hen (List.mem_map.mpr ⟨_,hns,rfl⟩)
  have htk:wi++(pk.take (j+1)).flatMap (z0y es)=(wi++(pk.take j).flatMap (z0y es))++ns:=by
   rw[z1w hpe,List.flatMap_append,List.append_assoc,List.flatMap_cons,List.flatMap_nil,List.append_nil,hnd2]
  have hlj:=hlen (j+1)
  have hend:QB .next [some (.ref ro),some x,some (.ref pa),some (.lst ((wi++(pk.take (j+1)).flatMap (z0y es)).map z0g)),some (.str w),none,none] σ:=hQB _ _ hm .mk
  rw[htk] at hend hlj
  rw[List.map_append] at hend
  clear hQB htk hX hpe hnd2 hlen
  refine Leaf.mk (z1F hro hrn hrb ?_)
  refine Leaf.mk (z1F hp hpn hv ?_)
  refine Leaf.mk (z8Z hat hen hv2 ?_)
  refine Leaf.mk (z28 (.lst _) (.lst _) (z0x (by rw[List.length_append] at hlj;rw[List.length_map,List.length_map];exact Nat.le_trans hlj (by decide))) (z45 ?_))
  exact hend
 refine hI.casesOn @λv=> ?_
 rw[List.length_map,List.take_length]
 have hal:=hlen pk.length
 rw[List.take_length] at hal
 have hmt:=y3g (es:=es) pk wi
 have q:Q (.bool (decide (z1n (pk.map (·.1))=z1n R)&&(wi.all (z2o pk)&&pk.all λp=>(z0y es p).all (z2o pk)))) σ:=q
 rw[<-hmt] at q
 generalize wi++pk.flatMap (z0y es)=al at hal q⊢
 clear hmt hlen hnd h0
 refine Leaf.mk ?_
 show AS C env ["_law_rows_here","_law_wish_here","_law_pick","_law_needs_here","_law_ware","_law_low","_law_high"] _ true _ (exec _ env) [some (.ref ro),some x,some (.ref pa),some (.lst (al.map z0g)),v,none,none] _ _
 refine z4L (LnI (.ref ro) x (.ref pa) (.lst (al.map z0g)) al pk σ) (z0J ?_)
 with_reducible refine z0k ?_
 refine⟨_,_,.lst _,.mk rfl,λj X hX m τ hI QB hQB hQR=> ?_,λm τ hI=> ?_⟩
 ·refine hI.casesOn @λv1 v2 v3 hall=> ?_
  rw[List.getElem?_map] at hX
  apply z0Z hX;rintro ⟨w,lo,hi⟩ hne
  have hnm:=List.mem_of_getElem? hne
  have htk:(al.take (j+1)).all (z2o pk)=z2o pk (w,lo,hi):=by
   rw[z1w hne,List.all_append,hall]
   exact(Bool.true_and _).trans (Bool.and_true _)
  have hbad:z2o pk (w,lo,hi)=false->∀m,QB (.ret (.bool false)) m σ:=λh m=>hQR _ _ _ (qB q (by
   rw[show al.all (z2o pk)=false from List.all_eq_false.mpr ⟨_,hnm,by rw[h];exact Bool.false_ne_true⟩,Bool.and_false]))
  have hgood:z2o pk (w,lo,hi)=true->QB .next [some (.ref ro),some x,some (.ref pa),some (.lst (al.map z0g)),some (.str w),some (.int lo),some (.int hi)] σ:=λh=>hQB _ _ trivial (.mk (htk.trans h))
  clear hQB hQR htk hall hX hne hnm q
  show AA C env _ _ _ _ _ (V.tup [.str w,.int lo,.int hi]) _ _ _
  with_reducible refine y4j ?_
  with_reducible refine z0v PutC.put ?_
  with_reducible refine z0v PutC.put ?_
  with_reducible refine z0v PutC.put ?_
  refine z0e (z0o H) (z0n H) t__law_meets_1 rfl (by kernel_rfl) ?_
  intro F m0
  refine Leaf.mk (z50 H.ns hp hpn (z0j ?_))
  by_cases hm2:w∈pk.map (·.1)
  ·obtain⟨mk,hpm,_⟩:=z4H pb.nd hm2
   have hv:vAt (pkV pk) w=some (.int mk):=z0B hpn (List.mem_map.mpr ⟨_,hpm,rfl⟩)
   rw[hv]
   rw[z8T hv] at hgood hbad
   refine Leaf.mk (z1F hp hpn hv ?_)
   refine z02 (λh1=> ?_) λh1=> ?_
   ·rw[h1,Bool.true_and] at hbad hgood
    refine z02 (λh2=> ?_) λh2=> ?_
    ·exact hbad ((Bool.not_eq_true' _).mp h2) _
    ·exact hgood ((Bool.not_eq_false' _).mp h2)
   ·rw[h1,Bool.false_and] at hbad
    exact hbad rfl _
  ·have hv:vAt (pkV pk) w=none:=z1E (by rw[z0L];exact hm2)
   rw[hv]
   exact hbad (y2h hv) _
 refine hI.casesOn @λv1 v2 v3 hall=> ?_
 rw[List.length_map,List.take_length] at hall
 rw[hall,Bool.and_true] at q
 refine Leaf.mk (z67 H.ns hp hpn (by rw[List.length_map];exact Nat.lt_of_le_of_lt pb.len (by decide)) (.inl ?_))
 rw[z0L]
 refine Leaf.mk (fnc (z2W H S hx ok hp pb pi hN hB ?_))
 refine Leaf.mk (z4v (.lst _) (Nat.lt_of_le_of_lt hRl (by decide)) (.inl ?_))
 exact⟨y3b (z23 hkw) (z23 hRw) q⟩
end
end
section
section
variable {C:Cx} [HM C] [NF C] {d:Nat} {σ:Sto} {Q:V->Sto->Prop}
open AutoSeq1 (wpAny_loadPart')
theorem y1C(l b:Addr)(items items2:Array Value)(n n2:Nat)(hsz:(items.size !=items2.size)=true):
  MeetsIn C.prog C.w (Builtin.«list.__eq__» ⟨[.ref l,.ref b],[]⟩)
   (λA R s=>s.heap.get? l=some (z0p items n)/\s.heap.get? b=some (z0p items2 n2)/\R (.ok (.ret (.bool false))) s):=by
 intro A R s h
 obtain⟨hp,g,d,tk,os⟩:=s;obtain⟨hl,hb,h⟩:=h
 have f3:=AutoSeq1.sub_list_list
 wp_walk using wpAny_loadPart' hl,wpAny_loadPart' hb
 exact h
theorem y0b{xs:List V}(q:Q (.bool xs.isEmpty) σ):AC2 C d (compareOp .Eq) (.lst xs) (.lst []) σ Q:=by
 cases xs with
 |nil=>exact y0y (.lst .nil) (.lst .nil) rfl rfl q
 |cons X xs=>
  intro A G D s v u hA R hv hu
  obtain⟨a,ws,n,rfl,ho,hr⟩:=(Has.lst (σ:=σ) (X::xs)).isList R hv
  obtain⟨b,zs,n',rfl,ho',hr'⟩:=(Has.lst (σ:=σ) []).isList R hu
  have e1:ws.size=xs.length+1:=by rw[<-Array.length_toList,hr.length,List.length_cons]
  have e2:zs.size=0:=by rw[<-Array.length_toList,hr'.length];rfl
  refine wpAny_richCompare_same_room (op:= .Eq) (T:="list") ⟨_,ho,rfl⟩ ⟨_,ho',rfl⟩ F.slot_list_eq (call_meetsIn F.slot_list_eq ⟨_,ho,rfl⟩ F.entry_list_eq (F.args_list_eq_2 _ _) (y1C a b ws zs n n' (by rw[e1,e2];rfl)) ⟨ho,ho',?_⟩) hA.line0
  exact⟨(λx=>nomatch x),PostC.now R (.bool _) q⟩
end
section
variable {C:Cx} [HM C] [NF C] {d:Nat} {σ:Sto} {Q:V->Sto->Prop} {i k ro:Addr} {kv rv:List (Str×Addr)} {er es:Str->List (Int×List z0c)}
noncomputable def prV(p:Str×Int):V:= .tup [.str p.1,.int p.2]
theorem z82{env:Env}{vars:List Str}{gl:List (Str×V)}{own:Bool}{m:Loc}{elt tgt iter:Expr}{ifs:List Expr}{scope:Scope}{pos:Pos}{ms:Loc}(x y:Str)(caps:List Str)(gl':List (Str×V))
  (hok:z1v scope env.scope vars [x,y] caps (gl'.map (·.1))=true) (hgl:∀p∈gl',z0f C p.1 p.2) (hcaps:Caps vars m caps ms)
  (h:AI C env vars gl own d iter tgt m σ λxs Pp σ₁=>xs.length<=sizeLine/\∀env',env'.scope=relabel scope env->
   z0S C env' (x::y::caps) gl' d tgt elt ifs Pp (λys σ₂=>Q (.lst ys) σ₂) xs [] (none::none::ms) σ₁)
  (hs:autoParam (∀x,foldedSetIterable iter env x=pure x) auF):
  AT C env vars gl own d (eval (.ListComp elt [⟨tgt,iter,ifs,0⟩] scope pos) env) m σ Q:=z7j [x,y] caps gl' hok hgl hcaps h hs
end
end
section
section
variable {es:Str->List (Int×List z0c)} {wi:List z0c} {ps:List (Str×Int)} {w:Str}
noncomputable def z2y(st:List (Int×Int))(m:Int):Bool:=st.all λp=>decide (p.1<=m)&&decide (m<=p.2)
noncomputable def z07(es:Str->List (Int×List z0c))(w:Str):List Int:=(z1g ((es w).map (·.1))).reverse
noncomputable def lfF(es:Str->List (Int×List z0c))(w:Str)(st:List (Int×Int)):List Int:=(z07 es w).filter (z2y st)
theorem y2f{st:List (Int×Int)}{p:Int×Int}:lfF es w (st++[p])=(lfF es w st).filter λm=>decide (p.1<=m)&&decide (m<=p.2):=by
 unfold lfF
 rw[List.filter_filter]
 congr 1
 funext m
 unfold z2y
 rw[List.all_append,Bool.and_comm];simp
theorem desM_len:(z07 es w).length=(es w).length:=by unfold z07;rw[List.length_reverse,(z01 _).length_eq,List.length_map]
theorem z3C{m:Int}(h:m∈z07 es w):∃ns,(m,ns)∈es w:=by
 obtain⟨⟨m,ns⟩,hm,rfl⟩:=List.mem_map.mp ((z01 _).mem_iff.mp (List.mem_reverse.mp h))
 exact⟨ns,hm⟩
theorem z6h{st:List (Int×Int)}:(lfF es w st).length<=(es w).length:=Nat.le_trans (List.length_filter_le _ _) (Nat.le_of_eq desM_len)
theorem y3H{st:List (Int×Int)}{m:Int}(h:m∈lfF es w st):∃ns,(m,ns)∈es w:=z3C (List.mem_filter.mp h).1
theorem z26(ps:List (Str×Int))(x:Str):vAt (pkV ps) x=(pI ps x).map V.int:=by
 unfold vAt pI pkV
 rw[List.find?_map]
 cases e:List.find? ((λp:Str×V=>decide (p.1=x))∘λp:Str×Int=>(p.1,V.int p.2)) ps with
 |none=>rw[show List.find? (λp:Str×Int=>decide (p.1=x)) ps=none from e];rfl
 |some p=>rw[show List.find? (λp:Str×Int=>decide (p.1=x)) ps=some p from e];rfl
theorem z8n{α:Type}{p:α->Bool}{l:List α}{j:Nat}{x:α}(h:l[j]? =some x)(hp:p x=true)(hn:∀y∈l.take j,p y=false):l.find? p=some x:=by
 obtain⟨hj,e⟩:=List.getElem?_eq_some_iff.mp h
 have el:l=l.take j++x::l.drop (j+1):=by rw[<-e,List.getElem_cons_drop,List.take_append_drop]
 rw[el,List.find?_append,List.find?_eq_none.mpr (λy hy=>by rw[hn y hy];exact Bool.false_ne_true),List.find?_cons_of_pos hp];rfl
theorem z5B{α:Type}{P:α->Prop}{l:List α}{j:Nat}{x:α}(h:l[j]? =some x)(hn:∀y∈l.take j,P y)(hx:P x):∀y∈l.take (j+1),P y:=λy hy=>by
 rw[List.take_add_one,h] at hy
 rcases List.mem_append.mp hy with hy|hy
 ·exact hn y hy
 ·rw[List.mem_singleton.mp hy];exact hx
end
end
section
section
variable {C:Cx} [HM C] [NF C] {d:Nat} {σ:Sto} {Q:V->Sto->Prop} {i k:Addr} {kv:List (Str×Addr)} {es:Str->List (Int×List z0c)} {wi:List z0c} {ps:List (Str×Int)} {w:Str}
noncomputable abbrev aV(p:Int×V):V:= .tup [.int p.1,p.2]
inductive Src
 |wish (k:Nat)
 |need (o:Str) (mk:Int) (k:Nat)
 |pick (o:Str) (mk:Int)
noncomputable def srcV:Src->V
 | .wish k=> .tup [.str "wish",.int (k:Int)]
 | .need o mk k=> .tup [.str "need",.str o,.int mk,.int (k:Int)]
 | .pick o mk=> .tup [.str "pick",.str o,.int mk]
inductive SrcOk(es:Str->List (Int×List z0c))(wi:List z0c)(ps:List (Str×Int))(w:Str):Src->Int->Int->Prop
 |wish {k:Nat} {lo hi:Int}:wi[k]? =some (w,lo,hi)->SrcOk es wi ps w (.wish k) lo hi
 |need {o:Str} {mk:Int} {k:Nat} {ns:List z0c} {lo hi:Int}:(o,mk)∈ps->(mk,ns)∈es o->ns[k]? =some (w,lo,hi)->SrcOk es wi ps w (.need o mk k) lo hi
 |pick {mk:Int}:(w,mk)∈ps->SrcOk es wi ps w (.pick w mk) mk mk
theorem SrcOk.mono{ps':List (Str×Int)}{s:Src}{lo hi:Int}(h:SrcOk es wi ps w s lo hi)(hk:∀p∈ps,p∈ps'):SrcOk es wi ps' w s lo hi:=by
 cases h with
 |wish h=>exact .wish h
 |need a b c=>exact .need (hk _ a) b c
 |pick a=>exact .pick (hk _ a)
theorem z3K{x:Str}(h:(decide (x.length<=100)&&x.cps.toList.all λc=>decide (c<128))=true):Asc x:=by
 rw[Bool.and_eq_true] at h
 exact⟨of_decide_eq_true h.1,λc hc=>of_decide_eq_true (List.all_eq_true.mp h.2 c hc)⟩
noncomputable def t_is_number:TC:=⟨[.loc 0,.isi .int,.vop .And [.loc 0,.isi .bool,.una .Not,.vop .And [.psh (.int 0),.loc 0,.cm2 .LtE [.loc 1,.cmpc .Lt]]],.ret],[],[]⟩
--t_is_number 0
noncomputable def t__law_place:TC:=⟨[.loc 0,.isi .int,.vop .And [.loc 0,.isi .bool,.una .Not,.vop .And [.psh (.int 0),.loc 0,.cm2 .LtE [.loc 1,.cmpc .Lt]]],.ret],[],[]⟩
--t__law_place 0
noncomputable def t_is_granted:TC:=⟨[.loc 1,.call (.ref 116) 1,.vop .And [.loc 2,.call (.ref 123) 1,.vop .And [.loc 0,.mty "dict",.loc 1,.meth (.bi "dict.get") 1,.loc 2,.cmpc .Eq]],.ret],[],[]⟩
--t_is_granted 0
noncomputable def t__law_granted:TC:=⟨[.loc 1,.subT 1,.isi .str,.tvalc,.not,.mop .Or [.loc 1,.subT 2,.isi .int,.tvalc,.not,.mop .Or [.loc 1,.subT 2,.isi .bool,.tvalc,.mop .Or [.psh (.bool false)]]],.ife [.psh (.bool false),.ret] [],.loc 1,.subT 1,.loc 0,.cmpc .In,.vop .And [.loc 0,.loc 1,.subT 1,.sub,.loc 1,.subT 2,.cmpc .Eq],.ret],[],[]⟩
--t__law_granted 0
theorem z3Y(H:G1 C){k m:Nat}(h:k<m)(q:Q (.bool true) σ):CW C (d+1) (.ref 156) [.int (k:Int),.int (m:Int)] σ Q:=by
 refine z0D (G1.kin (by assumption)) ["thing","many"] [("isinstance",.bi "isinstance"),("int",.type "int"),("bool",.type "bool")] (by kernel_rfl) (vs2 λ_ _=>by kernel_rfl) rfl (z0a (z0h (by assumption)) (z0a (z8N (by assumption)) (z0a (z2t (by assumption)) GL_nil))) ?_
 intro env hsc
 clear hsc
 refine z0e (z0o H) (z0n H) t_is_number rfl (by kernel_rfl) ?_
 intro F m0
 refine Leaf.mk (z4k z1Y ?_)
 exact qB q (decide_eq_true (Int.ofNat_lt.mpr h)).symm
theorem z3z(H:G1 C){k m:Nat}(h:k<m)(q:Q (.bool true) σ):CW C (d+1) (.ref 338) [.int (k:Int),.int (m:Int)] σ Q:=by
 refine z0D (G1.kin (by assumption)) ["_law_thing","_law_many"] [("isinstance",.bi "isinstance"),("int",.type "int"),("bool",.type "bool")] (by kernel_rfl) (vs2 λ_ _=>by kernel_rfl) rfl (z0a (z0h (by assumption)) (z0a (z8N (by assumption)) (z0a (z2t (by assumption)) GL_nil))) ?_
 intro env hsc
 clear hsc
 refine z0e (z0o H) (z0n H) t__law_place rfl (by kernel_rfl) ?_
 intro F m0
 refine Leaf.mk (z4k z1Y ?_)
 exact qB q (decide_eq_true (Int.ofNat_lt.mpr h)).symm
theorem z8c(pb:PkB ps){x:Str}{m:Int}(h:(x,m)∈ps):vAt (pkV ps) x=some (.int m):=by rw[z26,y0c pb.nd h];rfl
theorem z3a(H:G1 C){ga:Addr}(hg:At σ ga (dS (pkV ps)))(pb:PkB ps){x:Str}{m:Int}(h:(x,m)∈ps)(q:Q (.bool true) σ):CW C (d+2) (.ref 163) [.ref ga,.str x,.int m] σ Q:=by
 refine z0D (G1.kin (by assumption)) ["granted","ware","make"] [("is_ware",.ref 116),("is_make",.ref 123)] (by kernel_rfl) (vs3 λ_ _ _=>by kernel_rfl) rfl (z0a (z19 (by assumption)) (z0a (z2N (by assumption)) GL_nil)) ?_
 intro env hsc
 clear hsc
 have hn:((pkV ps).map (·.1)).Nodup:=by rw[z0L];exact pb.nd
 obtain⟨hw,h1,h2⟩:=pb.ok _ h
 obtain⟨og,hgm⟩:=hg
 refine z0e (z0o H) (z0n H) t_is_granted rfl (by kernel_rfl) ?_
 intro F m0
 refine Leaf.mk (fnc (z2a H hw ?_))
 refine Leaf.mk (fnc (z11 H h1 h2 ?_))
 refine Leaf.mk ⟨tyD ⟨og,hgm⟩,?_⟩
 refine Leaf.mk (y3a (KK.str C.prog C.w) H.ns hgm hn ?_)
 rw[z8c pb h]
 exact qB q (decide_eq_true rfl).symm
theorem z2F(H:G1 C){ga:Addr}(hg:At σ ga (dS (pkV ps)))(pb:PkB ps){x0:V}{x:Str}{m:Int}{r:List V}(h:(x,m)∈ps)(q:Q (.bool true) σ):CW C (d+1) (.ref 345) [.ref ga,.tup (x0:: .str x:: .int m::r)] σ Q:=by
 refine z0D (G1.kin (by assumption)) ["_law_granted_here","_law_source_here"] [("isinstance",.bi "isinstance"),("str",.type "str"),("int",.type "int"),("bool",.type "bool")] (by kernel_rfl) (vs2 λ_ _=>by kernel_rfl) rfl (z0a (z0h (by assumption)) (z0a (z2G (by assumption)) (z0a (z8N (by assumption)) (z0a (z2t (by assumption)) GL_nil)))) ?_
 intro env hsc
 clear hsc
 have hn:((pkV ps).map (·.1)).Nodup:=by rw[z0L];exact pb.nd
 refine z0e (z0o H) (z0n H) t__law_granted rfl (by kernel_rfl) ?_
 intro F m0
 refine Leaf.mk (z29 H.ns hg hn ?_)
 rw[z8c pb h]
 refine Leaf.mk (z1F hg hn (z8c pb h) ?_)
 exact qB q (decide_eq_true rfl).symm
end
end
section
section
variable {C:Cx} [HM C] [NF C] {d:Nat} {σ:Sto} {Q:V->Sto->Prop} {i k ro:Addr} {kv rv:List (Str×Addr)} {es:Str->List (Int×List z0c)} {wi:List z0c} {ps:List (Str×Int)} {w:Str}
noncomputable def t_stretch_of:TC:=⟨[.loc 4,.isi .tup,.tvalc,.not,.mop .Or [.loc 4,.len,.psh (.int 0),.tcmpc .Eq,.mop .Or [.loc 4,.subT 0,.isi .str,.tvalc,.not,.mop .Or [.psh (.bool false)]]],.ife [.psh .none,.ret] [],.psh .none,.asg 5,.loc 4,.subT 0,.psh (.str "wish"),.tcmpc .Eq,.mop .And [.loc 4,.len,.psh (.int 2),.tcmpc .Eq,.mop .And [.loc 4,.subT 1,.loc 1,.len,.call (.ref 156) 2,.tvalc,.mop .And [.psh (.bool true)]]],.ife [.loc 1,.loc 4,.subT 1,.sub,.asg 5] [],.loc 4,.subT 0,.psh (.str "pick"),.tcmpc .Eq,.mop .And [.loc 4,.len,.psh (.int 3),.tcmpc .Eq,.mop .And [.loc 2,.loc 4,.subT 1,.loc 4,.subT 2,.call (.ref 163) 3,.tvalc,.mop .And [.psh (.bool true)]]],.ife [.loc 4,.subT 1,.loc 4,.subT 2,.loc 4,.subT 2,.tup 3,.asg 5] [],.loc 4,.subT 0,.psh (.str "need"),.tcmpc .Eq,.mop .And [.loc 4,.len,.psh (.int 4),.tcmpc .Eq,.mop .And [.loc 2,.loc 4,.subT 1,.loc 4,.subT 2,.call (.ref 163) 3,.tvalc,.mop .And [.psh (.bool true)]]],.ife [.loc 0,.mI 272 "needs",.loc 4,.subT 1,.loc 4,.subT 2,.meth (.ref 262) 2,.asg 6,.loc 4,.subT 3,.loc 6,.len,.call (.ref 156) 2,.tvalc,.ife [.loc 6,.loc 4,.subT 3,.sub,.asg 5] []] [],.loc 5,.psh .none,.tcmpc .Is,.mop .Or [.loc 5,.subT 0,.loc 3,.tcmpc .NotEq,.mop .Or [.psh (.bool false)]],.ife [.psh .none,.ret] [],.loc 5,.subT 1,.loc 5,.subT 2,.tup 2,.ret],[],[]⟩
--t_stretch_of 0
noncomputable def t__law_source:TC:=⟨[.psh .none,.asg 5,.loc 4,.isi .tup,.tvalc,.not,.mop .Or [.loc 4,.len,.psh (.int 2),.tcmpc .Lt,.mop .Or [.loc 4,.subT 0,.isi .str,.tvalc,.not,.mop .Or [.psh (.bool false)]]],.ife [.psh .none,.ret] [],.loc 4,.subT 0,.psh (.str "wish"),.tcmpc .Eq,.mop .And [.loc 4,.len,.psh (.int 2),.tcmpc .Eq,.mop .And [.loc 4,.subT 1,.loc 1,.len,.call (.ref 338) 2,.tvalc,.mop .And [.psh (.bool true)]]],.ife [.loc 1,.loc 4,.subT 1,.sub,.asg 5] [],.loc 4,.subT 0,.psh (.str "need"),.tcmpc .Eq,.mop .And [.loc 4,.len,.psh (.int 4),.tcmpc .Eq,.mop .And [.loc 2,.loc 4,.call (.ref 345) 2,.tvalc,.mop .And [.psh (.bool true)]]],.ife [.loc 0,.loc 4,.subT 1,.sub,.loc 4,.subT 2,.sub,.asg 6,.loc 4,.subT 3,.loc 6,.len,.call (.ref 338) 2,.tvalc,.ife [.loc 6,.loc 4,.subT 3,.sub,.asg 5] []] [],.loc 4,.subT 0,.psh (.str "pick"),.tcmpc .Eq,.mop .And [.loc 4,.len,.psh (.int 3),.tcmpc .Eq,.mop .And [.loc 2,.loc 4,.call (.ref 345) 2,.tvalc,.mop .And [.psh (.bool true)]]],.ife [.loc 4,.subT 1,.loc 4,.subT 2,.loc 4,.subT 2,.tup 3,.asg 5] [],.loc 5,.psh .none,.tcmpc .Is,.mop .Or [.loc 5,.subT 0,.loc 3,.tcmpc .NotEq,.mop .Or [.psh (.bool false)]],.ife [.psh .none,.ret] [],.loc 5,.subT 1,.loc 5,.subT 2,.tup 2,.ret],[],[]⟩
--t__law_source 0
theorem tg_w:∃t:Str,"wish"=t/\(t==("wish":Str))=true/\(t==("pick":Str))=false/\(t==("need":Str))=false:=⟨_,rfl,by decide+kernel,by decide+kernel,by decide+kernel⟩
theorem tg_p:∃t:Str,"pick"=t/\(t==("wish":Str))=false/\(t==("pick":Str))=true/\(t==("need":Str))=false:=⟨_,rfl,by decide+kernel,by decide+kernel,by decide+kernel⟩
theorem tg_n:∃t:Str,"need"=t/\(t==("wish":Str))=false/\(t==("pick":Str))=false/\(t==("need":Str))=true:=⟨_,rfl,by decide+kernel,by decide+kernel,by decide+kernel⟩
theorem y1d(w:Str):(!(w==w))=false:=by rw[beq_self_eq_true];rfl
theorem z3b(H:G1 C)(S:Shp σ i k kv es){x:V}{Px:Sto->Prop}(hx:Has σ x (.list (wi.map z0g)) Px)(h8:wi.length<=8){ga:Addr}(hg:At σ ga (dS (pkV ps)))(pb:PkB ps){s:Src}{lo hi:Int}(hs:SrcOk es wi ps w s lo hi)(q:Q (.tup [.int lo,.int hi]) σ):
  CW C (d+4) (.ref 170) [.ref i,x,.ref ga,.str w,srcV s] σ Q:=by
 have ew:=y1d w
 cases hs with
 | @wish k lo hi hk=>
  have hl:=(List.getElem?_eq_some_iff.mp hk).1
  obtain⟨t,et,e1,e2,e3⟩:=tg_w
  show CW C _ _ [.ref i,x,.ref ga,.str w,.tup [.str "wish",.int (k:Int)]] σ Q
  rw[et]
  refine z0D (G1.kin (by assumption)) ["shop","wish","granted","ware","source","need","needs"] [("isinstance",.bi "isinstance"),("tuple",.type "tuple"),("len",.bi "len"),("str",.type "str"),("is_number",.ref 156),("is_granted",.ref 163)] (by kernel_rfl) (vs5 λ_ _ _ _ _=>by kernel_rfl) rfl (z0a (z0h (by assumption)) (z0a (z0M (by assumption)) (z0a (z0Q (by assumption)) (z0a (z2G (by assumption)) (z0a (z2A (by assumption)) (z0a (z2g (by assumption)) GL_nil)))))) ?_
  intro env hsc
  clear hsc
  refine z0e (z0o H) (z0n H) t_stretch_of rfl (by kernel_rfl) ?_
  intro F m0
  refine z18 (by with_reducible assumption) ?_
  refine y0r hx (z0A h8 (by decide)) ?_
  rw[List.length_map]
  refine Leaf.mk (fnc (z3Y H hl ?_))
  refine Leaf.mk (z0U hx (Nat.lt_of_lt_of_le hl (Nat.le_trans h8 (by decide))) (z1b hk) ?_)
  refine z0z (by with_reducible assumption) ?_
  refine z0z (by with_reducible assumption) ?_
  refine z0z (by with_reducible assumption) ?_
  exact q
 | @pick mk hp=>
  obtain⟨t,et,e1,e2,e3⟩:=tg_p
  show CW C _ _ [.ref i,x,.ref ga,.str w,.tup [.str "pick",.str w,.int _]] σ Q
  rw[et]
  refine z0D (G1.kin (by assumption)) ["shop","wish","granted","ware","source","need","needs"] [("isinstance",.bi "isinstance"),("tuple",.type "tuple"),("len",.bi "len"),("str",.type "str"),("is_number",.ref 156),("is_granted",.ref 163)] (by kernel_rfl) (vs5 λ_ _ _ _ _=>by kernel_rfl) rfl (z0a (z0h (by assumption)) (z0a (z0M (by assumption)) (z0a (z0Q (by assumption)) (z0a (z2G (by assumption)) (z0a (z2A (by assumption)) (z0a (z2g (by assumption)) GL_nil)))))) ?_
  intro env hsc
  clear hsc
  refine z0e (z0o H) (z0n H) t_stretch_of rfl (by kernel_rfl) ?_
  intro F m0
  refine z0z (by with_reducible assumption) ?_
  refine z18 (by with_reducible assumption) ?_
  refine Leaf.mk (fnc (z3a H hg pb hp ?_))
  refine z0z (by with_reducible assumption) ?_
  refine z0z (by with_reducible assumption) ?_
  exact q
 | @need o mk k ns lo hi hp hm hk=>
  have hl:=(List.getElem?_eq_some_iff.mp hk).1
  obtain⟨hy,hk1,hk2⟩:=pb.ok _ hp
  have hnl:ns.length<=6:=(S.eok o).2.2 _ hm
  obtain⟨dx,hin⟩:=S.inst
  obtain⟨t,et,e1,e2,e3⟩:=tg_n
  show CW C _ _ [.ref i,x,.ref ga,.str w,.tup [.str "need",.str o,.int mk,.int (k:Int)]] σ Q
  rw[et]
  refine z0D (G1.kin (by assumption)) ["shop","wish","granted","ware","source","need","needs"] [("isinstance",.bi "isinstance"),("tuple",.type "tuple"),("len",.bi "len"),("str",.type "str"),("is_number",.ref 156),("is_granted",.ref 163)] (by kernel_rfl) (vs5 λ_ _ _ _ _=>by kernel_rfl) rfl (z0a (z0h (by assumption)) (z0a (z0M (by assumption)) (z0a (z0Q (by assumption)) (z0a (z2G (by assumption)) (z0a (z2A (by assumption)) (z0a (z2g (by assumption)) GL_nil)))))) ?_
  intro env hsc
  clear hsc
  refine z0e (z0o H) (z0n H) t_stretch_of rfl (by kernel_rfl) ?_
  intro F m0
  refine z0z (by with_reducible assumption) ?_
  refine z0z (by with_reducible assumption) ?_
  refine z18 (by with_reducible assumption) ?_
  refine Leaf.mk (fnc (z3a H hg pb hp ?_))
  refine Leaf.mk (z0K hin (by decide+kernel) ?_)
  refine Leaf.mk (fnc (z4l H S hy hk1 hk2 hm (.inl ?_)))
  refine Leaf.mk (z0E (n:=ns.length) (.lst _) (List.length_map _) (z0A hnl (by decide)) ?_)
  refine Leaf.mk (fnc (z3Y H hl ?_))
  refine Leaf.mk (z0U (.lst _) (Nat.lt_of_lt_of_le hl (Nat.le_trans hnl (by decide))) (z1b hk) ?_)
  refine z0z (by with_reducible assumption) ?_
  exact q
theorem z5a(H:G1 C)(S:Rw σ ro rv es){x:V}{Px:Sto->Prop}(hx:Has σ x (.list (wi.map z0g)) Px)(h8:wi.length<=8){ga:Addr}(hg:At σ ga (dS (pkV ps)))(pb:PkB ps){s:Src}{lo hi:Int}(hs:SrcOk es wi ps w s lo hi)(q:Q (.tup [.int lo,.int hi]) σ):
  CW C (d+2) (.ref 352) [.ref ro,x,.ref ga,.str w,srcV s] σ Q:=by
 have ew:=y1d w
 cases hs with
 | @wish k lo hi hk=>
  have hl:=(List.getElem?_eq_some_iff.mp hk).1
  obtain⟨t,et,e1,e2,e3⟩:=tg_w
  show CW C _ _ [.ref ro,x,.ref ga,.str w,.tup [.str "wish",.int (k:Int)]] σ Q
  rw[et]
  refine z0D (G1.kin (by assumption)) ["_law_rows_here","_law_wish_here","_law_granted_here","_law_ware","_law_source_here","_law_need","_law_needs_here"] [("isinstance",.bi "isinstance"),("tuple",.type "tuple"),("len",.bi "len"),("str",.type "str"),("_law_place",.ref 338),("_law_granted",.ref 345)] (by kernel_rfl) (vs5 λ_ _ _ _ _=>by kernel_rfl) rfl (z0a (z0h (by assumption)) (z0a (z0M (by assumption)) (z0a (z0Q (by assumption)) (z0a (z2G (by assumption)) (z0a (z2e (by assumption)) (z0a (z1R (by assumption)) GL_nil)))))) ?_
  intro env hsc
  clear hsc
  refine z0e (z0o H) (z0n H) t__law_source rfl (by kernel_rfl) ?_
  intro F m0
  refine z18 (by with_reducible assumption) ?_
  refine y0r hx (z0A h8 (by decide)) ?_
  rw[List.length_map]
  refine Leaf.mk (fnc (z3z H hl ?_))
  refine Leaf.mk (z0U hx (Nat.lt_of_lt_of_le hl (Nat.le_trans h8 (by decide))) (z1b hk) ?_)
  refine z0z (by with_reducible assumption) ?_
  refine z0z (by with_reducible assumption) ?_
  refine z0z (by with_reducible assumption) ?_
  exact q
 | @pick mk hp=>
  obtain⟨t,et,e1,e2,e3⟩:=tg_p
  show CW C _ _ [.ref ro,x,.ref ga,.str w,.tup [.str "pick",.str w,.int _]] σ Q
  rw[et]
  refine z0D (G1.kin (by assumption)) ["_law_rows_here","_law_wish_here","_law_granted_here","_law_ware","_law_source_here","_law_need","_law_needs_here"] [("isinstance",.bi "isinstance"),("tuple",.type "tuple"),("len",.bi "len"),("str",.type "str"),("_law_place",.ref 338),("_law_granted",.ref 345)] (by kernel_rfl) (vs5 λ_ _ _ _ _=>by kernel_rfl) rfl (z0a (z0h (by assumption)) (z0a (z0M (by assumption)) (z0a (z0Q (by assumption)) (z0a (z2G (by assumption)) (z0a (z2e (by assumption)) (z0a (z1R (by assumption)) GL_nil)))))) ?_
  intro env hsc
  clear hsc
  refine z0e (z0o H) (z0n H) t__law_source rfl (by kernel_rfl) ?_
  intro F m0
  refine z0z (by with_reducible assumption) ?_
  refine z0z (by with_reducible assumption) ?_
  refine z18 (by with_reducible assumption) ?_
  refine Leaf.mk (fnc (z2F H hg pb hp ?_))
  refine z0z (by with_reducible assumption) ?_
  exact q
 | @need o mk k ns lo hi hp hm hk=>
  have hl:=(List.getElem?_eq_some_iff.mp hk).1
  have hnl:ns.length<=6:=((S.eok o).nok _ hm).len
  obtain⟨rb,_,hrv,hrb⟩:=S.at (S.inRv hm)
  have hrn:((kvV rv).map (·.1)).Nodup:=by rw[z0t];exact S.rwn
  have hen:((esV (es o)).map (·.1)).Nodup:=by rw[z0q];exact(S.eok o).nd
  have hev:vAt (esV (es o)) mk=some (.lst (ns.map z0g)):=z0B hen (List.mem_map.mpr ⟨_,hm,rfl⟩)
  obtain⟨t,et,e1,e2,e3⟩:=tg_n
  show CW C _ _ [.ref ro,x,.ref ga,.str w,.tup [.str "need",.str o,.int mk,.int (k:Int)]] σ Q
  rw[et]
  refine z0D (G1.kin (by assumption)) ["_law_rows_here","_law_wish_here","_law_granted_here","_law_ware","_law_source_here","_law_need","_law_needs_here"] [("isinstance",.bi "isinstance"),("tuple",.type "tuple"),("len",.bi "len"),("str",.type "str"),("_law_place",.ref 338),("_law_granted",.ref 345)] (by kernel_rfl) (vs5 λ_ _ _ _ _=>by kernel_rfl) rfl (z0a (z0h (by assumption)) (z0a (z0M (by assumption)) (z0a (z0Q (by assumption)) (z0a (z2G (by assumption)) (z0a (z2e (by assumption)) (z0a (z1R (by assumption)) GL_nil)))))) ?_
  intro env hsc
  clear hsc
  refine z0e (z0o H) (z0n H) t__law_source rfl (by kernel_rfl) ?_
  intro F m0
  refine z0z (by with_reducible assumption) ?_
  refine z18 (by with_reducible assumption) ?_
  refine Leaf.mk (fnc (z2F H hg pb hp ?_))
  refine Leaf.mk (z1F S.rows hrn hrv ?_)
  refine Leaf.mk (z8Z hrb hen hev ?_)
  refine Leaf.mk (z0E (n:=ns.length) (.lst _) (List.length_map _) (z0A hnl (by decide)) ?_)
  refine Leaf.mk (fnc (z3z H hl ?_))
  refine Leaf.mk (z0U (.lst _) (Nat.lt_of_lt_of_le hl (Nat.le_trans hnl (by decide))) (z1b hk) ?_)
  refine z0z (by with_reducible assumption) ?_
  refine z0z (by with_reducible assumption) ?_
  exact q
end
end
section
section
variable {C:Cx} [HM C] [NF C] {d:Nat} {σ:Sto} {Q:V->Sto->Prop} {i k:Addr} {kv:List (Str×Addr)} {es:Str->List (Int×List z0c)} {wi:List z0c} {ps:List (Str×Int)} {w:Str}
theorem Shp.c1(S:Shp σ i k kv es)(p:Addr×Obj×AO):Shp (p::σ) i k kv es:=S.frame λ_ _ _ h=>h.cons _
theorem y1w(ps:List (Str×Int)):ps.map prV=(pkV ps).map λp=>V.tup [(KK.str C.prog C.w).v p.1,p.2]:=by rw[List.map_map];rfl
theorem y08{K:Type}[DecidableEq K]{kvs:List (K×V)}(hn:(kvs.map (·.1)).Nodup):y02 kvs=kvs:=by
 unfold y02
 have:∀(l acc:List (K×V)),((acc++l).map (·.1)).Nodup->l.foldl (λacc p=>z13 acc p.1 p.2) acc=acc++l:=by
  intro l
  induction l with
  |nil=>intro acc _;rw[List.append_nil];rfl
  |cons p l ih=>
   intro acc h
   rw[List.foldl_cons,z1N,ih,List.append_assoc]
   ·rfl
   ·rw[List.append_assoc];exact h
   ·intro hm
    rw[List.map_append] at h
    exact(List.nodup_append.mp h).2.2 _ hm _ (.head _) rfl
 exact this kvs [] hn
theorem z2s{x:V}{P:Sto->Prop}(h:Has σ x (.list (ps.map prV)) P)(pb:PkB ps)(q:∀a o,Fresh σ a->Q (.ref a) ((a,o,dS (pkV ps))::σ)):KW C d (.type "dict") [x] σ Q:=by
 rw[y1w (C:=C)] at h
 refine y2g (KK.str C.prog C.w) h (by rw[List.length_map];exact Nat.le_trans pb.len (by decide)) λa o hf=> ?_
 rw[y08 (by rw[z0L];exact pb.nd)]
 exact q a o hf
theorem y2a{xs:List V}{X:V}(q:Q X σ):SubR C d (.lst (xs++[X])) (.int (-1)) σ Q:=by
 have hl:(xs++[X]).length=xs.length+1:=by rw[List.length_append];rfl
 refine z8R (.lst _) (by decide) (by rw[hl];lia) (by decide) ?_ q
 rw[hl,show(-1+((xs.length+1:Nat):Int)).toNat=xs.length by lia]
 exact List.getElem?_concat_length
theorem z66{ns:List z0c}{j:Nat}{X:V}(h:(z3r (ns.map z0g))[j]? =some X):∃n,ns[j]? =some n/\X= .tup [.int (j:Int),z0g n]:=by
 simp only[z3r,List.getElem?_map,List.getElem?_zipIdx,Nat.zero_add] at h
 cases e:ns[j]? with
 |none=>rw[e] at h;simp at h
 |some n=>rw[e] at h;simp at h;exact⟨n,rfl,h.symm⟩
theorem z8g{mk:Int}:∀{ss:List (Int×Int)} {ys:List V},F2 (λ(p:V×V) Y=>∀lo hi,p=(V.int lo,V.int hi)->Y= .bool (decide (lo<=mk)&&decide (mk<=hi))) (ss.map λp=>(V.int p.1,V.int p.2)) ys->ys=(ss.map λp=>decide (p.1<=mk)&&decide (mk<=p.2)).map V.bool
 |[],_,h=>by cases h;rfl
 |p::ss,_,h=>by
  cases h with
  |cons a b=>rw[a p.1 p.2 rfl,z8g b];rfl
noncomputable def z5L(r1:Expr):TC:=⟨[.asgL 3,.loc 0,.mI 272 "makes",.loc 1,.meth (.ref 255) 1,.forV 4 [.raw r1,.call (.bi "all") 1,.tvalc,.ife [.loc 3,.mty "list",.loc 4,.meth (.bi "list.append") 1,.pop] []],.loc 3,.ret],[.inr r1],[([1,0,0],some [1])]⟩
--z5L 1
noncomputable def z8k(r1:Expr)(r2:Expr):TC:=⟨[.loc 1,.call (.type "dict") 1,.asg 2,.loc 1,.psh (.int 1),.una .USub,.sub,.asg2 3 4,.loc 0,.mI 272 "needs",.loc 3,.loc 4,.meth (.ref 262) 2,.forE 5 6 [.loc 6,.subT 0,.loc 2,.tcmpc .In,.mop .And [.loc 2,.loc 6,.subT 0,.sub,.loc 6,.subT 1,.loc 6,.subT 2,.call (.ref 137) 3,.tvalc,.not,.mop .And [.psh (.bool true)]],.ife [.loc 6,.subT 0,.raw r1,.raw r2,.tup 3,.ret] []],.psh .none,.ret],[.inr r1,.inr r2],[([2,0,0,0,0],some [1]),([2,0,0,0,0],some [2])]⟩
--z8k 2
noncomputable def z5j(r1:Expr)(r2:Expr):TC:=⟨[.loc 2,.call (.type "dict") 1,.asg 6,.loc 5,.forL 7 [.loc 0,.loc 1,.loc 6,.loc 3,.loc 7,.call (.ref 170) 5,.asg2 8 9,.loc 4,.loc 8,.loc 9,.call (.ref 137) 3,.tvalc,.not,.ife [.loc 3,.raw r1,.raw r2,.tup 3,.ret] []],.psh .none,.ret],[.inr r1,.inr r2],[([1,0,1,0,0],some [1]),([1,0,1,0,0],some [2])]⟩
--z5j 2
theorem y13{p:Str×Int}(q:Q (prV p) σ):SubR C d (.lst ((ps++[p]).map prV)) (.int (-1)) σ Q:=by rw[List.map_append];exact y2a q
theorem z7q(ns:List z0c):(z3r (ns.map z0g)).length=ns.length:=by simp[z3r]
inductive LbI(a0 a1 a2:V)(fa:Addr)(l:List Int)(t:Int->Bool)(σ:Sto)(j:Nat):Loc->Sto->Prop
 |mk {o:Obj} {v:Option V}:LbI a0 a1 a2 fa l t σ j [some a0,some a1,some a2,some (.ref fa),v] ((fa,o,.list (((l.take j).filter t).map V.int))::σ)
theorem y1L{l:List Int}{t:Int->Bool}{j:Nat}{mk:Int}(h:l[j]? =some mk):(l.take (j+1)).filter t=if t mk then(l.take j).filter t++[mk] else(l.take j).filter t:=by
 rw[z1w h,List.filter_append]
 cases e:t mk<;>simp[e]
theorem z9o(H:G1 C)(S:Shp σ i k kv es)(hw:Ware w){ss:List (Int×Int)}(hl:ss.length<=200)(q:Q (.lst ((lfF es w ss).map V.int)) σ):
  CW C (d+3) (.ref 175) [.ref i,.str w,.lst (ss.map λp=> .tup [.int p.1,.int p.2])] σ Q:=by
 refine z1e (z08 ?_)
 refine z0D (G1.kin (by assumption)) ["shop","ware","stretches","found","make"] [("reversed",.type "reversed"),("all",.bi "all")] (by kernel_rfl) (vs3 λ_ _ _=>by kernel_rfl) rfl (z0a (z4X (by assumption)) (z0a (y1o (by assumption)) GL_nil)) ?_
 intro env hsc
 obtain⟨dx,hin⟩:=S.inst
 have h8:=(S.eok w).2.1
 have hsl:=desM_len (es:=es) (w:=w)
 refine z0e (z0o H) (z0n H) (z5L _) (by exact rfl) (by kernel_rfl) ?_
 intro F m0 fa ofa hff
 refine Leaf.mk (z0K (hin.cons _) (by decide+kernel) ?_)
 refine Leaf.mk (fnc (z8E H (S.c1 _) hw (.inl ?_)))
 refine Leaf.mk (.mk _ _ (LbI (.ref i) (.str w) (.lst (ss.map λp=> .tup [.int p.1,.int p.2])) fa (z07 es w) (z2y ss) σ) (.lst _) .mk (λj X hX m τ hI QB hQB _=> ?_) λm τ hI=> ?_)
 ·clear q
  rw[<-List.map_reverse,List.getElem?_map] at hX
  obtain⟨mk,hmk,rfl⟩:=Option.map_eq_some_iff.mp hX
  have hmk:(z07 es w)[j]? =some mk:=hmk
  have hj:=(List.getElem?_eq_some_iff.mp hmk).1
  have hnx:=y1L (t:=z2y ss) hmk
  refine hI.casesOn @λo v=> ?_
  have hgl:((((z07 es w).take j).filter (z2y ss)).map V.int).length<=sizeLine:=z0x (by
   rw[List.length_map]
   exact Nat.le_trans (List.length_filter_le _ _) (Nat.le_trans (List.length_take_le _ _) (Nat.le_trans (Nat.le_of_lt hj) (by rw[hsl];exact Nat.le_trans h8 (by decide)))))
  refine Leaf.mk ?_
  show AT C env ["shop","ware","stretches","found","make"] _ true _ (eval _ env) [some (.ref i),some (.str w),some (.lst (ss.map λp=> .tup [.int p.1,.int p.2])),some (.ref fa),some (.int mk)] _ _
  refine z82 "low" "high" ["make"] [("within",.ref 137)] (by rw[hsc];kernel_rfl) (z0a (z4W H) GL_nil) (.cons LkC.lk .nil) (z0J ?_)
  with_reducible refine z0k ?_
  refine⟨_,_,.lst _,z0A hl (by decide),λenv' he=> ?_⟩
  have hss:(ss.map λp=>V.tup [.int p.1,.int p.2])=(ss.map λp=>(V.int p.1,V.int p.2)).map λp=>V.tup [p.1,p.2]:=by rw[List.map_map];rfl
  rw[hss]
  refine z8a (Gd:=λp Y=>∀lo hi,p=(V.int lo,V.int hi)->Y= .bool (decide (lo<=mk)&&decide (mk<=hi))) (z0m he (by decide+kernel)) (z0m he (by decide+kernel)) trivial _ _ _ _ (λp hp K hK=> ?_) λys hys=> ?_
  ·obtain⟨⟨lo,hi⟩,hm,rfl⟩:=List.mem_map.mp hp
   repeat' with_reducible first|refine z0k ?_|refine z1k ?_|refine z0I ?_|refine z0s ?_|refine z0r ?_|refine⟨z7y (by assumption),?_⟩|fail
   refine fnc (z4Q H ?_)
   exact hK _ λlo' hi' e=>by cases e;rfl
  obtain rfl:ys=(ss.map λp=>decide (p.1<=mk)&&decide (mk<=p.2)).map V.bool:=z8g hys
  rw[List.nil_append,<-hss]
  refine Leaf.mk (z9H (.lst _) ?_)
  rw[show((ss.map λp=>decide (p.1<=mk)&&decide (mk<=p.2)).all id)=z2y ss mk by rw[List.all_map];rfl]
  refine z02 (λhb=> ?_) λhb=> ?_
  ·rw[if_pos hb] at hnx
   refine Leaf.mk ⟨tyL At.hd,?_⟩
   refine Leaf.mk (z2C hgl λo'=> ?_)
   refine hQB _ _ trivial ?_
   have hm:LbI (.ref i) (.str w) (.lst (ss.map λp=> .tup [.int p.1,.int p.2])) fa (z07 es w) (z2y ss) σ (j+1) _ ((fa,o',.list ((((z07 es w).take (j+1)).filter (z2y ss)).map V.int))::σ):= .mk (v:=some (.int mk))
   rw[hnx,List.map_append] at hm
   exact hm
  ·rw[hb,if_neg Bool.false_ne_true] at hnx
   refine hQB _ _ trivial ?_
   have hm:LbI (.ref i) (.str w) (.lst (ss.map λp=> .tup [.int p.1,.int p.2])) fa (z07 es w) (z2y ss) σ (j+1) _ ((fa,o,.list ((((z07 es w).take (j+1)).filter (z2y ss)).map V.int))::σ):= .mk (v:=some (.int mk))
   rw[hnx] at hm
   exact hm
 ·refine hI.casesOn @λo v=> ?_
  refine⟨_,List.Sublist.refl _,fa,o,_,σ,rfl,rfl,?_⟩
  rw[show(((z1g ((es w).map (·.1))).map V.int).reverse).length=(z07 es w).length by unfold z07;rw[List.length_reverse,List.length_reverse,List.length_map],List.take_length]
  exact q
noncomputable def rs2(w:Str)(a b:Src):V:= .tup [.str w,.lst [srcV a,srcV b],.lst []]
theorem z8d(s:Src):Tr σ [] (srcV s) (srcV s):=by
 cases s with
 |wish k=>exact .tup (Tr.dat λy hy=>by simp at hy;rcases hy with rfl|rfl<;>simp)
 |need o m k=>exact .tup (Tr.dat λy hy=>by simp at hy;rcases hy with rfl|rfl|rfl|rfl<;>simp)
 |pick o m=>exact .tup (Tr.dat λy hy=>by simp at hy;rcases hy with rfl|rfl|rfl<;>simp)
theorem Res.two{a b:Addr}{oa ob:Obj}{s1 s2:Src}(ha:Fresh σ a)(hb:Fresh σ b)(hab:a≠b):Res σ (rs2 w s1 s2) (.tup [.str w,.ref a,.ref b]) ((b,ob,.list [])::(a,oa,.list [srcV s1,srcV s2])::σ):=
 .mk [a,b] (λp h=> .tail _ (.tail _ h)) (List.nodup_cons.mpr ⟨λh=>hab (List.mem_singleton.mp h),List.nodup_cons.mpr ⟨List.not_mem_nil,List.nodup_nil⟩⟩) (List.forall_mem_cons.mpr ⟨ha,List.forall_mem_cons.mpr ⟨hb,λ_ h=>nomatch h⟩⟩)
  (.tup (.cons (.str w) (.cons (A:=[a]) (.ref (A:=[]) (At.hd.cons _) (.cons (z8d s1) (.cons (z8d s2) .nil))) (.cons (A:=[b]) (.ref (A:=[]) At.hd .nil) .nil))))
noncomputable def clT(ps:List (Str×Int))(n:z0c):Bool:=match pI ps n.1 with
 |some m=> !(decide (n.2.1<=m)&&decide (m<=n.2.2))
 |none=>false
noncomputable def clF(es:Str->List (Int×List z0c))(ps:List (Str×Int))(w:Str)(mk:Int):Option V:=((z0y es (w,mk)).zipIdx.find? λp=>clT ps p.1).map λp=>rs2 p.1.1 (.pick p.1.1 ((pI ps p.1.1).getD 0)) (.need w mk p.2)
inductive ClI(a0 a1 a2 a3 a4:V)(ps:List (Str×Int))(l:List (z0c×Nat))(τ:Sto)(j:Nat):Loc->Sto->Prop
 |mk {v1 v2:Option V}:(∀y∈l.take j,clT ps y.1=false)->ClI a0 a1 a2 a3 a4 ps l τ j [some a0,some a1,some a2,some a3,some a4,v1,v2] τ
theorem y2b(H:G1 C)(S:Shp σ i k kv es){ps0:List (Str×Int)}{mk:Int}(pb:PkB (ps0++[(w,mk)])){ns:List z0c}(hm:(mk,ns)∈es w)
  (q1:∀t xs σ',clF es (ps0++[(w,mk)]) w mk=some t->Res σ t (.tup xs) σ'->Q (.tup xs) σ') (q2:clF es (ps0++[(w,mk)]) w mk=none->Q .none σ):
  CW C (d+4) (.ref 187) [.ref i,.lst ((ps0++[(w,mk)]).map prV)] σ Q:=by
 refine z08 ?_
 refine z0D (G1.kin (by assumption)) ["shop","pairs","picked","ware","make","k","need"] [("dict",.type "dict"),("enumerate",.type "enumerate"),("within",.ref 137)] (by kernel_rfl) (vs2 λ_ _=>by kernel_rfl) rfl (z0a (z20 (by assumption)) (z0a (z38 (by assumption)) (z0a (z4W (by assumption)) GL_nil))) ?_
 intro env hsc
 clear hsc
 obtain⟨dx,hin⟩:=S.inst
 obtain⟨hw,h1,h2⟩:=pb.ok (w,mk) (List.mem_append_right _ (.head _))
 have hpn:((pkV (ps0++[(w,mk)])).map (·.1)).Nodup:=by rw[z0L];exact pb.nd
 unfold clF at q1 q2
 rw[z04 (S.eok w).1 hm] at q1 q2
 refine z0e (z0o H) (z0n H) (z8k _ _) (by exact rfl) (by kernel_rfl) ?_
 intro F m0
 refine Leaf.mk (z2s (.lst _) pb λpa opa hfp=> ?_)
 refine Leaf.mk (z5n ?_)
 refine Leaf.mk (y13 ?_)
 refine Leaf.mk (z0K (hin.cons _) (by decide+kernel) ?_)
 refine Leaf.mk (fnc (z4l H (S.c1 _) hw h1 h2 hm (.inl ?_)))
 refine Leaf.mk (.mk _ _ (ClI (.ref i) (.lst ((ps0++[(w,mk)]).map prV)) (.ref pa) (.str w) (.int mk) (ps0++[(w,mk)]) ns.zipIdx ((pa,opa,dS (pkV (ps0++[(w,mk)])))::σ)) (.lst _) (.mk λy h=>nomatch h) (λj X hX m τ hI QB hQB hQR=> ?_) λm τ hI=> ?_)
 ·obtain⟨⟨nm,lo,hi⟩,hne,rfl⟩:=z66 hX
  have hz:ns.zipIdx[j]? =some ((nm,lo,hi),j):=by rw[List.getElem?_zipIdx,hne,Nat.zero_add];rfl
  refine hI.casesOn @λv1 v2 hall=> ?_
  have hgo:=λ(e:clT (ps0++[(w,mk)]) (nm,lo,hi)=false) v1 v2=>hQB _ _ trivial (.mk (v1:=v1) (v2:=v2) (z5B hz hall e))
  refine Leaf.mk (z29 H.ns At.hd hpn (z0j ?_))
  rw[z26]
  cases hv:pI (ps0++[(w,mk)]) nm with
  |none=>exact hgo (by unfold clT;rw[hv]) _ _
  |some mm=>
   have hvA:vAt (pkV (ps0++[(w,mk)])) nm=some (.int mm):=by rw[z26,hv];rfl
   have hcl:clT (ps0++[(w,mk)]) (nm,lo,hi)= !(decide (lo<=mm)&&decide (mm<=hi)):=by unfold clT;rw[hv]
   refine Leaf.mk (z1F At.hd hpn hvA ?_)
   refine Leaf.mk (fnc (z4Q H ?_))
   refine z02 (λhb=> ?_) λhb=>hgo (hcl.trans hb) _ _
   have hfd:=z8n (p:=λp:z0c×Nat=>clT (ps0++[(w,mk)]) p.1) hz (hcl.trans hb) hall
   rw[hfd] at q1
   have q1:=λxs σ'=>q1 (rs2 nm (.pick nm mm) (.need w mk j)) xs σ' (by show some (rs2 nm (.pick nm ((pI (ps0++[(w,mk)]) nm).getD 0)) (.need w mk j))=_;rw[hv];rfl)
   clear hgo hQB hfd q2
   refine Leaf.mk ?_
   show AT C env ["shop","pairs","picked","ware","make","k","need"] _ true _ (eval _ env) [some (.ref i),some (.lst ((ps0++[(w,mk)]).map prV)),some (.ref pa),some (.str w),some (.int mk),some (.int (j:Int)),some (.tup [.str nm,.int lo,.int hi])] _ _
   refine z16 ?_
   repeat' with_reducible first|refine z0k ?_|refine z52 ?_|refine z0O ?_|refine z0W ?_|refine z3l ?_|refine z0s ?_|refine z0r ?_|refine⟨by with_unfolding_all exact Nat.le_of_ble_eq_true rfl,?_⟩|refine z1F At.hd hpn hvA ?_|refine z2w (by with_unfolding_all decide) (by with_unfolding_all decide) (by with_unfolding_all exact rfl) ?_|fail
   intro a oa hfa
   refine Leaf.mk ?_
   show AT C env ["shop","pairs","picked","ware","make","k","need"] _ true _ (eval _ env) [some (.ref i),some (.lst ((ps0++[(w,mk)]).map prV)),some (.ref pa),some (.str w),some (.int mk),some (.int (j:Int)),some (.tup [.str nm,.int lo,.int hi])] _ _
   refine z16 (z0r ⟨Nat.zero_le _,λb ob hfb=> ?_⟩)
   exact hQR _ _ _ ⟨_,((List.sublist_cons_self _ _).cons_cons _).cons_cons _,q1 _ _ (.two (λp hp=>hfa p (.tail _ hp)) (λp hp=>hfb p (.tail _ (.tail _ hp))) (hfb _ (.head _)))⟩
 ·refine hI.casesOn @λv1 v2 hall=> ?_
  rw[z7q,<-List.length_zipIdx,List.take_length] at hall
  exact⟨σ,List.sublist_cons_self _ _,q2 (by rw[List.find?_eq_none.mpr λy hy=>by rw[hall y hy];exact Bool.false_ne_true];rfl)⟩
noncomputable def osF(w:Str)(mk:Int)(ss:List (Src×Int×Int)):Option V:=(ss.find? λp=> !(decide (p.2.1<=mk)&&decide (mk<=p.2.2))).map λp=>rs2 w (.pick w mk) p.1
noncomputable abbrev ssV(ss:List (Src×Int×Int)):List V:=ss.map λp=>srcV p.1
inductive OsI(a0 a1 a2 a3 a4 a5 a6:V)(mk:Int)(ss:List (Src×Int×Int))(τ:Sto)(j:Nat):Loc->Sto->Prop
 |mk {v1 v2 v3:Option V}:(∀y∈ss.take j,(!(decide (y.2.1<=mk)&&decide (mk<=y.2.2)))=false)->OsI a0 a1 a2 a3 a4 a5 a6 mk ss τ j [some a0,some a1,some a2,some a3,some a4,some a5,some a6,v1,v2,v3] τ
theorem z9r(H:G1 C)(S:Shp σ i k kv es){x y:V}{Px Py:Sto->Prop}(hx:Has σ x (.list (wi.map z0g)) Px)(h8:wi.length<=8)(pb:PkB ps){mk:Int}{ss:List (Src×Int×Int)}(hy:Has σ y (.list (ssV ss)) Py)(hss:∀p∈ss,SrcOk es wi ps w p.1 p.2.1 p.2.2)
  (q1:∀t xs σ',osF w mk ss=some t->Res σ t (.tup xs) σ'->Q (.tup xs) σ') (q2:osF w mk ss=none->Q .none σ):
  CW C (d+5) (.ref 194) [.ref i,x,.lst (ps.map prV),.str w,.int mk,y] σ Q:=by
 refine z08 ?_
 refine z0D (G1.kin (by assumption)) ["shop","wish","pairs","ware","make","sources","granted","source","low","high"] [("dict",.type "dict"),("stretch_of",.ref 170),("within",.ref 137)] (by kernel_rfl) (vs6 λ_ _ _ _ _ _=>by kernel_rfl) rfl (z0a (z20 (by assumption)) (z0a (z3q (by assumption)) (z0a (z4W (by assumption)) GL_nil))) ?_
 intro env hsc
 clear hsc
 refine z0e (z0o H) (z0n H) (z5j _ _) (by exact rfl) (by kernel_rfl) ?_
 intro F m0
 refine Leaf.mk (z2s (.lst _) pb λpa opa hfp=> ?_)
 have hy2:=hy.mono (τ:=(pa,opa,dS (pkV ps))::σ) λp h=> .tail _ h
 refine Leaf.mk (.mk _ _ (OsI (.ref i) x (.lst (ps.map prV)) (.str w) (.int mk) y (.ref pa) mk ss ((pa,opa,dS (pkV ps))::σ)) hy2 (.mk λy h=>nomatch h) (λj X hX m τ hI QB hQB hQR=> ?_) λm τ hI=> ?_)
 ·rw[List.getElem?_map] at hX
  apply z0Z hX;rintro ⟨s,lo,hi⟩ hse
  have hs:=hss _ (List.mem_of_getElem? hse)
  refine hI.casesOn @λv1 v2 v3 hall=> ?_
  refine Leaf.mk (fnc (z3b H (S.c1 _) (hx.mono λp h=> .tail _ h) h8 At.hd pb hs ?_))
  refine Leaf.mk (fnc (z4Q H ?_))
  refine z02 (λhb=> ?_) λhb=>hQB _ _ hy2.p (.mk (z5B hse hall hb))
  have q1:=λxs σ'=>q1 (rs2 w (.pick w mk) s) xs σ' (by unfold osF;rw[z8n (p:=λp:Src×Int×Int=> !(decide (p.2.1<=mk)&&decide (mk<=p.2.2))) hse hb hall];rfl)
  clear hQB q2
  refine Leaf.mk ?_
  show AT C env ["shop","wish","pairs","ware","make","sources","granted","source","low","high"] _ true _ (eval _ env) [some (.ref i),some x,some (.lst (ps.map prV)),some (.str w),some (.int mk),some y,some (.ref pa),some (srcV s),some (.int lo),some (.int hi)] _ _
  refine z16 ?_
  repeat' with_reducible first|refine z0k ?_|refine z52 ?_|refine z3l ?_|refine z0s ?_|refine z0r ?_|refine⟨by with_unfolding_all exact Nat.le_of_ble_eq_true rfl,?_⟩|fail
  intro a oa hfa
  refine Leaf.mk ?_
  show AT C env ["shop","wish","pairs","ware","make","sources","granted","source","low","high"] _ true _ (eval _ env) [some (.ref i),some x,some (.lst (ps.map prV)),some (.str w),some (.int mk),some y,some (.ref pa),some (srcV s),some (.int lo),some (.int hi)] _ _
  refine z16 (z0r ⟨Nat.zero_le _,λb ob hfb=> ?_⟩)
  exact hQR _ _ _ ⟨_,((List.sublist_cons_self _ _).cons_cons _).cons_cons _,q1 _ _ (.two (λp hp=>hfa p (.tail _ hp)) (λp hp=>hfb p (.tail _ (.tail _ hp))) (hfb _ (.head _)))⟩
 ·refine hI.casesOn @λv1 v2 v3 hall=> ?_
  rw[List.length_map,List.take_length] at hall
  exact⟨σ,List.sublist_cons_self _ _,q2 (by unfold osF;rw[List.find?_eq_none.mpr λy hy=>by rw[hall y hy];exact Bool.false_ne_true];rfl)⟩
end
end
section
section
variable {C:Cx} [HM C] [NF C] {d:Nat} {σ:Sto} {Q:V->Sto->Prop} {i k:Addr} {kv:List (Str×Addr)} {es:Str->List (Int×List z0c)} {wi:List z0c} {ps:List (Str×Int)} {w:Str}
noncomputable def srF(c:Nat->Src)(w:Str)(ns:List z0c)(n:Nat):List (Src×Int×Int):=(List.range n).filterMap λj=>(ns[j]?).bind λx=>if x.1==w then some (c j,x.2) else none
theorem y0s{c:Nat->Src}{ns:List z0c}{l:Nat}{x:z0c}(h:ns[l]? =some x):srF c w ns (l+1)=srF c w ns l++if x.1==w then[(c l,x.2)] else[]:=by
 unfold srF
 rw[List.range_succ,List.filterMap_append]
 congr 1
 simp only[List.filterMap_cons,List.filterMap_nil,h,Option.bind_some]
 cases x.1==w<;>rfl
theorem z3H(c:Nat->Src)(ns:List z0c)(n:Nat):(srF c w ns n).length<=n:=Nat.le_trans (List.length_filterMap_le _ _) (Nat.le_of_eq List.length_range)
theorem z8w{c:Nat->Src}{ns:List z0c}{n:Nat}{p:Src×Int×Int}(h:p∈srF c w ns n):∃j,p.1=c j/\ns[j]? =some (w,p.2.1,p.2.2):=by
 obtain⟨j,_,e⟩:=List.mem_filterMap.mp h
 obtain⟨x,hx,e⟩:=Option.bind_eq_some_iff.mp e
 cases hb:x.1==w with
 |false=>rw[hb] at e;cases e
 |true=>
  rw[hb] at e
  cases e
  exact⟨j,rfl,by rw[hx,<-eq_of_beq hb]⟩
theorem z8t{c:Nat->Src}{ns:List z0c}{x:z0c}(h:x∈ns)(hw:x.1=w):∃p∈srF c w ns ns.length,p.2=x.2:=by
 obtain⟨j,hj⟩:=List.mem_iff_getElem?.mp h
 refine⟨(c j,x.2),List.mem_filterMap.mpr ⟨j,List.mem_range.mpr (List.getElem?_eq_some_iff.mp hj).1,?_⟩,rfl⟩
 rw[hj,Option.bind_some,if_pos (beq_iff_eq.mpr hw)]
noncomputable def ssF(es:Str->List (Int×List z0c))(wi:List z0c)(ps:List (Str×Int))(w:Str):List (Src×Int×Int):=srF .wish w wi wi.length++ps.flatMap λp=>srF (.need p.1 p.2) w (z0y es p) (z0y es p).length
theorem z7R(pi:PkIn es ps)(en:∀w,((es w).map (·.1)).Nodup):∀p∈ssF es wi ps w,SrcOk es wi ps w p.1 p.2.1 p.2.2:=λp hp=>by
 rcases List.mem_append.mp hp with h|h
 ·obtain⟨j,e,hj⟩:=z8w h
  rw[e];exact .wish hj
 ·obtain⟨⟨o,m⟩,ho,h⟩:=List.mem_flatMap.mp h
  obtain⟨j,e,hj⟩:=z8w h
  obtain⟨ns,hns⟩:=pi _ ho
  rw[show z0y es (o,m)=ns from z04 (en o) hns] at hj
  rw[e];exact .need ho hns hj
theorem z8p{n:z0c}(h:n∈wi++ps.flatMap (z0y es))(hn:n.1=w):∃p∈ssF es wi ps w,p.2=n.2:=by
 rcases List.mem_append.mp h with h|h
 ·obtain⟨p,h1,h2⟩:=z8t (c:= .wish) h hn
  exact⟨p,List.mem_append_left _ h1,h2⟩
 ·obtain⟨o,ho,h⟩:=List.mem_flatMap.mp h
  obtain⟨p,h1,h2⟩:=z8t (c:= .need o.1 o.2) h hn
  exact⟨p,List.mem_append_right _ (List.mem_flatMap.mpr ⟨o,ho,h1⟩),h2⟩
theorem z7U{l:List (Str×Int)}(h:∀p∈l,(z0y es p).length<=6):(l.flatMap λp=>srF (.need p.1 p.2) w (z0y es p) (z0y es p).length).length<=6*l.length:=by
 induction l with
 |nil=>exact Nat.le_refl _
 |cons p l ih=>
  have h1:=Nat.le_trans (z3H (w:=w) (.need p.1 p.2) (z0y es p) (z0y es p).length) (h p (.head _))
  have h2:=ih λp hp=>h p (.tail _ hp)
  rw[List.flatMap_cons,List.length_append,List.length_cons];lia
noncomputable def wsT(wi:List z0c)(w:Str):V->Bool
 | .int j=>(wi[j.toNat]?).any λn=>n.1==w
 |_=>false
theorem y3S(l:List Nat):((l.map λj:Nat=>V.int (j:Int)).filter (wsT wi w)).map (λX=>V.tup [.str "wish",X])=ssV (l.filterMap λj=>(wi[j]?).bind λx=>if x.1==w then some (.wish j,x.2) else none):=by
 induction l with
 |nil=>rfl
 |cons j l ih=>
  have e:wsT wi w (V.int (j:Int))=(wi[j]?).any λn=>n.1==w:=by show(wi[((j:Nat):Int).toNat]?).any _=_;rw[Int.toNat_natCast]
  rw[List.map_cons,List.filter_cons,e,List.filterMap_cons]
  cases hj:wi[j]? with
  |none=>exact ih
  |some n=>
   rw[Option.bind_some]
   show(if(n.1==w)=true then _ else _:List V).map _=_
   cases n.1==w with
   |false=>exact ih
   |true=>exact congrArg (V.tup [.str "wish",.int (j:Int)]::·) ih
theorem y3M{j:Nat}(hj:j<wi.length):wsT wi w (V.int (j:Int))=(wi[j].1==w):=by
 show(wi[((j:Nat):Int).toNat]?).any _=_
 rw[Int.toNat_natCast,List.getElem?_eq_getElem hj];rfl
noncomputable def z2V(r1:Stmt):TC:=⟨[.rawS r1,.loc 2,.forL2 5 6 [.loc 0,.mI 272 "needs",.loc 5,.loc 6,.meth (.ref 262) 2,.forE 7 8 [.loc 8,.subT 0,.loc 3,.tcmpc .Eq,.ife [.loc 4,.mty "list",.psh (.str "need"),.loc 5,.loc 6,.loc 7,.tup 4,.meth (.bi "list.append") 1,.pop] []]],.loc 4,.ret],[.inl r1],[([0],none)]⟩
--z2V 1
inductive SfI(a0 a1 a2 a3:V)(fa:Addr)(σ:Sto)(L:Nat->List (Src×Int×Int))(j:Nat):Loc->Sto->Prop
 |mk {o:Obj} {v1 v2 v3 v4:Option V}:SfI a0 a1 a2 a3 fa σ L j [some a0,some a1,some a2,some a3,some (.ref fa),v1,v2,v3,v4] ((fa,o,.list (ssV (L j)))::σ)
inductive SgI(a0 a1 a2 a3 a5 a6:V)(fa:Addr)(σ:Sto)(L:Nat->List (Src×Int×Int))(j:Nat):Loc->Sto->Prop
 |mk {o:Obj} {v3 v4:Option V}:SgI a0 a1 a2 a3 a5 a6 fa σ L j [some a0,some a1,some a2,some a3,some (.ref fa),some a5,some a6,v3,v4] ((fa,o,.list (ssV (L j)))::σ)
theorem z48(H:G1 C)(S:Shp σ i k kv es){x:V}{Px:Sto->Prop}(hx:Has σ x (.list (wi.map z0g)) Px)(h8:wi.length<=8)(pb:PkB ps)(pi:PkIn es ps)
  (q:∀a o,Fresh σ a->Q (.ref a) ((a,o,.list (ssV (ssF es wi ps w)))::σ)):CW C (d+4) (.ref 180) [.ref i,x,.lst (ps.map prV),.str w] σ Q:=by
 refine y3l ?_
 refine z0D (G1.kin (by assumption)) ["shop","wish","pairs","ware","found","other","make","k","need"] [("range",.type "range"),("len",.bi "len"),("enumerate",.type "enumerate")] (by kernel_rfl) (vs4 λ_ _ _ _=>by kernel_rfl) rfl (z0a (z2i (by assumption)) (z0a (z0Q (by assumption)) (z0a (z38 (by assumption)) GL_nil))) ?_
 intro env hsc
 obtain⟨dx,hin⟩:=S.inst
 have h12:=pb.len
 have h6:∀p∈ps,(z0y es p).length<=6:=λp hp=>by
  obtain⟨ns,hns⟩:=pi p hp
  rw[show z0y es p=ns from z04 (S.eok p.1).1 hns];exact(S.eok p.1).2.2 _ hns
 have hlen:∀j,(srF .wish w wi wi.length++(ps.take j).flatMap λp=>srF (.need p.1 p.2) w (z0y es p) (z0y es p).length).length<=80:=λj=>by
  have h1:=z7U (w:=w) (l:=ps.take j) λp hp=>h6 p (List.mem_of_mem_take hp)
  have h2:=z3H (w:=w) .wish wi wi.length
  have h3:(ps.take j).length<=ps.length:=(List.take_sublist _ _).length_le
  rw[List.length_append];lia
 refine z0e (z0o H) (z0n H) (z2V _) (by exact rfl) (by kernel_rfl) ?_
 intro F m0
 refine Leaf.mk ?_
 show AS C env ["shop","wish","pairs","ware","found","other","make","k","need"] _ true _ (exec _ env) [some (.ref i),some x,some (.lst (ps.map prV)),some (.str w),none,none,none,none,none] _ _
 refine z1M "k" ["wish","ware"] [] (z1C (by rw[hsc];kernel_rfl)) (by rw[hsc];kernel_rfl) GL_nil (.cons LkC.lk (.cons LkC.lk .nil)) (z2p ?_)
 repeat' with_reducible first|refine z0k ?_|refine z1k ?_|refine z0I ?_|refine z0s ?_|refine z0r ?_|refine⟨z1d,?_⟩|refine⟨z1i,?_⟩|fail
 refine z2Y hx (z0A h8 (by decide)) ?_
 rw[List.length_map]
 repeat' with_reducible first|refine z0r ?_|refine z2z ?_|fail
 refine⟨_,_,_,wi.length,rfl,y0f (Nat.le_trans h8 (by decide)),y1n _,by rw[z1u];exact Nat.le_trans h8 (by decide),λenv' he=>z0X (f:=λX=>V.tup [.str "wish",X]) (t:=wsT wi w) (z0m he (by decide+kernel)) trivial _ _ _ (λX hX K hK=> ?_) (λX hX _ K hK=> ?_) ?_⟩
 ·obtain⟨j,hj,rfl⟩:=z17 hX
  rw[y3M hj] at hK
  have hjm:(wi.map z0g)[j]? =some (z0g wi[j]):=by rw[List.getElem?_map,List.getElem?_eq_getElem hj];rfl
  clear q
  repeat' with_reducible first|refine z0k ?_|refine z0W ?_|refine z1x ?_|fail
  refine z0U hx (Nat.le_trans hj (Nat.le_trans h8 (by decide))) hjm ?_
  unfold z0g
  repeat' first|(with_reducible refine z0O ?_)|fail
  refine z2w (by with_unfolding_all decide) (by with_unfolding_all decide) (by with_unfolding_all exact rfl) ?_
  repeat' with_reducible first|refine z0k ?_|refine y2L ?_|refine z0j ?_|fail
  exact hK
 ·obtain⟨j,hj,rfl⟩:=z17 hX
  clear q
  repeat' with_reducible first|refine z0k ?_|refine z52 ?_|refine z3l ?_|refine z0s ?_|refine z0r ?_|refine⟨by with_unfolding_all exact Nat.le_of_ble_eq_true rfl,?_⟩|fail
  exact hK
 rw[List.nil_append,z3P,y3S]
 intro fa ofa
 clear hsc
 with_reducible refine z2B ?_
 have h0:SfI (.ref i) x (.lst (ps.map prV)) (.str w) fa σ (λj=>srF .wish w wi wi.length++(ps.take j).flatMap λp=>srF (.need p.1 p.2) w (z0y es p) (z0y es p).length) 0 [some (.ref i),some x,some (.lst (ps.map prV)),some (.str w),some (.ref fa),none,none,none,none] ((fa,ofa,.list (ssV (srF .wish w wi wi.length++(ps.take 0).flatMap λp=>srF (.need p.1 p.2) w (z0y es p) (z0y es p).length)))::σ):= .mk
 rw[List.take_zero,List.flatMap_nil,List.append_nil] at h0
 refine Leaf.mk (.mk _ _ (SfI (.ref i) x (.lst (ps.map prV)) (.str w) fa σ λj=>srF .wish w wi wi.length++(ps.take j).flatMap λp=>srF (.need p.1 p.2) w (z0y es p) (z0y es p).length) (.lst _) h0 (λj X hX m τ hI QB hQB _=> ?_) λm τ hI=> ?_)
 ·clear h0 q
  rw[List.getElem?_map] at hX
  apply z0Z hX;rintro ⟨ot,mk⟩ hpe
  have hpm:=List.mem_of_getElem? hpe
  obtain⟨ns,hns⟩:=pi _ hpm
  obtain⟨ho,h1,h2⟩:=pb.ok _ hpm
  have hnd:z0y es (ot,mk)=ns:=z04 (S.eok ot).1 hns
  have hnl:ns.length<=6:=(S.eok ot).2.2 _ hns
  have htk:(ps.take (j+1)).flatMap (λp=>srF (.need p.1 p.2) w (z0y es p) (z0y es p).length)=(ps.take j).flatMap (λp=>srF (.need p.1 p.2) w (z0y es p) (z0y es p).length)++srF (.need ot mk) w ns ns.length:=by
   rw[List.take_add_one,hpe,List.flatMap_append]
   show _++((srF (.need ot mk) w (z0y es (ot,mk)) (z0y es (ot,mk)).length)++[])=_
   rw[hnd,List.append_nil]
  have hend:=λo v1 v2 v3 v4=>hQB _ _ trivial (SfI.mk (a0:= .ref i) (a1:=x) (a2:= .lst (ps.map prV)) (a3:= .str w) (fa:=fa) (σ:=σ) (L:=λj=>srF .wish w wi wi.length++(ps.take j).flatMap λp=>srF (.need p.1 p.2) w (z0y es p) (z0y es p).length) (j:=j+1) (o:=o) (v1:=v1) (v2:=v2) (v3:=v3) (v4:=v4))
  simp only[htk] at hend
  have hlj:=hlen j
  refine hI.casesOn @λo v1 v2 v3 v4=> ?_
  clear hQB hI htk hlen hpe hX
  simp only
  generalize (ps.take j).flatMap (λp=>srF (.need p.1 p.2) w (z0y es p) (z0y es p).length)=L1 at hend hlj⊢
  refine Leaf.mk (z0K (hin.cons _) (by decide+kernel) ?_)
  refine Leaf.mk (fnc (z4l H (S.c1 _) ho h1 h2 hns (.inl ?_)))
  have g0:SgI (.ref i) x (.lst (ps.map prV)) (.str w) (.str ot) (.int mk) fa σ (λl=>(srF .wish w wi wi.length++L1)++srF (.need ot mk) w ns l) 0 [some (.ref i),some x,some (.lst (ps.map prV)),some (.str w),some (.ref fa),some (.str ot),some (.int mk),v3,v4] ((fa,o,.list (ssV ((srF .wish w wi wi.length++L1)++[])))::σ):= .mk
  rw[List.append_nil] at g0
  refine Leaf.mk (.mk _ _ (SgI (.ref i) x (.lst (ps.map prV)) (.str w) (.str ot) (.int mk) fa σ λl=>(srF .wish w wi wi.length++L1)++srF (.need ot mk) w ns l) (.lst _) g0 (λl X hX m τ hI QB2 hQB2 _=> ?_) λm τ hI=> ?_)
  ·obtain⟨⟨nm,lo,hi⟩,hne,rfl⟩:=z66 hX
   have hl:=(List.getElem?_eq_some_iff.mp hne).1
   have hll:=z3H (w:=w) (.need ot mk) ns l
   have hnx:=λo v3 v4=>hQB2 _ _ trivial (SgI.mk (a0:= .ref i) (a1:=x) (a2:= .lst (ps.map prV)) (a3:= .str w) (a5:= .str ot) (a6:= .int mk) (fa:=fa) (σ:=σ) (L:=λl=>(srF .wish w wi wi.length++L1)++srF (.need ot mk) w ns l) (j:=l+1) (o:=o) (v3:=v3) (v4:=v4))
   simp only[y0s hne] at hnx
   refine hI.casesOn @λo v3 v4=> ?_
   clear hQB2 hend hI g0
   refine z02 (λhb=> ?_) λhb=> ?_
   ·refine Leaf.mk ⟨tyL At.hd,?_⟩
    refine Leaf.mk (z2C (z0A (n:=100) (by rw[List.length_append];lia) (by decide)) λo'=> ?_)
    rw[hb,if_pos rfl,<-List.append_assoc] at hnx
    have hnx:=hnx o' (some (.int (l:Int))) (some (z0g (nm,lo,hi)))
    rw[ssV,List.map_append] at hnx
    exact hnx
   ·rw[hb,if_neg Bool.false_ne_true,List.append_nil] at hnx
    exact hnx _ _ _
  ·refine hI.casesOn @λo v3 v4=> ?_
   rw[z7q]
   rw[<-List.append_assoc] at hend
   exact hend _ _ _ _ _
 ·refine hI.casesOn @λo v1 v2 v3 v4=> ?_
  rw[List.length_map,List.take_length]
  exactλhnd=>q fa o (z60 hnd)
end
end
section
section
variable {C:Cx} [HM C] [NF C] {d:Nat} {σ:Sto} {Q:V->Sto->Prop} {i k:Addr} {kv:List (Str×Addr)} {es:Str->List (Int×List z0c)} {wi:List z0c} {ps:List (Str×Int)} {w:Str}
structure Gd(es:Str->List (Int×List z0c))(wi:List z0c):Prop where
 ok:WishOk wi
 nd:∀w,((es w).map (·.1)).Nodup
 ag:∀pk,PkB pk->PkIn es pk->∃N R,N<=100/\Bf (nx es pk) N [] (wi.map (·.1)) R/\(∀w∈R,Ware w)/\R.length<=N
 mb:∀w,∀p∈es w,Ware w/\1<=p.1/\p.1<=999
 l12:∀pk:List (Str×Int),(pk.map (·.1)).Nodup->PkIn es pk->pk.length<=12
 l8:∀w,(es w).length<=8
 l6:∀w,∀p∈es w,p.2.length<=6
theorem PkIn.snoc(pi:PkIn es ps){mk:Int}{ns:List z0c}(hm:(mk,ns)∈es w):PkIn es (ps++[(w,mk)]):=λp hp=>by
 rcases List.mem_append.mp hp with h|h
 ·exact pi p h
 ·rw[List.mem_singleton.mp h];exact⟨ns,hm⟩
theorem PkB.snoc(g:Gd es wi){mk:Int}{ns:List z0c}(pb:PkB ps)(pi:PkIn es ps)(hw:w∉ps.map (·.1))(hm:(mk,ns)∈es w):PkB (ps++[(w,mk)]):=by
 have hn:((ps++[(w,mk)]).map (·.1)).Nodup:=by rw[List.map_append];exact z1r pb.nd hw
 refine⟨hn,g.l12 _ hn (pi.snoc hm),λp hp=> ?_⟩
 rcases List.mem_append.mp hp with h|h
 ·exact pb.ok p h
 ·rw[List.mem_singleton.mp h];exact g.mb w _ hm
noncomputable def agF(es:Str->List (Int×List z0c))(wi:List z0c)(ps:List (Str×Int)):List Str:=Classical.epsilon λR=>∃N,N<=100/\Bf (nx es ps) N [] (wi.map (·.1)) R/\(∀w∈R,Ware w)/\R.length<=N
theorem z7T(g:Gd es wi)(pb:PkB ps)(pi:PkIn es ps):∃N,N<=100/\Bf (nx es ps) N [] (wi.map (·.1)) (agF es wi ps)/\(∀w∈agF es wi ps,Ware w)/\(agF es wi ps).length<=N:=
 Classical.epsilon_spec (p:=λR=>∃N,N<=100/\Bf (nx es ps) N [] (wi.map (·.1)) R/\(∀w∈R,Ware w)/\R.length<=N) (by obtain⟨N,R,h⟩:=g.ag ps pb pi;exact⟨R,N,h⟩)
noncomputable def wtF(es:Str->List (Int×List z0c))(wi:List z0c)(ps:List (Str×Int)):List Str:=(agF es wi ps).filter λx=> !(vAt (pkV ps) x).isSome
noncomputable def wtT(ps:List (Str×Int)):V->Bool
 | .str x=> !(vAt (pkV ps) x).isSome
 |_=>false
theorem wt_eq:((agF es wi ps).map V.str).filter (wtT ps)=(wtF es wi ps).map V.str:=by rw[List.filter_map];rfl
theorem y3A(pb:PkB ps):∀y∈wtF es wi ps,y∈agF es wi ps/\y∉ps.map (·.1):=λy hy=>by
 obtain⟨h1,h2⟩:=List.mem_filter.mp hy
 refine⟨h1,λhm=> ?_⟩
 obtain⟨mk,_,e⟩:=z4H pb.nd hm
 rw[z26,e] at h2;cases h2
noncomputable abbrev SR:=(List (Str×Int)×List V) ⊕ V
noncomputable def lpF(one:Int->SR):List Int->List (Int×V)->(List (Str×Int)×List V) ⊕ List (Int×V)
 |[],as=> .inr as
 |mk::l,as=>(one mk).elim (λx=> .inl (x.1,.lst (as.map aV)::x.2)) λZ=>lpF one l (as++[(mk,Z)])
noncomputable def cl0(es:Str->List (Int×List z0c))(ps:List (Str×Int)):Option V:=ps.getLast?.elim none λp=>clF es ps p.1 p.2
noncomputable def gdF(w:Str)(es:Str->List (Int×List z0c))(ss:List (Src×Int×Int))(as:List (Int×V)):List (Int×V):=as.filter λp=>(lfF es w (ss.map (·.2))).any (·==p.1)
noncomputable def onF(f:List (Str×Int)->SR)(ps:List (Str×Int))(w:Str)(ss:List (Src×Int×Int))(mk:Int):SR:=(osF w mk ss).elim (f (ps++[(w,mk)])) .inr
noncomputable def sdF(es:Str->List (Int×List z0c))(wi:List z0c):Nat->List (Str×Int)->SR
 |0,_=> .inr .none
 |n+1,ps=>(cl0 es ps).elim ((wtF es wi ps).head?.elim (.inl (ps,[])) λw=>(lpF (onF (sdF es wi n) ps w (ssF es wi ps w)) (z07 es w) []).elim .inl λas=> .inr (.tup [.str w,.lst (ssV (ssF es wi ps w)),.lst ((gdF w es (ssF es wi ps w) as).map aV)])) .inr
noncomputable def cV:SR->V:=Sum.elim (λx=> .tup [.tup [.lst (x.1.map prV),.lst x.2],.none]) λZ=> .tup [.none,Z]
noncomputable def fsB(gs:List Int):V->Bool
 | .tup (.int k::_)=>gs.any (·==k)
 |_=>false
theorem TrL.filt{τ:Sto}{gs:List Int}:∀{as:List (Int×V)} {vs:List V} {A:List Addr},TrL τ A vs (as.map aV)->∃B,B.Sublist A/\TrL τ B (vs.filter (fsB gs)) ((as.filter λp=>gs.any (·==p.1)).map aV)/\∀v∈vs,∃k Z,v= .tup [.int k,Z]
 |[],vs,A,h=>by obtain⟨rfl,rfl⟩:=h.inv;exact⟨[],.refl _,.nil,λ_ h=>nomatch h⟩
 |(k,Z)::as,vs,A,h=>by
  obtain⟨x,zs,B1,D,rfl,rfl,h1,h2⟩:=h.inv
  obtain⟨us,rfl,h3⟩:=h1.inv
  obtain⟨y,us,_,_,rfl,rfl,h4,h5⟩:=h3.inv
  obtain⟨rfl,rfl⟩:=h4.inv
  obtain⟨z,us,_,_,rfl,rfl,h6,h7⟩:=h5.inv
  obtain⟨rfl,rfl⟩:=h7.inv
  obtain⟨B,hB,hT,hv⟩:=TrL.filt (gs:=gs) h2
  have hv':∀v∈V.tup [.int k,z]::zs,∃k Z,v= .tup [.int k,Z]:=List.forall_mem_cons.mpr ⟨⟨k,z,rfl⟩,hv⟩
  cases e:gs.any (·==k) with
  |true=>
   refine⟨_,(List.Sublist.refl _).append hB,?_,hv'⟩
   rw[show(V.tup [.int k,z]::zs).filter (fsB gs)=V.tup [.int k,z]::zs.filter (fsB gs) from List.filter_cons_of_pos e,show((k,Z)::as).filter (λp=>gs.any (·==p.1))=(k,Z)::as.filter (λp=>gs.any (·==p.1)) from List.filter_cons_of_pos e]
   exact .cons h1 hT
  |false=>
   refine⟨_,hB.trans (List.sublist_append_right _ _),?_,hv'⟩
   have e':¬gs.any (·==k)=true:=by rw[e];exact Bool.false_ne_true
   rw[show(V.tup [.int k,z]::zs).filter (fsB gs)=zs.filter (fsB gs) from List.filter_cons_of_neg e',show((k,Z)::as).filter (λp=>gs.any (·==p.1))=as.filter (λp=>gs.any (·==p.1)) from List.filter_cons_of_neg e']
   exact hT
inductive StQ(σ1:Sto)(ag:Addr)(as:List (Int×V))(τ:Sto):Prop
 |mk {A:List Addr} {vs:List V}:At τ ag (.list vs)->(∀p∈σ1,p∈τ)->TrL τ A vs (as.map aV)->A.Nodup->(∀a∈A,a≠ag/\Fresh σ1 a)->StQ σ1 ag as τ
theorem StQ.add{σ1 τ τ2 τ3:Sto}{ag:Addr}{as:List (Int×V)}{mk:Int}{t:V}{vs:List V}{A:List Addr}(h1:At τ ag (.list vs))(h2:∀p∈σ1,p∈τ)(h3:TrL τ A vs (as.map aV))(h4:A.Nodup)(h5:∀a∈A,a≠ag/\Fresh σ1 a)(hf:Fresh σ1 ag)
  {B:List Addr} {Z:V} (k1:∀p∈τ,p∈τ2) (k2:B.Nodup) (k3:∀a∈B,Fresh τ a) (k4:Tr τ2 B Z t) (U:UpdS τ2 τ3 ag (.list (vs++[.tup [.int mk,Z]]))):StQ σ1 ag (as++[(mk,t)]) τ3:=by
 have hBg:∀a∈B,a≠ag:=λa ha e=>by obtain⟨o,h⟩:=h1;exact k3 a ha _ h e.symm
 have hAB:∀a∈A,∀b∈B,a≠b:=λa ha b hb e=>by
  obtain⟨_,o,h⟩:=h3.at a ha
  exact k3 b hb _ h e
 have t1:TrL τ3 A vs (as.map aV):=h3.mono λa ha x hx=>U.at (by obtain⟨o,hx⟩:=hx;exact⟨o,k1 _ hx⟩) (h5 a ha).1
 have t2:Tr τ3 B Z t:=k4.mono λa ha x hx=>U.at hx (hBg a ha)
 refine .mk (A:=A++B) U.here (λp hp=>U.keep p (k1 p (h2 p hp)) (hf p hp)) ?_ (List.nodup_append.mpr ⟨h4,k2,hAB⟩) λa ha=> ?_
 ·rw[List.map_append]
  exact TrL.app (.one (.tup (.cons (A:=[]) (.int mk) (.one t2)))) t1
 ·rcases List.mem_append.mp ha with h|h
  ·exact h5 a h
  ·exact⟨hBg a h,λp hp=>k3 a h p (h2 p hp)⟩
theorem Tr.pickI{τ:Sto}{A:List Addr}{v:V}{rs ys:List V}(h0:Tr τ A v (.tup [.tup [.lst rs,.lst ys],.none])):∃a b us B0 B ws,v= .tup [.tup [.ref a,.ref b],.none]/\A=(B0++[a])++(B++[b])/\At τ a (.list ws)/\TrL τ B0 ws rs/\At τ b (.list us)/\TrL τ B us ys:=by
 obtain⟨_,rfl,ha⟩:=h0.inv
 obtain⟨_,_,_,_,rfl,rfl,hb,hc⟩:=ha.inv
 obtain⟨_,_,_,_,rfl,rfl,hd,he⟩:=hc.inv
 obtain⟨rfl,rfl⟩:=hd.inv
 obtain⟨rfl,rfl⟩:=he.inv
 obtain⟨_,rfl,hf⟩:=hb.inv
 obtain⟨_,_,_,_,rfl,rfl,h1,h2⟩:=hf.inv
 obtain⟨_,_,_,_,rfl,rfl,h3,h4⟩:=h2.inv
 obtain⟨rfl,rfl⟩:=h4.inv
 obtain⟨a,ws,B0,rfl,rfl,ha',hw⟩:=h1.inv
 obtain⟨b,us,B,rfl,rfl,hb',hu⟩:=h3.inv
 refine⟨a,b,us,B0,B,ws,rfl,?_,ha',hw,hb',hu⟩
 simp
theorem Tr.noneI{τ:Sto}{A:List Addr}{v Z:V}(h0:Tr τ A v (.tup [.none,Z])):∃X,v= .tup [.none,X]/\Tr τ A X Z:=by
 obtain⟨_,rfl,ha⟩:=h0.inv
 obtain⟨_,_,_,_,rfl,rfl,h1,h2⟩:=ha.inv
 obtain⟨_,_,_,_,rfl,rfl,h3,h4⟩:=h2.inv
 obtain⟨rfl,rfl⟩:=h1.inv
 obtain⟨rfl,rfl⟩:=h4.inv
 exact⟨_,rfl,by rw[List.nil_append,List.append_nil];exact h3⟩
theorem y4m(ps:List (Str×Int)):TrL σ [] (ps.map prV) (ps.map prV):=TrL.flat λy hy=>by
 apply z0l hy;intro p _
 exact .tup (Tr.dat λy hy=>by simp at hy;rcases hy with rfl|rfl<;>simp)
theorem y4c(ss:List (Src×Int×Int)):TrL σ [] (ssV ss) (ssV ss):=TrL.flat λy hy=>by
 apply z0l hy;intro p _
 exact z8d _
theorem Res.found{σ0 τ τ2:Sto}{ag:Addr}{as:List (Int×V)}{r:List (Str×Int)}{ys:List V}{a b na:Addr}{us ws vs:List V}{B0 B A:List Addr}{o:Obj}(hk:∀p∈σ0,p∈τ)(h1:At τ ag (.list vs))(h3:TrL τ A vs (as.map aV))(h4:A.Nodup)(h5:∀a∈A,a≠ag/\Fresh σ0 a)(hf:Fresh σ0 ag)
  (k1:∀p∈τ,p∈τ2) (k2:((B0++[a])++(B++[b])).Nodup) (k3:∀c∈(B0++[a])++(B++[b]),Fresh τ c) (ha:At τ2 a (.list ws)) (hw:TrL τ2 B0 ws (r.map prV)) (hb:At τ2 b (.list us)) (hu:TrL τ2 B us ys) (hn:Fresh τ2 na):
  Res σ0 (cV (.inl (r,.lst (as.map aV)::ys))) (.tup [.tup [.ref a,.ref na],.none]) ((na,o,.list ([.ref ag]++us))::τ2):=by
 have inA:∀c∈A,∃x,At τ c x:=λc hc=>by obtain⟨xs,h⟩:=h3.at c hc;exact⟨_,h⟩
 have in2:∀c x,At τ c x->At τ2 c x:=λc x ⟨o,h⟩=>⟨o,k1 _ h⟩
 have up:∀c x,At τ2 c x->At ((na,o,AO.list ([.ref ag]++us))::τ2) c x:=λc x h=>h.cons _
 have hB0:=λc hc=>k3 c (List.mem_append_left _ (List.mem_append_left _ hc))
 have hB:=λc hc=>k3 c (List.mem_append_right _ (List.mem_append_left _ hc))
 have hfa:=k3 a (List.mem_append_left _ (List.mem_append_right _ (.head _)))
 have n1:=List.nodup_append.mp k2
 have n2:=List.nodup_append.mp n1.2.1
 have neT:∀{c e:Addr} {x},At τ c x->Fresh τ e->c≠e:=λh hf=>hf.ne h
 have neN:∀{c:Addr} {x},At τ2 c x->c≠na:=λh=>hn.ne h
 refine .mk ((B0++[a])++(((A++[ag])++B)++[na])) (λp hp=> .tail _ (k1 p (hk p hp))) ?_ ?_ ?_
 ·refine List.nodup_append.mpr ⟨n1.1,List.nodup_append.mpr ⟨List.nodup_append.mpr ⟨List.nodup_append.mpr ⟨h4,List.nodup_cons.mpr ⟨List.not_mem_nil,List.nodup_nil⟩,λc hc e he=>by rw[List.mem_singleton.mp he];exact(h5 c hc).1⟩,n2.1,λc hc e he=> ?_⟩,List.nodup_cons.mpr ⟨List.not_mem_nil,List.nodup_nil⟩,λc hc e he=> ?_⟩,λc hc e he=> ?_⟩
  ·rcases List.mem_append.mp hc with h|h
   ·obtain⟨x,hx⟩:=inA c h;exact neT hx (hB e he)
   ·rw[List.mem_singleton.mp h];exact neT h1 (hB e he)
  ·rw[List.mem_singleton.mp he]
   rcases List.mem_append.mp hc with h|h
   ·rcases List.mem_append.mp h with h|h
    ·obtain⟨x,hx⟩:=inA c h;exact neN (in2 _ _ hx)
    ·rw[List.mem_singleton.mp h];exact neN (in2 _ _ h1)
   ·obtain⟨x,hx⟩:=hu.at c h;exact neN hx
  ·have hcf:Fresh τ c:=k3 c (List.mem_append_left _ hc)
   have hc2:∃x,At τ2 c x:=by
    rcases List.mem_append.mp hc with h|h
    ·obtain⟨x,hx⟩:=hw.at c h;exact⟨_,hx⟩
    ·rw[List.mem_singleton.mp h];exact⟨_,ha⟩
   rcases List.mem_append.mp he with h|h
   ·rcases List.mem_append.mp h with h|h
    ·rcases List.mem_append.mp h with h|h
     ·obtain⟨x,hx⟩:=inA e h;exact(neT hx hcf).symm
     ·rw[List.mem_singleton.mp h];exact(neT h1 hcf).symm
    ·exact n1.2.2 c hc e (List.mem_append_left _ h)
   ·rw[List.mem_singleton.mp h]
    obtain⟨x,hx⟩:=hc2;exact neN hx
 ·intro c hc
  have f2:Fresh τ c->Fresh σ0 c:=λh p hp=>h p (hk p hp)
  rcases List.mem_append.mp hc with h|h
  ·exact f2 (k3 c (List.mem_append_left _ h))
  ·rcases List.mem_append.mp h with h|h
   ·rcases List.mem_append.mp h with h|h
    ·rcases List.mem_append.mp h with h|h
     ·exact(h5 c h).2
     ·rw[List.mem_singleton.mp h];exact hf
    ·exact f2 (hB c h)
   ·rw[List.mem_singleton.mp h];exactλp hp=>hn p (k1 p (hk p hp))
 ·have hT:=Tr.tup (TrL.cons (A:=(B0++[a])++(((A++[ag])++B)++[na])) (B:=[]) (.tup (.cons (.ref (up _ _ ha) (hw.mono λc _ x h=>up c x h)) (.one (.ref At.hd (.cons (.ref (up _ _ (in2 _ _ h1)) (h3.mono λc _ x h=>up c x (in2 c x h))) (hu.mono λc _ x h=>up c x h)))))) (.one .none))
  rw[List.append_nil] at hT;exact hT
theorem Res.reason{σ0 τ:Sto}{sa nb:Addr}{bs:List (Int×V)}{ss:List (Src×Int×Int)}{us:List V}{A B:List Addr}{o:Obj}(hk:∀p∈σ0,p∈τ)(hs:At τ sa (.list (ssV ss)))(hsf:Fresh σ0 sa)(h4:A.Nodup)(h5:∀a∈A,a≠sa/\Fresh σ0 a)(hB:B.Sublist A)(hT:TrL τ B us (bs.map aV))(hn:Fresh τ nb):
  Res σ0 (cV (.inr (.tup [.str w,.lst (ssV ss),.lst (bs.map aV)]))) (.tup [.none,.tup [.str w,.ref sa,.ref nb]]) ((nb,o,.list us)::τ):=by
 have up:∀c x,At τ c x->At ((nb,o,AO.list us)::τ) c x:=λc x h=>h.cons _
 refine .mk ([sa]++(B++[nb])) (λp hp=> .tail _ (hk p hp)) ?_ ?_ ?_
 ·refine List.nodup_append.mpr ⟨List.nodup_cons.mpr ⟨List.not_mem_nil,List.nodup_nil⟩,List.nodup_append.mpr ⟨hB.nodup h4,List.nodup_cons.mpr ⟨List.not_mem_nil,List.nodup_nil⟩,λc hc e he=> ?_⟩,λc hc e he=> ?_⟩
  ·rw[List.mem_singleton.mp he];obtain⟨x,hx⟩:=hT.at c hc;exact hn.ne hx
  ·rw[List.mem_singleton.mp hc]
   rcases List.mem_append.mp he with h|h
   ·exact(h5 e (hB.subset h)).1.symm
   ·rw[List.mem_singleton.mp h];exact hn.ne hs
 ·intro c hc
  rcases List.mem_append.mp hc with h|h
  ·rw[List.mem_singleton.mp h];exact hsf
  ·rcases List.mem_append.mp h with h|h
   ·exact(h5 c (hB.subset h)).2
   ·rw[List.mem_singleton.mp h];exactλp hp=>hn p (hk p hp)
 ·exact .tup (.cons (A:=[]) .none (.one (.tup (.cons (A:=[]) (.str w) (.cons (A:=[sa]) (.ref (A:=[]) (up _ _ hs) (y4c ss)) (.one (.ref At.hd (hT.mono λc _ x h=>up c x h))))))))
end
end
section
section
variable {C:Cx} [HM C] [NF C] {d:Nat} {σ:Sto} {Q:V->Sto->Prop} {i k:Addr} {kv:List (Str×Addr)} {es:Str->List (Int×List z0c)} {wi:List z0c} {ps:List (Str×Int)} {w:Str}
noncomputable def z5w(r1:Stmt)(r2:Expr)(r3:Expr)(r4:Expr):TC:=⟨[.cut [.loc 2,.len,.psh (.int 0),.tcmpc .Gt,.ife [.loc 0,.loc 2,.call (.ref 187) 2,.asg 3,.loc 3,.psh .none,.tcmpc .IsNot,.ife [.psh .none,.loc 3,.tup 2,.ret] []] []],.loc 2,.call (.type "dict") 1,.asg 4,.rawS r1,.loc 5,.len,.psh (.int 0),.tcmpc .Eq,.ife [.loc 2,.call (.type "list") 1,.raw r2,.tup 2,.psh .none,.tup 2,.ret] [],.loc 5,.subT 0,.asg 6,.loc 0,.loc 1,.loc 2,.loc 6,.call (.ref 180) 4,.asg 7,.loc 0,.loc 6,.raw r3,.call (.ref 175) 3,.asg 8,.asgL 9,.loc 0,.mI 272 "makes",.loc 6,.meth (.ref 255) 1,.forV 10 [.loc 0,.loc 1,.loc 2,.loc 6,.loc 10,.loc 7,.call (.ref 194) 6,.asg 3,.loc 3,.psh .none,.tcmpc .Is,.ife [.loc 0,.loc 1,.loc 2,.loc 6,.loc 10,.tup 2,.lst 1,.binc .Add,.call (.ref 199) 3,.asg2 11 3,.loc 11,.psh .none,.tcmpc .IsNot,.ife [.loc 11,.subT 0,.loc 9,.lst 1,.loc 11,.subT 1,.binc .Add,.tup 2,.psh .none,.tup 2,.ret] []] [],.loc 9,.mty "list",.loc 10,.loc 3,.tup 2,.meth (.bi "list.append") 1,.pop],.psh .none,.loc 6,.loc 7,.raw r4,.tup 3,.tup 2,.ret],[.inl r1,.inr r2,.inr r3,.inr r4],[([2],none),([3,0,0],some [0,1]),([6],some [3]),([9],some [1,2])]⟩
--z5w 4
theorem gt0(n:Nat):decide (((n+1:Nat):Int)>0)=true:=decide_eq_true (by lia)
theorem y0z{one:Int->SR}:∀{l:List Int} {as:List (Int×V)} {x:List (Str×Int)×List V},lpF one l as= .inl x->∃mk∈l,∃y bs,one mk= .inl y/\x=(y.1,.lst bs::y.2)
 |[],_,_,h=>nomatch h
 |mk::l,as,x,h=>by
  have h:(one mk).elim (λx=> .inl (x.1,.lst (as.map aV)::x.2)) (λZ=>lpF one l (as++[(mk,Z)]))= .inl x:=h
  cases e:one mk with
  |inl y=>rw[e] at h;cases h;exact⟨mk,.head _,y,_,e,rfl⟩
  |inr Z=>
   rw[e] at h
   obtain⟨m,hm,r⟩:=y0z (as:=as++[(mk,Z)]) h
   exact⟨m,.tail _ hm,r⟩
theorem y2O{f:List (Str×Int)->SR}{ss:List (Src×Int×Int)}{mk:Int}{y:List (Str×Int)×List V}(h:onF f ps w ss mk= .inl y):osF w mk ss=none/\f (ps++[(w,mk)])= .inl y:=by
 unfold onF at h
 cases e:osF w mk ss with
 |none=>rw[e] at h;exact⟨rfl,h⟩
 |some Z=>rw[e] at h;cases h
theorem sd_len:∀{n:Nat} {ps:List (Str×Int)} {x:List (Str×Int)×List V},sdF es wi n ps= .inl x->x.2.length<=n
 |0,_,_,h=>nomatch h
 |n+1,ps,x,h=>by
  unfold sdF at h
  cases e1:cl0 es ps with
  |some Z=>rw[e1] at h;cases h
  |none=>
   rw[e1] at h
   cases e2:(wtF es wi ps).head? with
   |none=>rw[e2] at h;cases h;exact Nat.zero_le _
   |some w=>
    rw[e2] at h
    cases e3:lpF (onF (sdF es wi n) ps w (ssF es wi ps w)) (z07 es w) [] with
    |inr as=>simp only[Option.elim] at h;rw[e3] at h;cases h
    |inl y=>
     simp only[Option.elim] at h
     rw[e3] at h;cases h
     obtain⟨mk,_,z,bs,h1,rfl⟩:=y0z e3
     exact Nat.succ_le_succ (sd_len (y2O h1).2)
inductive StI(a0 a1 a2 a4 a5 a6 a7 a8:V)(ag:Addr)(σ1:Sto)(one:Int->SR)(l:List Int)(j:Nat):Loc->Sto->Prop
 |mk {as:List (Int×V)} {τ':Sto} {v3 v10 v11:Option V}:as.length<=j->lpF one l []=lpF one (l.drop j) as->StQ σ1 ag as τ'->StI a0 a1 a2 a4 a5 a6 a7 a8 ag σ1 one l j [some a0,some a1,some a2,v3,some a4,some a5,some a6,some a7,some a8,some (.ref ag),v10,v11] τ'
theorem z9j(H:G1 C)(g:Gd es wi)(n:Nat):∀{σ:Sto} {Q:V->Sto->Prop} {ps:List (Str×Int)} {x:V} {Px:Sto->Prop},Shp σ i k kv es->Has σ x (.list (wi.map z0g)) Px->PkB ps->PkIn es ps->13<=ps.length+n->n<=13->
  (∀v σ',Res σ (cV (sdF es wi n ps)) v σ'->Q v σ')->CW C (d+n+7) (.ref 199) [.ref i,x,.lst (ps.map prV)] σ Q:=by
 induction n with
 |zero=>
  intro σ Q ps x Px S hx pb pi hn hn13 q
  exact absurd (g.l12 ps pb.nd pi) (Nat.not_le_of_lt hn)
 |succ n ih=>
  intro σ Q ps x Px S hx pb pi hn hn13 q
  have h12:=g.l12 ps pb.nd pi
  have h8:=g.ok.len
  have hp12:(ps.map prV).length<=12:=by rw[List.length_map];exact h12
  refine z0D (G1.kin (by assumption)) ["shop","wish","pairs","reason","picked","waiting","ware","sources","good","against","make","found"] [("len",.bi "len"),("clash",.ref 187),("dict",.type "dict"),("agenda_of",.ref 149),("list",.type "list"),("sources_for",.ref 180),("left_by",.ref 175),("reversed",.type "reversed"),("outside",.ref 194),("settled",.ref 199)] (by kernel_rfl) (vs3 λ_ _ _=>by kernel_rfl) rfl (z0a (z0Q (by assumption)) (z0a (y1U (by assumption)) (z0a (z20 (by assumption)) (z0a (z7F (by assumption)) (z0a (z0N (by assumption)) (z0a (z49 (by assumption)) (z0a (z9n (by assumption)) (z0a (z4X (by assumption)) (z0a (z9g (by assumption)) (z0a (z5o (by assumption)) GL_nil)))))))))) ?_
  intro env hsc
  obtain⟨dx,hin⟩:=S.inst
  refine z0e (z0o H) (z0n H) (z5w _ _ _ _) (by exact rfl) (by kernel_rfl) ?_
  intro F m0
  refine z39 (α:=Option V) (λ_=>cl0 es ps=none) (λv=>[some (.ref i),some x,some (.lst (ps.map prV)),v,none,none,none,none,none,none,none,none]) σ (λK hK hR=> ?_) λv hcl=> ?_
  ·clear ih
   rcases List.eq_nil_or_concat ps with rfl|⟨ps0,⟨w,mk⟩,e⟩
   ·refine Leaf.mk (z0E (n:=0) (.lst _) rfl (by decide) ?_)
    exact hK _ rfl
   ·rw[List.concat_eq_append] at e
    subst e
    have ecl:cl0 es (ps0++[(w,mk)])=clF es (ps0++[(w,mk)]) w mk:=by unfold cl0;rw[List.getLast?_concat];rfl
    obtain⟨ns,hm⟩:=pi (w,mk) (List.mem_append_right _ (.head _))
    refine Leaf.mk (z0E (n:=ps0.length+1) (.lst _) (by rw[List.length_map,List.length_append];rfl) (Nat.le_trans hp12 (by decide)) ?_)
    refine z18 (by exact gt0 _) ?_
    refine Leaf.mk (fnc (y2b H S pb hm (λt xs σ' e hr=> ?_) λe=> ?_))
    ·refine hR _ _ _ (λe=>nomatch e) (q _ _ ?_)
     obtain⟨A,a1,a2,a3,a4⟩:=hr
     rw[show sdF es wi (n+1) (ps0++[(w,mk)])= .inr t by show(cl0 es (ps0++[(w,mk)])).elim _ _=_;rw[ecl,e];rfl]
     exact .mk A a1 a2 a3 (.tup (.cons (A:=[]) .none (.one a4)))
    ·exact hK _ (ecl.trans e)
  obtain⟨N,hN,hB,hRw,hRl⟩:=z7T g pb pi
  have hRz:((agF es wi ps).map V.str).length<=sizeLine:=z0A (Nat.le_trans hRl hN) (by decide)
  have hpn:((pkV ps).map (·.1)).Nodup:=by rw[z0L];exact pb.nd
  refine Leaf.mk (z2s (.lst _) pb λpa0 opa hfp=> ?_)
  refine Leaf.mk ?_
  show AS C env ["shop","wish","pairs","reason","picked","waiting","ware","sources","good","against","make","found"] _ true _ (exec _ env) [some (.ref i),some x,some (.lst (ps.map prV)),v,some (.ref pa0),none,none,none,none,none,none,none] _ _
  refine z00 "ware" ["picked"] [] (z1C (by rw[hsc];kernel_rfl)) (by rw[hsc];kernel_rfl) GL_nil (.cons LkC.lk .nil) (z0J ?_)
  repeat' with_reducible first|refine z0k ?_|refine z1k ?_|refine z0I ?_|refine z0s ?_|refine z0r ?_|refine⟨z4b (by assumption),?_⟩|fail
  refine fnc (z6G H (S.c1 _) (hx.mono λp h=> .tail _ h) g.ok At.hd pb pi hN hB ?_)
  refine⟨_,_,.lst _,hRz,λenv' he=>z0X (f:=id) (t:=wtT ps) (z0m he (by decide+kernel)) trivial _ _ _ (λX hX K hK=> ?_) (λX hX _ K hK=> ?_) ?_⟩
  ·obtain⟨y,hy,rfl⟩:=List.mem_map.mp hX
   clear ih q
   repeat' with_reducible first|refine z0k ?_|refine z1x ?_|fail
   refine z50 H.ns At.hd hpn ?_
   exact z0j hK
  ·with_reducible refine z0k ?_
   exact hK
  rw[List.nil_append,List.map_id,wt_eq]
  with_reducible refine z2B ?_
  have hfl:(wtF es wi ps).length<=100:=Nat.le_trans (List.length_filter_le _ _) (Nat.le_trans hRl hN)
  have hfm:=y3A (es:=es) (wi:=wi) pb
  have hsd:∀{X:SR},(wtF es wi ps).head?.elim (.inl (ps,[])) (λw=>(lpF (onF (sdF es wi n) ps w (ssF es wi ps w)) (z07 es w) []).elim .inl λas=> .inr (.tup [.str w,.lst (ssV (ssF es wi ps w)),.lst ((gdF w es (ssF es wi ps w) as).map aV)]))=X->sdF es wi (n+1) ps=X:=λe=>by
   show(cl0 es ps).elim _ _=_
   rw[hcl];exact e
  generalize wtF es wi ps=wt at hfl hfm hsd
  cases wt with
  |nil=>
   refine Leaf.mk (z0E (n:=0) (.lst _) rfl (by decide) ?_)
   refine Leaf.mk (z1W (.lst _) (Nat.le_trans hp12 (by decide)) (.inr λa oa hfa=> ?_))
   refine Leaf.mk ?_
   show AT C env ["shop","wish","pairs","reason","picked","waiting","ware","sources","good","against","make","found"] _ true _ (eval _ env) [some (.ref i),some x,some (.lst (ps.map prV)),v,some (.ref pa0),some (.lst []),none,none,none,none,none,none] _ _
   refine z16 (z0r ⟨Nat.zero_le _,λb ob hfb=> ?_⟩)
   refine q _ _ ?_
   rw[hsd rfl]
   refine .mk [a,b] (λp h=> .tail _ (.tail _ (.tail _ h))) (List.nodup_cons.mpr ⟨λh=>hfb _ (.head _) (List.mem_singleton.mp h),List.nodup_cons.mpr ⟨List.not_mem_nil,List.nodup_nil⟩⟩) (List.forall_mem_cons.mpr ⟨λp hp=>hfa p (.tail _ hp),List.forall_mem_cons.mpr ⟨λp hp=>hfb p (.tail _ (.tail _ hp)),λ_ h=>nomatch h⟩⟩) ?_
   exact .tup (.cons (A:=[a,b]) (.tup (.cons (A:=[a]) (.ref (A:=[]) (At.hd.cons _) (y4m ps)) (.one (.ref (A:=[]) At.hd .nil)))) (.one .none))
  |cons w wt=>
  obtain⟨hwR,hfr⟩:=hfm w (.head _)
  have hwW:Ware w:=hRw w hwR
  have hdl:(V.str w::wt.map V.str).length<=sizeLine:=z0A (l:=w::wt) hfl (by decide)
  have hsd:∀{X:SR},(lpF (onF (sdF es wi n) ps w (ssF es wi ps w)) (z07 es w) []).elim .inl (λas=> .inr (.tup [.str w,.lst (ssV (ssF es wi ps w)),.lst ((gdF w es (ssF es wi ps w) as).map aV)]))=X->sdF es wi (n+1) ps=X:=λe=>hsd e
  have hss:=z7R (wi:=wi) (w:=w) pi g.nd
  have hsl:(ssF es wi ps w).length<=80:=by
   have h6:∀p∈ps,(z0y es p).length<=6:=λp hp=>by
    obtain⟨ns,hns⟩:=pi p hp
    rw[show z0y es p=ns from z04 (g.nd p.1) hns];exact(S.eok p.1).2.2 _ hns
   have h1:=z7U (w:=w) (l:=ps) h6
   have h2:=z3H (w:=w) .wish wi wi.length
   unfold ssF;rw[List.length_append];lia
  clear hfm hfl hcl hRz hB hRl hN hRw hwR
  refine Leaf.mk (z0E (n:=(wt.map V.str).length+1) (.lst (V.str w::wt.map V.str)) rfl hdl ?_)
  refine Leaf.mk (z3V (k:=0) (X:= .str w) (.lst (V.str w::wt.map V.str)) (by decide) (by decide) rfl ?_)
  refine Leaf.mk (fnc (z48 H (S.c1 _) (hx.mono λp h=> .tail _ h) h8 pb pi λsa osa hfsa=> ?_))
  generalize ssF es wi ps w=ss at hsd hss hsl⊢
  refine Leaf.mk ?_
  show AT C env ["shop","wish","pairs","reason","picked","waiting","ware","sources","good","against","make","found"] _ true _ (eval _ env) [some (.ref i),some x,some (.lst (ps.map prV)),v,some (.ref pa0),some (.lst (V.str w::wt.map V.str)),some (.str w),some (.ref sa),none,none,none,none] _ _
  refine z0P "source" ["shop","wish","picked","ware"] [("stretch_of",.ref 170)] (by rw[hsc];kernel_rfl) (z0a (z3q H) GL_nil) (.cons LkC.lk (.cons LkC.lk (.cons LkC.lk (.cons LkC.lk .nil)))) (z0J ?_)
  with_reducible refine z0k ?_
  refine⟨_,_,.refL (.head _),z0A hsl (by decide),λenv' he=>z1Q (α:=Src×Int×Int) (f:=λp=>srcV p.1) (g:=λp=>V.tup [.int p.2.1,.int p.2.2]) (z0m he (by decide+kernel)) (.head _) _ _ _ (λp hp K hK=> ?_) ?_⟩
  ·clear ih q
   repeat' with_reducible first|refine z0k ?_|refine z1k ?_|refine z0I ?_|refine z0s ?_|refine z0r ?_|refine⟨z3j (by assumption),?_⟩|fail
   refine fnc (z3b H ((S.c1 _).c1 _) (hx.mono λp h=> .tail _ (.tail _ h)) h8 (At.hd.cons _) pb (hss p hp) ?_)
   exact hK
  rw[List.nil_append,show ss.map (λp=>V.tup [.int p.2.1,.int p.2.2])=(ss.map (·.2)).map λp=> .tup [.int p.1,.int p.2] by rw[List.map_map];rfl]
  refine Leaf.mk (fnc (z9o H ((S.c1 _).c1 _) hwW (by rw[List.length_map];exact Nat.le_trans hsl (by decide)) ?_))
  intro ag oag hfa
  have hml:=(S.eok w).2.1
  have hsz:=desM_len (es:=es) (w:=w)
  have hfs:Fresh ((sa,osa,.list (ssV ss))::(pa0,opa,dS (pkV ps))::σ) ag:=hfa
  have hk0:∀p∈σ,p∈(sa,osa,AO.list (ssV ss))::(pa0,opa,dS (pkV ps))::σ:=λp h=> .tail _ (.tail _ h)
  have hfsa:Fresh σ sa:=λp h=>hfsa p (.tail _ h)
  have hsm:(sa,osa,AO.list (ssV ss))∈(sa,osa,AO.list (ssV ss))::(pa0,opa,dS (pkV ps))::σ:= .head _
  refine Leaf.mk (z0K (((hin.cons _).cons _).cons _) (by decide+kernel) ?_)
  refine Leaf.mk (fnc (z8E H (((S.c1 _).c1 _).c1 _) hwW (.inl ?_)))
  have h0:StQ ((sa,osa,.list (ssV ss))::(pa0,opa,dS (pkV ps))::σ) ag [] ((ag,oag,.list [])::(sa,osa,.list (ssV ss))::(pa0,opa,dS (pkV ps))::σ):= .mk (A:=[]) At.hd (λp h=> .tail _ h) .nil List.nodup_nil λ_ h=>nomatch h
  generalize (sa,osa,AO.list (ssV ss))::(pa0,opa,dS (pkV ps))::σ=σ1 at hfs hk0 hsm h0
  refine Leaf.mk (.mk _ _ (StI (.ref i) x (.lst (ps.map prV)) (.ref pa0) (.lst (V.str w::wt.map V.str)) (.str w) (.ref sa) (.lst ((lfF es w (ss.map (·.2))).map V.int)) ag σ1 (onF (sdF es wi n) ps w ss) (z07 es w)) (.lst _) (.mk (as:=[]) (Nat.le_refl _) rfl h0) (λj X hX m τ' hI QB hQB hQR=> ?_) λm τ' hI=> ?_)
  ·rw[<-List.map_reverse,List.getElem?_map] at hX
   obtain⟨mk,hmk,rfl⟩:=Option.map_eq_some_iff.mp hX
   have hmk:(z07 es w)[j]? =some mk:=hmk
   have hj:j<(es w).length:=hsz▸(List.getElem?_eq_some_iff.mp hmk).1
   obtain⟨ns,hm⟩:=z3C (List.mem_of_getElem? hmk)
   refine hI.casesOn @λas τ' v3 v10 v11 hasl hlp T=> ?_
   refine T.casesOn @λA vs t1 t2 t3 t4 t5=> ?_
   rw[z4n hmk] at hlp
   have hal:vs.length<=sizeLine:=by rw[t3.len];exact z0A (n:=8) (Nat.le_trans hasl (Nat.le_trans (Nat.le_of_lt hj) hml)) (by decide)
   have S':Shp τ' i k kv es:=S.frame λa _ x ⟨o,h⟩=>⟨o,t2 _ (hk0 _ h)⟩
   have pb':=PkB.snoc g pb pi hfr hm
   refine Leaf.mk (fnc (z9r H S' (hx.mono λp h=>t2 p (hk0 p h)) h8 pb (.refL (t2 _ hsm)) hss (λt xs τ2 eo hr=> ?_) λeo=> ?_))
   ·obtain⟨B,k1,k2,k3,k4⟩:=hr
    have k1a:At τ2 ag (.list vs):=by obtain⟨o,h⟩:=t1;exact⟨o,k1 _ h⟩
    refine Leaf.mk ⟨tyL k1a,?_⟩
    refine Leaf.mk (z7e k1a hal λτ3 U=> ?_)
    refine hQB _ _ trivial (.mk (as:=as++[(mk,t)]) (by rw[List.length_append];exact Nat.succ_le_succ hasl) (hlp.trans ?_) (StQ.add t1 t2 t3 t4 t5 hfs k1 k2 k3 k4 U))
    show(onF (sdF es wi n) ps w ss mk).elim _ _=_
    unfold onF;rw[eo];rfl
   ·have eon:onF (sdF es wi n) ps w ss mk=sdF es wi n (ps++[(w,mk)]):=by unfold onF;rw[eo];rfl
    refine Leaf.mk (z28 (.lst _) (.lst _) (z0x (Nat.le_trans (Nat.succ_le_succ hp12) (by decide))) (z45 ?_))
    rw[show ps.map prV++[V.tup [.str w,.int mk]]=(ps++[(w,mk)]).map prV by rw[List.map_append];rfl]
    refine Leaf.mk (fnc (ih S' (hx.mono λp h=>t2 p (hk0 p h)) pb' (pi.snoc hm) (by rw[List.length_append];show 13<=ps.length+1+n;lia) (Nat.le_of_succ_le hn13) λv τ2 hr=> ?_))
    obtain⟨B,k1,k2,k3,k4⟩:=hr
    cases es2:sdF es wi n (ps++[(w,mk)]) with
    |inl rr=>
     obtain⟨r,ys⟩:=rr
     rw[es2] at k4
     obtain⟨a,b,us,B0,B1,ws,rfl,rfl,ka,kw,kb,ku⟩:=Tr.pickI k4
     clear hQB ih
     have hul:us.length<=100:=by
      rw[ku.len];exact Nat.le_trans (sd_len es2) (Nat.le_trans (Nat.le_of_succ_le hn13) (by decide))
     refine Leaf.mk (y1D (.lst _) (.refL kb.choose_spec) (z0x (Nat.le_trans (Nat.add_le_add_left hul 1) (by decide))) λna ona hfn=> ?_)
     refine hQR _ _ _ (q _ _ ?_)
     rw[hsd (X:= .inl (r,.lst (as.map aV)::ys)) (by rw[hlp];show((onF (sdF es wi n) ps w ss mk).elim _ _:(List (Str×Int)×List V) ⊕ List (Int×V)).elim _ _=_;rw[eon,es2];rfl)]
     exact Res.found (λp h=>t2 p (hk0 p h)) t1 t3 t4 (λc hc=>⟨(t5 c hc).1,λp hp=>(t5 c hc).2 p (hk0 p hp)⟩) (λp hp=>hfs p (hk0 p hp)) k1 k2 k3 ka kw kb ku hfn
    |inr Z=>
     rw[es2] at k4
     obtain⟨X,rfl,kT⟩:=Tr.noneI k4
     have k1a:At τ2 ag (.list vs):=by obtain⟨o,h⟩:=t1;exact⟨o,k1 _ h⟩
     refine Leaf.mk ⟨tyL k1a,?_⟩
     refine Leaf.mk (z7e k1a hal λτ3 U=> ?_)
     refine hQB _ _ trivial (.mk (as:=as++[(mk,Z)]) (by rw[List.length_append];exact Nat.succ_le_succ hasl) (hlp.trans ?_) (StQ.add t1 t2 t3 t4 t5 hfs k1 k2 k3 kT U))
     show(onF (sdF es wi n) ps w ss mk).elim _ _=_
     rw[eon,es2];rfl
  ·clear ih
   refine hI.casesOn @λas τ' v3 v10 v11 hasl hlp T=> ?_
   have hle:((z1g ((es w).map (·.1))).map V.int).reverse.length=(z07 es w).length:=by unfold z07;rw[List.length_reverse,List.length_map,List.length_reverse]
   rw[hle] at hasl hlp
   rw[List.drop_length] at hlp
   rw[hsz] at hasl
   refine T.casesOn @λA vs t1 t2 t3 t4 t5=> ?_
   obtain⟨B,hBs,hT,hv⟩:=TrL.filt (gs:=lfF es w (ss.map (·.2))) t3
   have hvl:vs.length<=sizeLine:=by rw[t3.len];exact z0A (n:=8) (Nat.le_trans hasl hml) (by decide)
   obtain⟨oa,hat⟩:=t1
   refine Leaf.mk ?_
   show AT C env ["shop","wish","pairs","reason","picked","waiting","ware","sources","good","against","make","found"] _ true _ (eval _ env) [some (.ref i),some x,some (.lst (ps.map prV)),v3,some (.ref pa0),some (.lst (V.str w::wt.map V.str)),some (.str w),some (.ref sa),some (.lst ((lfF es w (ss.map (·.2))).map V.int)),some (.ref ag),v10,v11] _ _
   refine y2R (z9h "pair" ["good"] [] (by rw[hsc];kernel_rfl) GL_nil (.cons LkC.lk .nil) (z0J ?_))
   with_reducible refine z0k ?_
   refine⟨_,_,.refL hat,hvl,λenv' he=>z0X (f:=id) (t:=fsB (lfF es w (ss.map (·.2)))) (z0m he (by decide+kernel)) hat _ _ _ (λX hX K hK=> ?_) (λX hX _ K hK=> ?_) ?_⟩
   ·obtain⟨mk,Z,rfl⟩:=hv X hX
    clear q
    repeat' with_reducible first|refine z0k ?_|refine z0O ?_|refine z0W ?_|refine z1x ?_|fail
    refine z2w (by with_unfolding_all decide) (by with_unfolding_all decide) (by with_unfolding_all exact rfl) ?_
    repeat' first|(with_reducible refine z0k ?_)|fail
    refine y3v (.lst _) ?_
    exact z0j hK
   ·with_reducible refine z0k ?_
    exact hK
   rw[List.nil_append,List.map_id]
   intro nb onb hnd
   refine q _ _ ?_
   rw[hsd (X:= .inr (.tup [.str w,.lst (ssV ss),.lst ((gdF w es ss as).map aV)])) (by rw[hlp];rfl)]
   exact Res.reason (λp h=>t2 p (hk0 p h)) ⟨_,t2 _ hsm⟩ hfsa t4 (λc hc=>⟨λe=>(t5 c hc).2 _ hsm e.symm,λp hp=>(t5 c hc).2 p (hk0 p hp)⟩) hBs hT (z60 hnd)
end
end
section
section
variable {C:Cx} [HM C] [NF C] {d:Nat} {σ:Sto} {Q:V->Sto->Prop} {i k:Addr} {kv:List (Str×Addr)} {es:Str->List (Int×List z0c)} {wi:List z0c}
noncomputable def t_settle:TC:=⟨[.loc 1,.call (.ref 142) 1,.pop,.loc 0,.loc 1,.lst 0,.call (.ref 199) 3,.asg2 2 3,.loc 2,.psh .none,.tcmpc .Is,.ife [.psh (.str "none"),.loc 3,.tup 2,.ret] [],.psh (.str "pick"),.loc 2,.subT 0,.loc 2,.subT 1,.tup 3,.ret],[],[]⟩
--t_settle 0
noncomputable def stV:SR->V:=Sum.elim (λx=> .tup [.str "pick",.lst (x.1.map prV),.lst x.2]) λZ=> .tup [.str "none",Z]
noncomputable def stF(es:Str->List (Int×List z0c))(wi:List z0c):V:=stV (sdF es wi 13 [])
theorem PkB.nil:PkB []:=⟨List.nodup_nil,by decide,λ_ h=>nomatch h⟩
theorem z7a(H:G1 C)(g:Gd es wi)(S:Shp σ i k kv es){x:V}{Px:Sto->Prop}(hx:Has σ x (.list (wi.map z0g)) Px)(q:∀v σ',Res σ (stF es wi) v σ'->Q v σ'):CW C (d+21) (.ref 206) [.ref i,x] σ Q:=by
 refine z0D (G1.kin (by assumption)) ["shop","wish","found","reason"] [("need_wish",.ref 142),("settled",.ref 199)] (by kernel_rfl) (vs2 λ_ _=>by kernel_rfl) rfl (z0a (z7f (by assumption)) (z0a (z5o (by assumption)) GL_nil)) ?_
 intro env hsc
 clear hsc
 refine z0e (z0o H) (z0n H) t_settle rfl (by kernel_rfl) ?_
 intro F m0
 refine Leaf.mk (fnc (z61 H hx g.ok ?_))
 refine Leaf.mk (fnc (z9j (d:=d) H g 13 (ps:=[]) S hx PkB.nil (λ_ h=>nomatch h) (by decide) (by decide) λv σ' hr=> ?_))
 obtain⟨A,k1,k2,k3,k4⟩:=hr
 unfold stF at q
 cases e:sdF es wi 13 [] with
 |inl rr=>
  obtain⟨r,ys⟩:=rr
  rw[e] at k4 q
  obtain⟨a,b,us,B0,B1,ws,rfl,rfl,ka,kw,kb,ku⟩:=Tr.pickI k4
  exact q _ _ (.mk _ k1 k2 k3 (.tup (.cons (A:=[]) (.str _) (.cons (.ref ka kw) (.one (.ref kb ku))))))
 |inr Z=>
  rw[e] at k4 q
  obtain⟨X,rfl,kT⟩:=Tr.noneI k4
  exact q _ _ (.mk A k1 k2 k3 (.tup (.cons (A:=[]) (.str _) (.one kT))))
theorem z10(H:G1 C)(g:Gd es wi)(S:Shp σ i k kv es){x:V}{Px:Sto->Prop}(hx:Has σ x (.list (wi.map z0g)) Px)(q:Q (stF es wi) σ):CW C (d+21) (.ref 206) [.ref i,x] σ Q:=y2Z q (z7a H g S hx λ_ _ h=>h)
end
end
section
section
variable {es:Str->List (Int×List z0c)} {wi:List z0c} {ps r:List (Str×Int)} {R:List Str} {w:Str} {mk:Int}
noncomputable abbrev Ag(es:Str->List (Int×List z0c))(wi:List z0c)(pk:List (Str×Int))(R:List Str):Prop:=∃N,Bf (nx es pk) N [] (wi.map (·.1)) R
theorem y2N(pk:List (Str×Int))(w:Str):nx es pk w=match pI pk w with
  |none=>[]
  |some m=>match(es w).find? (λe=>decide (e.1=m)) with
   |none=>[]
   |some e=>e.2.map (·.1):=by
 unfold nx pI
 cases pk.find? (λp=>decide (p.1=w))<;>rfl
theorem y2j{pk1 pk2:List (Str×Int)}{w:Str}(h:pI pk1 w=pI pk2 w):nx es pk1 w=nx es pk2 w:=by rw[y2N,y2N,h]
theorem z9T{pk1 pk2:List (Str×Int)}{R1 R2:List Str}{m:Nat}(h1:Ag es wi pk1 R1)(h2:Ag es wi pk2 R2)(ha:∀x∈R1.take m,pI pk1 x=pI pk2 x):R1.take (m+1)=R2.take (m+1):=by
 obtain⟨_,h1⟩:=h1
 obtain⟨_,h2⟩:=h2
 exact h1.agree h2 λx hx=>y2j (ha x hx)
structure Pa(es:Str->List (Int×List z0c))(wi:List z0c)(ps:List (Str×Int))(R:List Str):Prop where
 ag:Ag es wi ps R
 keys:ps.map (·.1)=R.take ps.length
 pb:PkB ps
 pi:PkIn es ps
 s1:∀n∈wi,∀m,pI ps n.1=some m->n.2.1<=m/\m<=n.2.2
 s2:∀p∈ps,∀n∈z0y es p,∀m,pI ps n.1=some m->n.2.1<=m/\m<=n.2.2
theorem z9S(ps:List (Str×Int))(w:Str)(mk:Int)(x:Str):pI (ps++[(w,mk)]) x=(pI ps x).or (if w=x then some mk else none):=by
 unfold pI
 rw[List.find?_append]
 cases ps.find? (λp=>decide (p.1=x)) with
 |some p=>rfl
 |none=>
  by_cases e:w=x
  ·rw[if_pos e,List.find?_cons_of_pos (by simpa using e)];rfl
  ·rw[if_neg e,List.find?_cons_of_neg (by simpa using e)];rfl
theorem z8B{pk:List (Str×Int)}{n:z0c}{m:Int}(hn:(pk.map (·.1)).Nodup)(h:(n.1,m)∈pk):z2o pk n=(decide (n.2.1<=m)&&decide (m<=n.2.2)):=
 z8T (w:=n.1) (lo:=n.2.1) (hi:=n.2.2) (z0B (by rw[z0L];exact hn) (List.mem_map.mpr ⟨_,h,rfl⟩))
theorem Pa.meets(pa:Pa es wi ps R)(hE:∀w,((es w).map (·.1)).Nodup)(hR:R.length<=ps.length):ps.map (·.1)=R/\z5U es wi ps R=true:=by
 obtain⟨N,hB⟩:=pa.ag
 have hk:ps.map (·.1)=R:=by rw[pa.keys,List.take_of_length_le hR]
 obtain⟨_,c2,c3⟩:=hB.closed
 have key:∀x∈R,∃m,(x,m)∈ps/\pI ps x=some m:=λx hx=>z4H pa.pb.nd (by rw[hk];exact hx)
 refine⟨hk,?_⟩
 unfold z5U
 refine Bool.and_eq_true_iff.mpr ⟨decide_eq_true (by rw[hk]),Bool.and_eq_true_iff.mpr ⟨List.all_eq_true.mpr λn hn=> ?_,List.all_eq_true.mpr λp hp=>List.all_eq_true.mpr λn hn=> ?_⟩⟩
 ·obtain⟨m,h1,h2⟩:=key n.1 (c2 _ (List.mem_map.mpr ⟨n,hn,rfl⟩))
  obtain⟨b1,b2⟩:=pa.s1 n hn m h2
  rw[z8B pa.pb.nd h1,decide_eq_true b1,decide_eq_true b2];rfl
 ·obtain⟨w,mk⟩:=p
  obtain⟨ns,hns⟩:=pa.pi _ hp
  have hn':=hn
  rw[z04 (hE w) hns] at hn'
  have hnx:nx es ps w=ns.map (·.1):=by
   rcases z8s pa.pb pa.pi w (hE w) with⟨h,_⟩|⟨mk',ns',h1,_,h3,h4⟩
   ·exact absurd (List.mem_map.mpr ⟨_,hp,rfl⟩) h
   ·have e:=z06 pa.pb.nd h1 hp rfl
    cases e
    have e2:=z06 (hE w) h3 hns rfl
    cases e2
    exact h4
  obtain⟨m,h1,h2⟩:=key n.1 (c3 w (by rw[<-hk];exact List.mem_map.mpr ⟨_,hp,rfl⟩) (λh=>by cases h) _ (by rw[hnx];exact List.mem_map.mpr ⟨n,hn',rfl⟩))
  obtain⟨b1,b2⟩:=pa.s2 _ hp n hn m h2
  rw[z8B pa.pb.nd h1,decide_eq_true b1,decide_eq_true b2];rfl
theorem Pa.fresh(pa:Pa es wi ps R)(hw:R[ps.length]? =some w):w∉ps.map (·.1):=λh=>by
 obtain⟨N,hB⟩:=pa.ag
 have hn:=hB.nodup List.nodup_nil
 rw[pa.keys] at h
 obtain⟨hlt,e⟩:=List.getElem?_eq_some_iff.mp hw
 exact z3u hn hlt (e▸h)
theorem Pa.step{R':List Str}{ns:List z0c}(pa:Pa es wi ps R)(hE:∀w,((es w).map (·.1)).Nodup)(hw:R[ps.length]? =some w)(hm:(mk,ns)∈es w)(pb:PkB (ps++[(w,mk)]))(hin:∀n∈wi++ps.flatMap (z0y es),n.1=w->n.2.1<=mk/\mk<=n.2.2)
  (hcl:∀n∈ns,∀m,(n.1,m)∈ps++[(w,mk)]->n.2.1<=m/\m<=n.2.2) (hag:Ag es wi (ps++[(w,mk)]) R'):Pa es wi (ps++[(w,mk)]) R':=by
 have hf:=pa.fresh hw
 have pne:∀x m,pI (ps++[(w,mk)]) x=some m->(x=w/\m=mk)∨pI ps x=some m:=λx m h=>by
  rw[z9S] at h
  by_cases e:w=x
  ·subst e
   rw[z6a hf,if_pos rfl] at h
   exact .inl ⟨rfl,(Option.some.inj h).symm⟩
  ·rw[if_neg e,Option.or_none] at h;exact .inr h
 refine⟨hag,?_,pb,λp hp=> ?_,λn hn m h=> ?_,λp hp n hn m h=> ?_⟩
 ·have ht:=z9T pa.ag hag (m:=ps.length) λx hx=>by
   rw[<-pa.keys] at hx
   obtain⟨m,_,e⟩:=z4H pa.pb.nd hx
   rw[z9S,e];rfl
  rw[List.length_append,show ps.length+[(w,mk)].length=ps.length+1 from rfl,<-ht,List.take_add_one,hw,List.map_append,pa.keys];rfl
 ·rcases List.mem_append.mp hp with h|h
  ·exact pa.pi p h
  ·rw[List.mem_singleton.mp h];exact⟨ns,hm⟩
 ·rcases pne _ _ h with⟨e,rfl⟩|h
  ·exact hin n (List.mem_append_left _ hn) e
  ·exact pa.s1 n hn m h
 ·rcases List.mem_append.mp hp with hp2|hp2
  ·rcases pne _ _ h with⟨e,em⟩|h
   ·rw[em];exact hin n (List.mem_append_right _ (List.mem_flatMap.mpr ⟨p,hp2,hn⟩)) e
   ·exact pa.s2 p hp2 n hn m h
  ·rw[List.mem_singleton.mp hp2,z04 (hE w) hm] at hn
   exact hcl n hn m (y0O h)
theorem y2m(g:Gd es wi)(pb:PkB ps)(pi:PkIn es ps){N:Nat}{R:List Str}(hB:Bf (nx es ps) N [] (wi.map (·.1)) R):∀x∈R,∃n∈wi++ps.flatMap (z0y es),n.1=x:=by
 refine hB.all (P:=λx=>∃n∈wi++ps.flatMap (z0y es),n.1=x) (λx y hy=> ?_) (λx hx=>by cases hx) λx hx=> ?_
 ·rcases z8s pb pi x (g.nd x) with⟨_,_,e⟩|⟨mk,ns,h1,_,h2,e⟩
  ·rw[e] at hy;cases hy
  ·rw[e] at hy
   apply z0l hy;intro n hn
   exact⟨n,List.mem_append_right _ (List.mem_flatMap.mpr ⟨_,h1,by rw[z04 (g.nd x) h2];exact hn⟩),rfl⟩
 ·apply z0l hx;intro n hn
  exact⟨n,List.mem_append_left _ hn,rfl⟩
inductive Ho(es:Str->List (Int×List z0c))(wi:List z0c):Nat->List (Str×Int)->V->Prop
 |mk {f:Nat} {ps:List (Str×Int)} {w:Str} {ss:List (Src×Int×Int)} {as:List (Int×V)}:Ware w->(∀p∈ps,Ware p.1)->ss≠[]->ss.length<=100->(∀s∈ss,SrcOk es wi ps w s.1 s.2.1 s.2.2)->as.map (·.1)=lfF es w (ss.map (·.2))->(as≠[]->w∉ps.map (·.1))->(∀p∈as,Ho es wi f (ps++[(w,p.1)]) p.2)->Ho es wi (f+1) ps (.tup [.str w,.lst (ssV ss),.lst (as.map aV)])
theorem Ho.up{f:Nat}{Z:V}(h:Ho es wi f ps Z):∀{g:Nat},f<=g->Ho es wi g ps Z:=by
 induction h with
 |mk a b c e f g k _ ih=>
  intro m hm
  obtain⟨m,rfl⟩:=Nat.exists_eq_add_of_le hm
  rw[Nat.add_right_comm]
  exact .mk a b c e f g k λp hp=>ih p hp (Nat.le_add_right _ _)
theorem y2U{lo hi:Int}(h:(decide (lo<=mk)&&decide (mk<=hi))=false):lfF es w [(mk,mk),(lo,hi)]=[]:=by
 unfold lfF
 refine List.filter_eq_nil_iff.mpr λm _ hm=> ?_
 have hm:((decide (mk<=m)&&decide (m<=mk))&&((decide (lo<=m)&&decide (m<=hi))&&true))=true:=hm
 obtain⟨h1,h2⟩:=Bool.and_eq_true_iff.mp hm
 obtain⟨h3,h4⟩:=Bool.and_eq_true_iff.mp h1
 obtain rfl:mk=m:=Int.le_antisymm (of_decide_eq_true h3) (of_decide_eq_true h4)
 rw[h] at h2;cases h2
theorem Ho.two{f:Nat}{s:Src}{lo hi:Int}(hw:Ware w)(hp:∀p∈ps,Ware p.1)(h1:(w,mk)∈ps)(h2:SrcOk es wi ps w s lo hi)(h:(decide (lo<=mk)&&decide (mk<=hi))=false):Ho es wi (f+1) ps (rs2 w (.pick w mk) s):=
 .mk (ss:=[(.pick w mk,mk,mk),(s,lo,hi)]) (as:=[]) hw hp (λe=>nomatch e) (Nat.le_of_ble_eq_true rfl) (List.forall_mem_cons.mpr ⟨.pick h1,List.forall_mem_cons.mpr ⟨h2,λ_ h=>nomatch h⟩⟩) (y2U h).symm (λe=>absurd rfl e) λ_ h=>nomatch h
theorem y39{f:Nat}{Z:V}(pb:PkB ps)(pi:PkIn es ps)(en:∀w,((es w).map (·.1)).Nodup)(hp:(w,mk)∈ps)(h:clF es ps w mk=some Z):Ho es wi (f+1) ps Z:=by
 obtain⟨ns,hns⟩:=pi _ hp
 unfold clF at h
 rw[show z0y es (w,mk)=ns from z04 (en w) hns] at h
 obtain⟨⟨n,k⟩,hf,rfl⟩:=Option.map_eq_some_iff.mp h
 have hc:=List.find?_some hf
 have hc:clT ps n=true:=hc
 have hk:ns[k]? =some n:=by
  have:=List.mem_of_find?_eq_some hf
  obtain⟨j,hj⟩:=List.getElem?_of_mem this
  rw[List.getElem?_zipIdx,Nat.zero_add] at hj
  obtain⟨x,hx,e⟩:=Option.map_eq_some_iff.mp hj
  cases e;exact hx
 unfold clT at hc
 cases e:pI ps n.1 with
 |none=>rw[e] at hc;cases hc
 |some m=>
  rw[e] at hc
  have hm:=y0O e
  exact Ho.two (pb.ok _ hm).1 (λp h=>(pb.ok p h).1) hm (.need (lo:=n.2.1) (hi:=n.2.2) hp hns hk) ((Bool.not_eq_true' _).mp hc)
theorem y31{f:Nat}{ss:List (Src×Int×Int)}{Z:V}(pb:PkB (ps++[(w,mk)]))(hss:∀p∈ss,SrcOk es wi ps w p.1 p.2.1 p.2.2)(h:osF w mk ss=some Z):Ho es wi (f+1) (ps++[(w,mk)]) Z:=by
 unfold osF at h
 obtain⟨p,hf,rfl⟩:=Option.map_eq_some_iff.mp h
 have hm:(w,mk)∈ps++[(w,mk)]:=List.mem_append_right _ (.head _)
 exact Ho.two (pb.ok _ hm).1 (λp h=>(pb.ok p h).1) hm ((hss p (List.mem_of_find?_eq_some hf)).mono λq h=>List.mem_append_left _ h) (by have hc:=List.find?_some hf;exact(Bool.not_eq_true' _).mp hc)
inductive Pe(es:Str->List (Int×List z0c))(wi:List z0c):List (Str×Int)->Prop
 |nil:Pe es wi []
 |snoc {ps:List (Str×Int)} {R:List Str} {w:Str} {mk:Int} {ns:List z0c}:Pa es wi ps R->R[ps.length]? =some w->(mk,ns)∈es w->(∀n∈wi++ps.flatMap (z0y es),n.1=w->n.2.1<=mk/\mk<=n.2.2)->Pe es wi (ps++[(w,mk)])
theorem Pe.pb(g:Gd es wi)(h:Pe es wi ps):PkB ps/\PkIn es ps:=by
 cases h with
 |nil=>exact⟨⟨List.nodup_nil,by decide,λ_ h=>nomatch h⟩,λ_ h=>nomatch h⟩
 |snoc pa hw hm _=>exact⟨PkB.snoc g pa.pb pa.pi (pa.fresh hw) hm,pa.pi.snoc hm⟩
theorem Pe.pa(g:Gd es wi)(h:Pe es wi ps)(hcl:cl0 es ps=none):Pa es wi ps (agF es wi ps):=by
 obtain⟨pb,pi⟩:=h.pb g
 obtain⟨N,_,hB,_⟩:=z7T g pb pi
 cases h with
 |nil=>exact⟨⟨N,hB⟩,rfl,pb,pi,(λn _ m h=>nomatch h),λp h=>nomatch h⟩
 | @snoc ps R w mk ns pa hw hm hin=>
  refine pa.step g.nd hw hm pb hin (λn hn m h=> ?_) ⟨N,hB⟩
  have e:clF es (ps++[(w,mk)]) w mk=none:=by unfold cl0 at hcl;rw[List.getLast?_concat] at hcl;exact hcl
  unfold clF at e
  rw[show z0y es (w,mk)=ns from z04 (g.nd w) hm] at e
  obtain⟨k,hk⟩:=List.getElem?_of_mem hn
  have hz:(n,k)∈ns.zipIdx:=List.mem_of_getElem? (i:=k) (by rw[List.getElem?_zipIdx,hk,Nat.zero_add];rfl)
  have hc:=List.find?_eq_none.mp (Option.map_eq_none_iff.mp e) _ hz
  unfold clT at hc
  rw[show pI (ps++[(w,mk)]) n.1=some m from y0c pb.nd h] at hc
  have hc:=z93 (eq_false_of_ne_true hc)
  obtain⟨h1,h2⟩:=Bool.and_eq_true_iff.mp hc
  exact⟨of_decide_eq_true h1,of_decide_eq_true h2⟩
inductive Ags(es:Str->List (Int×List z0c))(wi:List z0c):List (Str×Int)->List (Str×Int)->List V->Prop
 |nil {ps:List (Str×Int)}:Ags es wi ps [] []
 |cons {ps:List (Str×Int)} {w:Str} {mk:Int} {as:List (Int×V)} {r:List (Str×Int)} {ys:List V}:as.map (·.1)=(z07 es w).filter (λm=>decide (mk<m))->w∉ps.map (·.1)->(∀p∈as,Ho es wi 13 (ps++[(w,p.1)]) p.2)->Ags es wi (ps++[(w,mk)]) r ys->Ags es wi ps ((w,mk)::r) (.lst (as.map aV)::ys)
inductive Out(es:Str->List (Int×List z0c))(wi:List z0c)(n:Nat)(ps:List (Str×Int)):SR->Prop
 |reason {Z:V}:Ho es wi n ps Z->Out es wi n ps (.inr Z)
 |found {r:List (Str×Int)} {ys:List V} {R:List Str}:Pa es wi (ps++r) R->R.length<=(ps++r).length->Ags es wi ps r ys->Out es wi n ps (.inl (ps++r,ys))
theorem y3R(en:((es w).map (·.1)).Nodup):(z07 es w).Pairwise (λa b=>b<a):=by
 unfold z07
 rw[List.pairwise_reverse]
 have h1:=z7o ((es w).map (·.1))
 have h2:(z1g ((es w).map (·.1))).Nodup:=(z01 _).nodup_iff.mpr en
 exact(List.Pairwise.and h1 (List.nodup_iff_pairwise_ne.mp h2)).imp λ⟨h,k⟩=>Int.lt_iff_le_and_ne.mpr ⟨h,k⟩
theorem y3k{pre l:List Int}(en:((es w).map (·.1)).Nodup)(e:z07 es w=pre++mk::l):pre=(z07 es w).filter λm=>decide (mk<m):=by
 have h:=y3R en
 rw[e] at h⊢
 obtain⟨_,h2,h3⟩:=List.pairwise_append.mp h
 rw[List.filter_append,List.filter_eq_self.mpr λa ha=>decide_eq_true (h3 a ha mk (.head _)),List.filter_eq_nil_iff.mpr λa ha hd=> ?_,List.append_nil]
 have hd:=of_decide_eq_true hd
 rcases List.mem_cons.mp ha with rfl|ha
 ·exact Int.lt_irrefl _ hd
 ·exact Int.lt_asymm hd ((List.pairwise_cons.mp h2).1 a ha)
theorem y1K(pa:Pa es wi ps (agF es wi ps)):(wtF es wi ps).head? =(agF es wi ps)[ps.length]? :=by
 have hk:=pa.keys
 obtain⟨N,hB⟩:=pa.ag
 have hn:=hB.nodup List.nodup_nil
 unfold wtF
 generalize agF es wi ps=R at hk hn
 have e:R.filter (λx=> !(vAt (pkV ps) x).isSome)=(R.drop ps.length).filter (λx=> !(vAt (pkV ps) x).isSome):=by
  rw[<-List.take_append_drop ps.length R,List.filter_append,List.filter_eq_nil_iff.mpr λx hx hb=> ?_]
  ·rw[List.nil_append,List.take_append_drop]
  ·rw[<-hk] at hx
   obtain⟨m,_,e⟩:=z4H pa.pb.nd hx
   rw[z26,e] at hb;cases hb
 rw[e,<-List.head?_drop]
 cases hd:R.drop ps.length with
 |nil=>rfl
 |cons y l=>
  have hy:y∉ps.map (·.1):=λh=>by
   rw[hk] at h
   rw[<-List.take_append_drop ps.length R,hd] at hn
   exact(List.nodup_append.mp hn).2.2 y h y (.head _) rfl
  rw[List.filter_cons_of_pos (by rw[z26,z6a hy];rfl)];rfl
theorem y2r(g:Gd es wi){n:Nat}(pa:Pa es wi ps R)(hw:R[ps.length]? =some w)(hn13:n+1<=13)(hn:13<=ps.length+(n+1))(ih:∀ps,Pe es wi ps->n<=13->13<=ps.length+n->Out es wi n ps (sdF es wi n ps)):
  ∀(l:List Int) (as:List (Int×V)),z07 es w=as.map (·.1)++l->(∀p∈as,Ho es wi n (ps++[(w,p.1)]) p.2)->
   (∃r ys R',lpF (onF (sdF es wi n) ps w (ssF es wi ps w)) l as= .inl (ps++r,ys)/\Pa es wi (ps++r) R'/\R'.length<=(ps++r).length/\Ags es wi ps r ys)∨∃bs,lpF (onF (sdF es wi n) ps w (ssF es wi ps w)) l as= .inr bs/\z07 es w=bs.map (·.1)/\∀p∈bs,Ho es wi n (ps++[(w,p.1)]) p.2
 |[],as,e,ha=> .inr ⟨as,rfl,by rw[List.append_nil] at e;exact e,ha⟩
 |mk::l,as,e,ha=>by
  have hmem:mk∈z07 es w:=by rw[e];exact List.mem_append_right _ (.head _)
  obtain⟨ns,hm⟩:=z3C hmem
  have hf:=pa.fresh hw
  have pb':=PkB.snoc g pa.pb pa.pi hf hm
  have hl12:=g.l12 _ pb'.nd (pa.pi.snoc hm)
  rw[List.length_append] at hl12
  have hl12:ps.length+1<=12:=hl12
  obtain⟨n',rfl⟩:∃n',n=n'+1:=⟨n-1,by lia⟩
  have hss:=z7R (wi:=wi) (w:=w) pa.pi g.nd
  have next:∀Z,onF (sdF es wi (n'+1)) ps w (ssF es wi ps w) mk= .inr Z->Ho es wi (n'+1) (ps++[(w,mk)]) Z->_:=λZ eZ hZ=>y2r g pa hw hn13 hn ih l (as++[(mk,Z)]) (by rw[List.map_append,List.append_assoc];exact e) λp hp=>by
   rcases List.mem_append.mp hp with h|h
   ·exact ha p h
   ·rw[List.mem_singleton.mp h];exact hZ
  have hlp:∀Z,onF (sdF es wi (n'+1)) ps w (ssF es wi ps w) mk= .inr Z->lpF (onF (sdF es wi (n'+1)) ps w (ssF es wi ps w)) (mk::l) as=lpF (onF (sdF es wi (n'+1)) ps w (ssF es wi ps w)) l (as++[(mk,Z)]):=λZ eZ=>by
   show(onF (sdF es wi (n'+1)) ps w (ssF es wi ps w) mk).elim _ _=_
   rw[eZ];rfl
  cases eo:osF w mk (ssF es wi ps w) with
  |some Z=>
   have eZ:onF (sdF es wi (n'+1)) ps w (ssF es wi ps w) mk= .inr Z:=by unfold onF;rw[eo];rfl
   rw[hlp Z eZ]
   exact next Z eZ (y31 pb' hss eo)
  |none=>
   have e1:onF (sdF es wi (n'+1)) ps w (ssF es wi ps w) mk=sdF es wi (n'+1) (ps++[(w,mk)]):=by unfold onF;rw[eo];rfl
   have hpe:Pe es wi (ps++[(w,mk)]):= .snoc pa hw hm λnd hnd en=>by
    obtain⟨p,hp,e⟩:=z8p hnd en
    unfold osF at eo
    have hc:=List.find?_eq_none.mp (Option.map_eq_none_iff.mp eo) p hp
    rw[e] at hc
    obtain⟨h1,h2⟩:=Bool.and_eq_true_iff.mp (z93 (eq_false_of_ne_true hc))
    exact⟨of_decide_eq_true h1,of_decide_eq_true h2⟩
   have ho:=ih _ hpe (Nat.le_of_succ_le hn13) (by rw[List.length_append];show 13<=ps.length+1+(n'+1);lia)
   generalize hX:sdF es wi (n'+1) (ps++[(w,mk)])=X at ho e1
   cases ho with
   | @reason Z hZ=>
    rw[hlp Z e1]
    exact next Z e1 hZ
   | @found r ys R' pa' hR' ha'=>
    refine .inl ⟨(w,mk)::r,.lst (as.map aV)::ys,R',?_,?_,?_,.cons (y3k (g.nd w) e) hf (λp hp=>(ha p hp).up (Nat.le_of_succ_le hn13)) ha'⟩
    ·show(onF (sdF es wi (n'+1)) ps w (ssF es wi ps w) mk).elim _ _=_
     rw[e1,List.append_assoc];rfl
    ·rw[List.append_assoc] at pa';exact pa'
    ·rw[List.append_assoc] at hR';exact hR'
theorem y2t(g:Gd es wi):∀(n:Nat) (ps:List (Str×Int)),Pe es wi ps->n<=13->13<=ps.length+n->Out es wi n ps (sdF es wi n ps)
 |0,ps,h,_,hn=>absurd (g.l12 ps (h.pb g).1.nd (h.pb g).2) (Nat.not_le_of_lt hn)
 |n+1,ps,h,hn13,hn=>by
  obtain⟨pb,pi⟩:=h.pb g
  unfold sdF
  cases e1:cl0 es ps with
  |some Z=>
   refine .reason ?_
   unfold cl0 at e1
   cases e2:ps.getLast? with
   |none=>rw[e2] at e1;cases e1
   |some p=>
    rw[e2] at e1
    exact y39 pb pi g.nd (List.mem_of_getLast? e2) e1
  |none=>
   have pa:=h.pa g e1
   have hwt:=y1K pa
   rw[Option.elim]
   rw[hwt]
   cases e2:(agF es wi ps)[ps.length]? with
   |none=>
    have hR:(agF es wi ps).length<=ps.length:=List.getElem?_eq_none_iff.mp e2
    have:=Out.found (n:=n+1) (r:=[]) (ys:=[]) (R:=agF es wi ps) (by rw[List.append_nil];exact pa) (by rw[List.append_nil];exact hR) .nil
    rw[List.append_nil] at this
    exact this
   |some w=>
    rw[Option.elim]
    obtain⟨N,hN,hB,hRw,hRl⟩:=z7T g pb pi
    have hwR:w∈agF es wi ps:=List.mem_of_getElem? e2
    rcases y2r g pa e2 hn13 hn (y2t g n) (z07 es w) [] rfl λ_ h=>nomatch h with⟨r,ys,R',e3,pa',hR',ha'⟩|⟨bs,e3,hb,hbs⟩
    ·rw[e3];exact .found pa' hR' ha'
    ·rw[e3]
     refine .reason (.mk (hRw w hwR) (λp hp=>(pb.ok p hp).1) (λe=> ?_) ?_ (z7R pi g.nd) ?_ (λ_=>pa.fresh e2) λp hp=>hbs p (List.mem_filter.mp hp).1)
     ·obtain⟨nd,h1,h2⟩:=y2m g pb pi hB w hwR
      obtain⟨p,hp,_⟩:=z8p h1 h2
      rw[e] at hp;cases hp
     ·have h1:=z7U (w:=w) (l:=ps) λp hp=>by
       obtain⟨ns,hns⟩:=pi p hp
       rw[show z0y es p=ns from z04 (g.nd p.1) hns];exact g.l6 _ _ hns
      have h2:=z3H (w:=w) .wish wi wi.length
      have h3:=pb.len
      have h4:=g.ok.len
      unfold ssF;rw[List.length_append];lia
     ·unfold gdF
      rw[show(bs.filter λp=>(lfF es w ((ssF es wi ps w).map (·.2))).any (·==p.1)).map (·.1)=(bs.map (·.1)).filter λm=>(lfF es w ((ssF es wi ps w).map (·.2))).any (·==m) by rw[List.filter_map];rfl,<-hb]
      unfold lfF
      refine List.filter_congr λm hm=> ?_
      cases e:z2y ((ssF es wi ps w).map (·.2)) m with
      |true=>exact List.any_eq_true.mpr ⟨m,List.mem_filter.mpr ⟨hm,e⟩,beq_self_eq_true m⟩
      |false=>
       refine List.any_eq_false.mpr λx hx hb=> ?_
       have:=(List.mem_filter.mp hx).2
       rw[eq_of_beq hb,e] at this;cases this
inductive Told(es:Str->List (Int×List z0c))(wi:List z0c):V->Prop
 |none {Z:V}:Ho es wi 13 [] Z->Told es wi (.tup [.str "none",Z])
 |pick {r:List (Str×Int)} {ys:List V}:PkB r->PkIn es r->Ag es wi r (r.map (·.1))->z5U es wi r (r.map (·.1))=true->Ags es wi [] r ys->Told es wi (.tup [.str "pick",.lst (r.map prV),.lst ys])
theorem z6u(g:Gd es wi):Told es wi (stF es wi):=by
 have h:=y2t g 13 [] .nil (Nat.le_refl _) (Nat.le_refl _)
 unfold stF
 generalize sdF es wi 13 []=X at h
 cases h with
 |reason h=>exact .none h
 | @found r ys R pa hR ha=>
  have pa:Pa es wi r R:=pa
  obtain⟨hk,hm⟩:=pa.meets g.nd hR
  subst hk
  exact .pick pa.pb pa.pi pa.ag hm ha
end
end
section
section
variable {es:Str->List (Int×List z0c)} {wi:List z0c} {ps r:List (Str×Int)} {σ:Sto} {w:Str} {mk:Int} {n:Nat}
theorem Dn.tupS{ys:List V}(hl:ys.length<=200)(h:∀y∈ys,Dn σ n y y):Dn σ (n+1) (.tup ys) (.tup ys):= .tup rfl hl λj X Y h1 h2=>by rw[h1] at h2;cases h2;exact h X (List.mem_of_getElem? h1)
theorem Dn.lstS{ys:List V}(hl:ys.length<=200)(h:∀y∈ys,Dn σ n y y):Dn σ (n+1) (.lst ys) (.lst ys):= .lst rfl hl λj X Y h1 h2=>by rw[h1] at h2;cases h2;exact h X (List.mem_of_getElem? h1)
theorem SrcOk.dn{s:Src}{lo hi:Int}(hw:Ware w)(hp:∀p∈ps,Ware p.1)(h:SrcOk es wi ps w s lo hi):Dn σ (n+1) (srcV s) (srcV s):=by
 cases h with
 |wish _=>exact .tupS (Nat.le_of_ble_eq_true rfl) (List.forall_mem_cons.mpr ⟨.str _ (z3K (by decide+kernel)),List.forall_mem_cons.mpr ⟨.int _,λ_ h=>nomatch h⟩⟩)
 |need h _ _=>exact .tupS (Nat.le_of_ble_eq_true rfl) (List.forall_mem_cons.mpr ⟨.str _ (z3K (by decide+kernel)),List.forall_mem_cons.mpr ⟨.str _ (hp _ h).asc,List.forall_mem_cons.mpr ⟨.int _,List.forall_mem_cons.mpr ⟨.int _,λ_ h=>absurd h List.not_mem_nil⟩⟩⟩⟩)
 |pick h=>exact .tupS (Nat.le_of_ble_eq_true rfl) (List.forall_mem_cons.mpr ⟨.str _ (z3K (by decide+kernel)),List.forall_mem_cons.mpr ⟨.str _ hw.asc,List.forall_mem_cons.mpr ⟨.int _,λ_ h=>nomatch h⟩⟩⟩)
theorem y2A{as:List (Int×V)}(hl:as.length<=8)(h:∀p∈as,Dn σ n p.2 p.2):Dn σ (n+1+1) (.lst (as.map aV)) (.lst (as.map aV)):= .lstS (by rw[List.length_map];exact Nat.le_trans hl (by decide)) λy hy=>by
 apply z0l hy;intro p hp
 exact .tupS (Nat.le_of_ble_eq_true rfl) (List.forall_mem_cons.mpr ⟨.int _,List.forall_mem_cons.mpr ⟨h p hp,λ_ h=>nomatch h⟩⟩)
theorem Ho.dn(h8:∀w,(es w).length<=8){f:Nat}{Z:V}(h:Ho es wi f ps Z):Dn σ (3*f) Z Z:=by
 induction h with
 | @mk f ps w ss as a b c e k g _ _ ih=>
  have hal:as.length<=8:=by
   have:=congrArg List.length g
   rw[List.length_map] at this
   rw[this];exact Nat.le_trans z6h (h8 w)
  exact Dn.tupS (n:=3*f+1+1) (Nat.le_of_ble_eq_true rfl) (List.forall_mem_cons.mpr ⟨.str _ a.asc,List.forall_mem_cons.mpr ⟨.lstS (by rw[List.length_map];exact Nat.le_trans e (by decide)) λy hy=>by
   apply z0l hy;intro s hs
   exact(k s hs).dn a b,List.forall_mem_cons.mpr ⟨y2A hal ih,λ_ h=>nomatch h⟩⟩⟩)
theorem y3t{p:Str×Int}(h:Ware p.1):Dn σ (n+1) (prV p) (prV p):= .tupS (Nat.le_of_ble_eq_true rfl) (List.forall_mem_cons.mpr ⟨.str _ h.asc,List.forall_mem_cons.mpr ⟨.int _,λ_ h=>nomatch h⟩⟩)
theorem Ags.dn(h8:∀w,(es w).length<=8){ys:List V}(h:Ags es wi ps r ys):ys.length=r.length/\∀y∈ys,Dn σ 41 y y:=by
 induction h with
 |nil=>exact⟨rfl,λ_ h=>nomatch h⟩
 | @cons ps w mk as r ys a _ b _ ih=>
  have hal:as.length<=8:=by
   have:=congrArg List.length a
   rw[List.length_map] at this
   rw[this];exact Nat.le_trans (List.length_filter_le _ _) (by rw[desM_len];exact h8 w)
  exact⟨congrArg (·+1) ih.1,List.forall_mem_cons.mpr ⟨y2A hal λp hp=>(b p hp).dn h8,ih.2⟩⟩
theorem Told.dn(h8:∀w,(es w).length<=8){t:V}(h:Told es wi t):Dn σ 45 t t:=by
 cases h with
 |none h=>exact .tupS (Nat.le_of_ble_eq_true rfl) (List.forall_mem_cons.mpr ⟨.str _ (z3K (by decide+kernel)),List.forall_mem_cons.mpr ⟨(h.dn h8).up (by decide),λ_ h=>nomatch h⟩⟩)
 |pick pb _ _ _ ha=>
  obtain⟨h1,h2⟩:=ha.dn (σ:=σ) h8
  exact .tupS (Nat.le_of_ble_eq_true rfl) (List.forall_mem_cons.mpr ⟨.str _ (z3K (by decide+kernel)),List.forall_mem_cons.mpr ⟨.lstS (by rw[List.length_map];exact Nat.le_trans pb.len (by decide)) λy hy=>by
   apply z0l hy;intro p hp
   exact y3t (n:=42) (pb.ok p hp).1,List.forall_mem_cons.mpr ⟨.lstS (by rw[h1];exact Nat.le_trans pb.len (by decide)) λy hy=>(h2 y hy).up (by decide),λ_ h=>nomatch h⟩⟩⟩)
noncomputable def Pr(es:Str->List (Int×List z0c))(ws ks:List Str):Nat:=ws.foldr (λu a=>if u∈ks then a else((es u).length+1)*a) 1
theorem z09(u:Str)(ws ks:List Str):Pr es (u::ws) ks=if u∈ks then Pr es ws ks else((es u).length+1)*Pr es ws ks:=rfl
theorem z6y(ks:List Str):∀ws,1<=Pr es ws ks
 |[]=>Nat.le_refl _
 |u::ws=>by
  rw[z09]
  split
  ·exact z6y ks ws
  ·exact Nat.le_trans (z6y ks ws) (Nat.le_mul_of_pos_left _ (Nat.succ_pos _))
theorem y2C(ks:List Str)(w:Str):∀ws,Pr es ws (ks++[w])<=Pr es ws ks
 |[]=>Nat.le_refl _
 |u::ws=>by
  have h:=y2C ks w ws
  rw[z09,z09]
  by_cases h1:u∈ks
  ·rw[if_pos h1,if_pos (List.mem_append_left _ h1)];exact h
  ·rw[if_neg h1]
   split
   ·exact Nat.le_trans h (Nat.le_mul_of_pos_left _ (Nat.succ_pos _))
   ·exact Nat.mul_le_mul_left _ h
theorem z8l{ks:List Str}:∀{ws:List Str},w∉ws->Pr es ws (ks++[w])=Pr es ws ks
 |[],_=>rfl
 |u::ws,h=>by
  have e:=z8l (ks:=ks) λhm=>h (.tail _ hm)
  have hu:(u∈ks++[w])=(u∈ks):=propext ⟨λhm=>(List.mem_append.mp hm).elim id λhm=>absurd (List.mem_singleton.mp hm▸ .head _) h,λhm=>List.mem_append_left _ hm⟩
  rw[z09,z09,e];simp only[hu]
theorem z6o{ks:List Str}(hk:w∉ks):∀{ws:List Str},ws.Nodup->w∈ws->Pr es ws ks=((es w).length+1)*Pr es ws (ks++[w])
 |[],_,h=>nomatch h
 |u::ws,hn,h=>by
  obtain⟨hn1,hn2⟩:=List.nodup_cons.mp hn
  rw[z09,z09]
  by_cases e:u=w
  ·subst e
   rw[if_neg hk,if_pos (List.mem_append_right _ (.head _)),z8l hn1]
  ·have hw:w∈ws:=(List.mem_cons.mp h).elim (λh=>absurd h.symm e) id
   have ih:=z6o hk hn2 hw
   by_cases h1:u∈ks
   ·rw[if_pos h1,if_pos (List.mem_append_left _ h1)];exact ih
   ·rw[if_neg h1,if_neg λhm=>(List.mem_append.mp hm).elim h1 λhm=>e (List.mem_singleton.mp hm),ih,Nat.mul_left_comm]
theorem TrL.no{ys:List V}:∀{xs:List V} {A:List Addr},(∀y∈ys,∀B u,Tr σ B u y->B=[])->TrL σ A xs ys->A=[]:=λ{xs A}=>by
 induction ys generalizing xs A with
 |nil=>intro _ h;exact h.inv.2
 |cons y ys ih=>
  intro hy h
  obtain⟨x,zs,B,D,_,rfl,h1,h2⟩:=h.inv
  rw[hy y (.head _) _ _ h1,ih (λz hz=>hy z (.tail _ hz)) h2];rfl
theorem Tr.noS{x:Str}{B:List Addr}{u:V}(h:Tr σ B u (.str x)):B=[]:=h.inv.2
theorem Tr.noI{x:Int}{B:List Addr}{u:V}(h:Tr σ B u (.int x)):B=[]:=h.inv.2
theorem Tr.noSrc{s:Src}{B:List Addr}{u:V}(h:Tr σ B u (srcV s)):B=[]:=by
 cases s with
 |wish k=>obtain⟨_,_,h⟩:=h.inv;exact h.no (List.forall_mem_cons.mpr ⟨λ_ _ h=>h.noS,List.forall_mem_cons.mpr ⟨λ_ _ h=>h.noI,λ_ h=>absurd h List.not_mem_nil⟩⟩)
 |need o m k=>obtain⟨_,_,h⟩:=h.inv;exact h.no (List.forall_mem_cons.mpr ⟨λ_ _ h=>h.noS,List.forall_mem_cons.mpr ⟨λ_ _ h=>h.noS,List.forall_mem_cons.mpr ⟨λ_ _ h=>h.noI,List.forall_mem_cons.mpr ⟨λ_ _ h=>h.noI,λ_ h=>absurd h List.not_mem_nil⟩⟩⟩⟩)
 |pick o m=>obtain⟨_,_,h⟩:=h.inv;exact h.no (List.forall_mem_cons.mpr ⟨λ_ _ h=>h.noS,List.forall_mem_cons.mpr ⟨λ_ _ h=>h.noS,List.forall_mem_cons.mpr ⟨λ_ _ h=>h.noI,λ_ h=>absurd h List.not_mem_nil⟩⟩⟩)
theorem Tr.two{A:List Addr}{v:V}{x:Str}{l1 l2:List V}(h:Tr σ A v (.tup [.str x,.lst l1,.lst l2])):∃a b us ws B0 B,A=(B0++[a])++(B++[b])/\TrL σ B0 ws l1/\TrL σ B us l2:=by
 obtain⟨_,_,h⟩:=h.inv
 obtain⟨_,_,_,_,_,rfl,h1,h2⟩:=h.inv
 rw[h1.noS]
 obtain⟨_,_,_,_,_,rfl,h3,h4⟩:=h2.inv
 obtain⟨_,_,_,_,_,rfl,h5,h6⟩:=h4.inv
 obtain⟨_,rfl⟩:=h6.inv
 obtain⟨a,ws,B0,_,rfl,_,hw⟩:=h3.inv
 obtain⟨b,us,B,_,rfl,_,hu⟩:=h5.inv
 exact⟨a,b,us,ws,B0,B,by rw[List.nil_append,List.append_nil],hw,hu⟩
theorem TrL.cnt{K:Nat}{as:List (Int×V)}:∀{us:List V} {B:List Addr},(∀p∈as,∀A v,Tr σ A v p.2->A.length<=K)->TrL σ B us (as.map aV)->B.length<=as.length*K:=λ{us B}=>by
 induction as generalizing us B with
 |nil=>intro _ h;rw[h.inv.2];exact Nat.zero_le _
 |cons p as ih=>
  intro hp h
  obtain⟨x,zs,B1,D,_,rfl,h1,h2⟩:=h.inv
  obtain⟨_,_,h1⟩:=h1.inv
  obtain⟨_,_,_,_,_,rfl,h3,h4⟩:=h1.inv
  obtain⟨_,_,_,_,_,rfl,h5,h6⟩:=h4.inv
  rw[h3.noI,h6.inv.2,List.nil_append,List.append_nil,List.length_append,List.length_cons,Nat.succ_mul,Nat.add_comm]
  exact Nat.add_le_add (ih (λq hq=>hp q (.tail _ hq)) h2) (hp p (.head _) _ _ h5)
theorem Ho.cnt{ws:List Str}(hws:∀w,es w≠[]->w∈ws)(hn:ws.Nodup){f:Nat}{Z:V}(h:Ho es wi f ps Z):∀A v,Tr σ A v Z->A.length<=2*Pr es ws (ps.map (·.1)):=by
 induction h with
 | @mk f ps w ss as a b c e k g hf _ ih=>
  intro A v hT
  obtain⟨_,_,us,vs,B0,B,rfl,h1,h2⟩:=hT.two
  have e0:B0=[]:=h1.no λy hy B u h=>by
   revert h;apply z0l hy;intro s _ h
   exact h.noSrc
  subst e0
  have hp:=z6y (es:=es) (ps.map (·.1)) ws
  have hl:as.length<=(es w).length:=by
   have:=congrArg List.length g
   rw[List.length_map] at this
   rw[this];exact z6h
  rw[List.length_append,List.length_append,List.length_append]
  show 0+1+(B.length+1)<=_
  by_cases h0:as=[]
  ·subst h0
   have:=TrL.cnt (K:=0) (as:=[]) (λ_ h=>nomatch h) h2
   rw[List.length_nil,Nat.zero_mul] at this
   lia
  ·have hwn:=hf h0
   have hne:es w≠[]:=λe=>by rw[e] at hl;exact h0 (List.length_eq_zero_iff.mp (Nat.le_zero.mp hl))
   have hst:=z6o (es:=es) hwn hn (hws w hne)
   have hB:=TrL.cnt (K:=2*Pr es ws (ps.map (·.1)++[w])) (λp hp A v hT=>by have:=ih p hp A v hT;rw[List.map_append] at this;exact this) h2
   have hB:=Nat.le_trans hB (Nat.mul_le_mul_right _ hl)
   have h1:=z6y (es:=es) (ps.map (·.1)++[w]) ws
   rw[hst,Nat.add_mul,Nat.one_mul]
   have:(es w).length*(2*Pr es ws (ps.map (·.1)++[w]))=2*((es w).length*Pr es ws (ps.map (·.1)++[w])):=Nat.mul_left_comm _ _ _
   lia
theorem Ags.cnt{ws:List Str}(hws:∀w,es w≠[]->w∈ws)(hn:ws.Nodup){K:Nat}{ys:List V}(h:Ags es wi ps r ys):∀{us:List V} {B:List Addr},Pr es ws (ps.map (·.1))<=K->TrL σ B us ys->B.length<=r.length*(1+2*K):=by
 induction h with
 |nil=>intro us B _ h;rw[h.inv.2];exact Nat.zero_le _
 | @cons ps w mk as r ys a hwn b _ ih=>
  intro us B hK h
  obtain⟨x,zs,B1,D,_,rfl,h1,h2⟩:=h.inv
  obtain⟨_,_,B2,_,rfl,_,h3⟩:=h1.inv
  have hK2:Pr es ws ((ps++[(w,mk)]).map (·.1))<=K:=by rw[List.map_append];exact Nat.le_trans (y2C _ _ _) hK
  have hD:=ih hK2 h2
  have hl:as.length<=(es w).length:=by
   have:=congrArg List.length a
   rw[List.length_map] at this
   rw[this];exact Nat.le_trans (List.length_filter_le _ _) (Nat.le_of_eq desM_len)
  have hB2:B2.length<=2*K:=by
   by_cases h0:as=[]
   ·subst h0
    have:=TrL.cnt (K:=0) (as:=[]) (λ_ h=>nomatch h) h3
    rw[List.length_nil,Nat.zero_mul] at this
    lia
   ·have hne:es w≠[]:=λe=>by rw[e] at hl;exact h0 (List.length_eq_zero_iff.mp (Nat.le_zero.mp hl))
    have hst:=z6o (es:=es) hwn hn (hws w hne)
    have hB:=TrL.cnt (K:=2*Pr es ws (ps.map (·.1)++[w])) (λp hp A v hT=>by have:=(b p hp).cnt hws hn A v hT;rw[List.map_append] at this;exact this) h3
    have hB:=Nat.le_trans hB (Nat.mul_le_mul_right _ hl)
    have:(es w).length*(2*Pr es ws (ps.map (·.1)++[w]))=2*((es w).length*Pr es ws (ps.map (·.1)++[w])):=Nat.mul_left_comm _ _ _
    rw[hst,Nat.add_mul,Nat.one_mul] at hK
    lia
  have e:((w,mk)::r).length*(1+2*K)=r.length*(1+2*K)+(1+2*K):=Nat.succ_mul _ _
  rw[List.length_append,List.length_append,e]
  show B2.length+1+D.length<=_
  lia
theorem Told.cnt{ws:List Str}(hws:∀w,es w≠[]->w∈ws)(hn:ws.Nodup)(hK:Pr es ws []<=32768){t:V}(h:Told es wi t):∀A v,Tr σ A v t->A.length<=1000000:=by
 intro A v hT
 cases h with
 |none h=>
  obtain⟨_,_,h1⟩:=hT.inv
  obtain⟨_,_,_,_,_,rfl,h2,h3⟩:=h1.inv
  obtain⟨_,_,_,_,_,rfl,h4,h5⟩:=h3.inv
  have:=h.cnt hws hn _ _ h4
  have hK:Pr es ws (List.map (·.1) ([]:List (Str×Int)))<=32768:=hK
  rw[h2.noS,h5.inv.2,List.nil_append,List.append_nil]
  lia
 |pick pb _ _ _ ha=>
  obtain⟨_,_,us,vs,B0,B,rfl,h1,h2⟩:=hT.two
  have e0:B0=[]:=h1.no λy hy B u h=>by
   revert h;apply z0l hy;intro p _ h
   obtain⟨_,_,h⟩:=h.inv
   exact h.no (List.forall_mem_cons.mpr ⟨λ_ _ h=>h.noS,List.forall_mem_cons.mpr ⟨λ_ _ h=>h.noI,λ_ h=>absurd h List.not_mem_nil⟩⟩)
  subst e0
  have:=ha.cnt hws hn hK h2
  have h12:=pb.len
  have:=Nat.le_trans this (Nat.mul_le_mul_right _ h12)
  rw[List.length_append,List.length_append,List.length_append]
  show 0+1+(B.length+1)<=_
  lia
end
end
section
section
variable {C:Cx} [HM C] [NF C] {d:Nat} {σ:Sto} {Q:V->Sto->Prop} {i k ro:Addr} {kv rv:List (Str×Addr)} {es:Str->List (Int×List z0c)} {wi:List z0c} {ps:List (Str×Int)} {w:Str}
theorem z7W{env:Env}{vars:List Str}{gl:List (Str×V)}{own:Bool}{m:Loc}{iter tgt:Expr}{QI:List V->(Sto->Prop)->Sto->Prop}{v:V}{xs:List V}{P:Sto->Prop}(hv:(v= .tup xs/\P=λ_=>True)∨Has σ v (.list xs) P)
  (h:AT C env vars gl own d (eval iter env) m σ λX σ₁=>X=v/\σ₁=σ/\QI xs P σ):AI C env vars gl own d iter tgt m σ QI:=by
 rcases hv with⟨rfl,rfl⟩|hv
 ·exact y1m (h.mono λX σ₁ ⟨e1,e2,q⟩=>⟨xs,e1,e2▸q⟩)
 ·exact z0J (h.mono λX σ₁ ⟨e1,e2,q⟩=>⟨xs,P,e1▸e2▸hv,e2▸q⟩)
theorem z9I{a:Addr}{o:Obj}{xs:List V}{τ:Sto}(hn:(foot ((a,o,AO.list xs)::τ)).Nodup):Fresh τ a:=λp hp e=>(List.nodup_cons.mp hn).1 (e▸z12 hp)
noncomputable def z1V(r1:Stmt)(r2:Expr):TC:=⟨[.loc 0,.psh (.type "list"),.psh (.type "tuple"),.tup 2,.call (.bi "isinstance") 2,.tvalc,.ife [.rawS r1,.raw r2,.ret] [],.loc 0,.ret],[.inl r1,.inr r2],[([0,0,0],none),([0,0,1],some [])]⟩
--z1V 2
set_option tactic.hygienic true in
theorem z5K(H:G1 C){v t:V}{n:Nat}(h:Dn σ n v t)(hlt:ltB t=true){xs:List V}{P:Sto->Prop}(hv:(v= .tup xs/\P=λ_=>True)∨Has σ v (.list xs) P)(hl:xs.length<=200)(I:Nat->List V->Sto->Prop)(h0:I 0 [] σ)(hk:∀j acc τ,I j acc τ->acc.length=j/\∀b x,At σ b x->At τ b x)
  (hst:∀(j:Nat) X acc τ,xs[j]? =some X->I j acc τ->CW C d (.ref 372) [X] τ λY τ'=>P τ'/\I (j+1) (acc++[Y]) τ')
  (hq1:tkB t .tup=true->∀ys τ,I xs.length ys τ->Q (.tup ys) τ) (hq2:tkB t .tup=false->∀ys τ,I xs.length ys τ->∀a o,Fresh τ a->Q (.ref a) ((a,o,.list ys)::τ)):CW C (d+1) (.ref 372) [v] σ Q:=by
 refine z08 ?_
 refine z0D (G1.kin (by assumption)) ["_law_thing","_law_parts"] [("isinstance",.bi "isinstance"),("list",.type "list"),("tuple",.type "tuple")] (by kernel_rfl) (vs1 λ_=>by kernel_rfl) rfl (z0a (z0h (by assumption)) (z0a (z0N (by assumption)) (z0a (z0M (by assumption)) GL_nil))) ?_
 intro env hsc
 refine z0e (z0o H) (z0n H) (z1V _ _) (by exact rfl) (by kernel_rfl) ?_
 intro F m0
 refine Leaf.mk (z4B h ?_)
 rw[hlt]
 refine Leaf.mk ?_
 show AS C env ["_law_thing","_law_parts"] _ true _ (exec _ env) [some v,none] _ _
 refine z1M "_law_part" [] [("_law_copy",.ref 372)] (z1C (by rw[hsc];kernel_rfl)) (by rw[hsc];kernel_rfl) (z0a (z30 H) GL_nil) .nil (z7W hv ?_)
 with_reducible refine z0k ?_
 refine⟨rfl,rfl,Nat.le_trans hl (by decide),λenv' he=>z6U I (z0m he (by decide+kernel)) xs 0 [] none σ (λj X hX acc τ hI=> ?_) (λacc τ hI=> ?_) h0⟩
 ·rw[Nat.zero_add] at hI⊢
  repeat' with_reducible first|refine z0k ?_|refine z1k ?_|refine z0I ?_|refine z0s ?_|refine z0r ?_|refine⟨z37 (by assumption),?_⟩|fail
  exact fnc (hst j X acc τ hX hI)
 ·rw[Nat.zero_add] at hI
  intro a o
  with_reducible refine z2B ?_
  refine Leaf.mk ?_
  show AT C env ["_law_thing","_law_parts"] _ true _ (eval _ env) [some v,some (.ref a)] _ _
  refine y4w λhnd=> ?_
  have hf:=z9I hnd
  have h':Dn ((a,o,.list acc)::τ) n v t:=h.mono λb x hb=>((hk _ _ _ hI).2 b x hb).cons _
  repeat' with_reducible first|refine z0k ?_|refine z1k ?_|refine z0I ?_|refine y0w ?_|refine z0s ?_|refine z0r ?_|refine z9D ?_|refine⟨z1d,?_⟩|fail
  refine y3f (k:= .tup) h' ?_
  cases hkt:tkB t .tup with
  |true=>
   repeat' with_reducible first|refine z0k ?_|refine z1k ?_|refine z0I ?_|refine z0s ?_|refine z0r ?_|refine z0j ?_|refine⟨z1i,?_⟩|(refine⟨λ_=> ?_,λ_=> ?_⟩<;>try (exfalso;rename_i hb;revert hb;simp[V.isNone];done))|fail
   refine y0d (.refL (.head _)) ?_ ?_
   ·rw[(hk _ _ _ hI).1];exact Nat.le_trans hl (by decide)
   ·exact⟨τ,List.sublist_cons_self _ _,hq1 hkt acc τ hI⟩
  |false=>
   repeat' with_reducible first|refine z0k ?_|refine z0j ?_|(refine⟨λ_=> ?_,λ_=> ?_⟩<;>try (exfalso;rename_i hb;revert hb;simp[V.isNone];done))|fail
   exact⟨_,List.Sublist.refl _,hq2 hkt acc τ hI a o hf⟩
theorem Dn.atom{v t:V}{n:Nat}(h:Dn σ n v t)(hl:ltB t=false):v=t:=by cases h<;>first|rfl|cases hl
theorem z5E{ys:List V}{j:Nat}{Y:V}(h:ys[j]? =some Y):ys.take (j+1)=ys.take j++[Y]:=by rw[List.take_add_one,h];rfl
theorem z86(H:G1 C){n:Nat}(ih:∀{σ:Sto} {Q:V->Sto->Prop} {v t:V},Dn σ n v t->Q t σ->CW C d (.ref 372) [v] σ Q){v:V}{ys:List V}(h:Dn σ (n+1) v (.lst ys))(q:∀a o,Fresh σ a->Q (.ref a) ((a,o,.list ys)::σ)):CW C (d+1) (.ref 372) [v] σ Q:=by
 obtain⟨m,xs,ys',P,e,hH,e2,hl,h2,hd⟩:=h.lstI rfl
 cases e;cases e2
 refine z5K H h rfl (.inr hH) h2 (λj acc τ=>j<=ys.length/\τ=σ/\acc=ys.take j) ⟨Nat.zero_le _,rfl,rfl⟩ (λj acc τ hI=> ?_) (λj X acc τ hX hI=> ?_) (λe=>nomatch e) λ_ zs τ hI a o hf=> ?_
 ·obtain⟨h1,rfl,rfl⟩:=hI
  exact⟨by rw[List.length_take];exact Nat.min_eq_left h1,λ_ _ h=>h⟩
 ·obtain⟨h1,rfl,rfl⟩:=hI
  obtain⟨Y,hY⟩:=z6S hl.symm hX
  exact ih (hd j X Y hX hY) ⟨hH.p,(List.getElem?_eq_some_iff.mp hY).1,rfl,(z5E hY).symm⟩
 ·obtain⟨_,rfl,rfl⟩:=hI
  rw[hl,List.take_length];exact q a o hf
theorem z7C(H:G1 C)(n:Nat):∀{σ:Sto} {Q:V->Sto->Prop} {v t:V},Dn σ n v t->Q t σ->CW C (d+n+1) (.ref 372) [v] σ Q:=by
 induction n with
 |zero=>
  intro σ Q v t h q
  have hlt:ltB t=false:=by cases h<;>rfl
  obtain rfl:=h.atom hlt
  refine z0D (G1.kin (by assumption)) ["_law_thing","_law_parts"] [("isinstance",.bi "isinstance"),("list",.type "list"),("tuple",.type "tuple")] (by kernel_rfl) (vs1 λ_=>by kernel_rfl) rfl (z0a (z0h (by assumption)) (z0a (z0N (by assumption)) (z0a (z0M (by assumption)) GL_nil))) ?_
  intro env hsc
  clear hsc
  refine z0e (z0o H) (z0n H) (z1V _ _) (by exact rfl) (by kernel_rfl) ?_
  intro F m0
  refine Leaf.mk (z4B h ?_)
  rw[hlt]
  exact q
 |succ n ih=>
  intro σ Q v t h q
  cases hlt:ltB t with
  |false=>
   obtain rfl:=h.atom hlt
   refine z0D (G1.kin (by assumption)) ["_law_thing","_law_parts"] [("isinstance",.bi "isinstance"),("list",.type "list"),("tuple",.type "tuple")] (by kernel_rfl) (vs1 λ_=>by kernel_rfl) rfl (z0a (z0h (by assumption)) (z0a (z0N (by assumption)) (z0a (z0M (by assumption)) GL_nil))) ?_
   intro env hsc
   clear hsc
   refine z0e (z0o H) (z0n H) (z1V _ _) (by exact rfl) (by kernel_rfl) ?_
   intro F m0
   refine Leaf.mk (z4B h ?_)
   rw[hlt]
   exact q
  |true=>
   cases hkt:tkB t .tup with
   |false=>
    have hkl:tkB t .lst=true:=by unfold ltB at hlt;rw[hkt,Bool.or_false] at hlt;exact hlt
    obtain⟨m,xs,ys,P,e,hH,rfl,hl,h2,hd⟩:=h.lstI hkl
    exact z1e (z86 H ih h λa o hf=>⟨a,o,ys,σ,rfl,rfl,q⟩)
   |true=>
    obtain⟨m,xs,ys,e,rfl,rfl,hl,h2,hd⟩:=h.tupI hkt
    cases e
    refine z5K H h rfl (.inl ⟨rfl,rfl⟩) h2 (λj acc τ=>j<=ys.length/\τ=σ/\acc=ys.take j) ⟨Nat.zero_le _,rfl,rfl⟩ (λj acc τ hI=> ?_) (λj X acc τ hX hI=> ?_) (λ_ zs τ hI=> ?_) λe=>nomatch e
    ·obtain⟨h1,rfl,rfl⟩:=hI
     exact⟨by rw[List.length_take];exact Nat.min_eq_left h1,λ_ _ h=>h⟩
    ·obtain⟨h1,rfl,rfl⟩:=hI
     obtain⟨Y,hY⟩:=z6S hl.symm hX
     exact ih (hd j X Y hX hY) ⟨trivial,(List.getElem?_eq_some_iff.mp hY).1,rfl,(z5E hY).symm⟩
    ·obtain⟨_,rfl,rfl⟩:=hI
     rw[hl,List.take_length];exact q
end
end
section
section
variable {C:Cx} [HM C] [NF C] {d:Nat} {σ:Sto} {Q:V->Sto->Prop}
noncomputable def t__law_lists_1:TC:=⟨[.loc 1,.loc 2,.call (.ref 379) 1,.binc .Add,.asg 1,.drp],[],[]⟩
--t__law_lists_1 0
noncomputable def z2b(r1:Stmt):TC:=⟨[.asgL 1,.loc 0,.psh (.type "list"),.psh (.type "tuple"),.tup 2,.call (.bi "isinstance") 2,.tvalc,.ife [.rawS r1,.loc 0,.isi .lst,.tvalc,.ife [.loc 1,.mty "list",.loc 0,.meth (.bi "list.append") 1,.pop] []] [],.loc 1,.ret],[.inl r1],[([1,0,0],none)]⟩
--z2b 1
noncomputable def z3m(r1:Stmt)(r2:Expr)(r3:Expr):TC:=⟨[.loc 0,.call (.ref 379) 1,.asg 1,.rawS r1,.loc 1,.forL 3 [.loc 3,.mty "list",.psh (.int 0),.meth (.bi "list.append") 1,.pop],.raw r2,.raw r3,.cmpc .Eq,.ret],[.inl r1,.inr r2,.inr r3],[([1],none),([3],some [0]),([3],some [1])]⟩
--z3m 3
noncomputable def t__law_emptied_1:TC:=⟨[.loc 1,.call (.ref 391) 1,.pop],[],[]⟩
--t__law_emptied_1 0
noncomputable def z1K(r1:Stmt):TC:=⟨[.loc 0,.psh (.type "list"),.psh (.type "tuple"),.tup 2,.call (.bi "isinstance") 2,.tvalc,.ife [.rawS r1,.loc 0,.isi .lst,.tvalc,.ife [.loc 0,.mty "list",.meth (.bi "list.clear") 0,.pop] []] []],[.inl r1],[([0,0,0],none)]⟩
--z1K 1
theorem z7t{xs ys:List V}{τ:Sto}{A:List Addr}{j:Nat}{X:V}(h:TrL τ A (xs.drop j) (ys.drop j))(hX:xs[j]? =some X):∃Y∈ys,∃B D,A=B++D/\Tr τ B X Y/\TrL τ D (xs.drop (j+1)) (ys.drop (j+1)):=by
 rw[z4n hX] at h
 cases e:ys.drop j with
 |nil=>rw[e] at h;obtain⟨h,_⟩:=h.inv;cases h
 |cons Y zs=>
  have hY:ys[j]? =some Y:=by rw[<-List.head?_drop,e];rfl
  have e2:=z4n hY
  rw[e2] at h
  obtain⟨x,us,B,D,e3,rfl,h1,h2⟩:=h.inv
  cases e3
  exact⟨Y,List.mem_of_getElem? hY,B,D,rfl,h1,h2⟩
inductive LsI(v0:V)(xs ys:List V)(B:List Addr)(σ:Sto)(j:Nat):Loc->Sto->Prop
 |mk {B1 B2:List Addr} {c:Addr} {oc:Obj} {v:Option V}:B1++B2=B->TrL σ B2 (xs.drop j) (ys.drop j)->LsI v0 xs ys B σ j [some v0,some (.ref c),v] ((c,oc,.list (B1.map V.ref))::σ)
theorem z59(H:G1 C)(n:Nat):∀{σ:Sto} {Q:V->Sto->Prop} {A:List Addr} {v t:V},Tr σ A v t->Dq n t->A.length<=1000000->Q (.lst (A.map V.ref)) σ->CW C (d+n+1) (.ref 379) [v] σ Q:=by
 have atom:∀{n:Nat} {σ:Sto} {Q:V->Sto->Prop} {A:List Addr} {v t:V},(ltB t=false/\Dn [] 0 t t/\v=t/\A=[])->Q (.lst (A.map V.ref)) σ->CW C (d+n+1) (.ref 379) [v] σ Q:=λ{n σ Q A v t} h q=>by
  obtain⟨h1,h2,rfl,rfl⟩:=h
  refine z1e ?_
  refine z0D (G1.kin (by assumption)) ["_law_thing","_law_found","_law_part"] [("isinstance",.bi "isinstance"),("list",.type "list"),("tuple",.type "tuple"),("_law_lists",.ref 379)] (by kernel_rfl) (vs1 λ_=>by kernel_rfl) rfl (z0a (z0h (by assumption)) (z0a (z0N (by assumption)) (z0a (z0M (by assumption)) (z0a (z2d (by assumption)) GL_nil)))) ?_
  intro env hsc
  clear hsc
  refine z0e (z0o H) (z0n H) (z2b _) (by exact rfl) (by kernel_rfl) ?_
  intro F m0 a o hf
  refine Leaf.mk (z4B (n:=0) (h2.mono λa x ⟨_,h⟩=>nomatch h) ?_)
  rw[h1]
  exact⟨a,o,_,σ,rfl,rfl,q⟩
 induction n with
 |zero=>intro σ Q A v t hT hd _ q;exact atom (n:=0) (hT.at0 hd) q
 |succ n ih=>
  intro σ Q A v t hT hd hA q
  rcases hT.seq hd with h|⟨xs,ys,B,P,hS,hL,hyl,hyd⟩
  ·exact atom h q
  have hBA:B.length<=A.length:=by
   cases hS with
   |tup _ h _=>rw[h];exact Nat.le_refl _
   |lst _ h _ _=>rw[h,List.length_append];exact Nat.le_add_right _ _
  refine z1e ?_
  refine z0D (G1.kin (by assumption)) ["_law_thing","_law_found","_law_part"] [("isinstance",.bi "isinstance"),("list",.type "list"),("tuple",.type "tuple"),("_law_lists",.ref 379)] (by kernel_rfl) (vs1 λ_=>by kernel_rfl) rfl (z0a (z0h (by assumption)) (z0a (z0N (by assumption)) (z0a (z0M (by assumption)) (z0a (z2d (by assumption)) GL_nil)))) ?_
  intro env hsc
  clear hsc
  refine z0e (z0o H) (z0n H) (z2b _) (by exact rfl) (by kernel_rfl) ?_
  intro F m0 c0 oc0 hf
  have hS0:SeqV ((c0,oc0,AO.list [])::σ) v xs B A P:=by
   cases hS with
   |tup a b e=>exact .tup a b e
   |lst a b c e=>exact .lst a b (.tail _ c) e
  refine Leaf.mk (hS0.lt ?_)
  refine Leaf.mk ?_
  show AS C env ["_law_thing","_law_found","_law_part"] _ true _ (exec _ env) [some v,some (.ref c0),none] _ _
  refine z4L (LsI v xs ys B σ) (z7W hS0.hv ?_)
  with_reducible refine z0k ?_
  refine⟨rfl,rfl,.mk (B1:=[]) rfl hL,λj X hX m τ hI QB hQB _=> ?_,λm τ hI=> ?_⟩
  ·refine hI.casesOn @λB1 B2 c oc v2 hB hL=> ?_
   obtain⟨Y,hY,B',D,rfl,hT',hL'⟩:=z7t hL hX
   have hlen:B1.length+(B'.length+D.length)<=1000000:=by rw[<-List.length_append,<-List.length_append,hB];exact Nat.le_trans hBA hA
   have hPc:∀c oc (l:List V),P ((c,oc,AO.list l)::σ):=λc oc l=>by
    cases hS with
    |tup _ _ e=>rw[e];trivial
    |lst _ _ h e=>rw[e];exact .tail _ h
   with_reducible refine z0v PutC.put ?_
   refine z0e (z0o H) (z0n H) t__law_lists_1 rfl (by kernel_rfl) ?_
   intro F m0
   refine Leaf.mk (fnc (ih (hT'.mono λa _ x h=>h.cons _) (hyd Y hY) (by lia) ?_))
   refine Leaf.mk (z28 (.refL (.head _)) (.lst _) (by rw[List.length_map,List.length_map];exact Nat.le_trans (Nat.le_trans (by lia) hlen) (by decide)) (y4u λc2 oc2=> ?_))
   rw[<-List.map_append]
   refine Leaf.mk ⟨(c2,oc2,.list ((B1++B').map V.ref))::σ,.cons_cons _ (List.sublist_cons_self _ _),?_⟩
   exact hQB _ _ (hPc _ _ _) (.mk (by rw[List.append_assoc];exact hB) hL')
  ·refine hI.casesOn @λB1 B2 c oc v2 hB hL=> ?_
   have e2:B2=[]:=by rw[List.drop_length] at hL;cases e:ys.drop xs.length with
    |nil=>rw[e] at hL;exact hL.inv.2
    |cons y zs=>rw[e] at hL;obtain⟨_,_,_,_,h,_⟩:=hL.inv;cases h
   subst e2
   rw[List.append_nil] at hB
   subst hB
   cases hS with
   |tup a b _=>
    subst a b
    exact⟨c,oc,_,σ,rfl,rfl,q⟩
   | @lst a o e b hm _=>
    subst e b
    refine z6j (.refL (.tail _ hm)) ?_
    refine Leaf.mk ⟨tyL At.hd,?_⟩
    refine Leaf.mk (z2C (by rw[List.length_map];exact Nat.le_trans (Nat.le_trans hBA hA) (by decide)) λo'=> ?_)
    rw[List.map_append] at q
    exact⟨c,o',_,σ,rfl,rfl,q⟩
inductive EmI(v0:V)(xs ys:List V)(B:List Addr)(σ:Sto)(j:Nat):Loc->Sto->Prop
 |mk {B1 B2:List Addr} {τ:Sto} {v:Option V}:B1++B2=B->TrL τ B2 (xs.drop j) (ys.drop j)->(∀p∈σ,p.1∉B1->p∈τ)->EmI v0 xs ys B σ j [some v0,v] τ
theorem z4P(H:G1 C)(n:Nat):∀{σ:Sto} {Q:V->Sto->Prop} {A:List Addr} {v t:V},Tr σ A v t->Dq n t->A.Nodup->(∀σ',(∀p∈σ,p.1∉A->p∈σ')->Q .none σ')->CW C (d+n+1) (.ref 391) [v] σ Q:=by
 have atom:∀{n:Nat} {σ:Sto} {Q:V->Sto->Prop} {A:List Addr} {v t:V},(ltB t=false/\Dn [] 0 t t/\v=t/\A=[])->(∀σ',(∀p∈σ,p.1∉A->p∈σ')->Q .none σ')->CW C (d+n+1) (.ref 391) [v] σ Q:=λ{n σ Q A v t} h q=>by
  obtain⟨h1,h2,rfl,rfl⟩:=h
  refine z0D (G1.kin (by assumption)) ["_law_thing","_law_part"] [("isinstance",.bi "isinstance"),("list",.type "list"),("tuple",.type "tuple"),("_law_emptied",.ref 391)] (by kernel_rfl) (vs1 λ_=>by kernel_rfl) rfl (z0a (z0h (by assumption)) (z0a (z0N (by assumption)) (z0a (z0M (by assumption)) (z0a (z1L (by assumption)) GL_nil)))) ?_
  intro env hsc
  clear hsc
  refine z0e (z0o H) (z0n H) (z1K _) (by exact rfl) (by kernel_rfl) ?_
  intro F m0
  refine Leaf.mk (z4B (n:=0) (h2.mono λa x ⟨_,h⟩=>nomatch h) ?_)
  rw[h1]
  exact q σ λp h _=>h
 induction n with
 |zero=>intro σ Q A v t hT hd _ q;exact atom (n:=0) (hT.at0 hd) q
 |succ n ih=>
  intro σ Q A v t hT hd hA q
  rcases hT.seq hd with h|⟨xs,ys,B,P,hS,hL,hyl,hyd⟩
  ·exact atom h q
  have hxl:=hL.len
  have hB:B.Nodup:=by
   cases hS with
   |tup _ h _=>rw[<-h];exact hA
   |lst _ h _ _=>rw[h] at hA;exact(List.nodup_append.mp hA).1
  have hP:∀τ,(∀p∈σ,p.1∉B->p∈τ)->P τ:=λτ hk=>by
   cases hS with
   |tup _ _ e=>rw[e];trivial
   |lst _ h hm e=>rw[e];rw[h] at hA;exact hk _ hm λhb=>(List.nodup_append.mp hA).2.2 _ hb _ (.head _) rfl
  refine z0D (G1.kin (by assumption)) ["_law_thing","_law_part"] [("isinstance",.bi "isinstance"),("list",.type "list"),("tuple",.type "tuple"),("_law_emptied",.ref 391)] (by kernel_rfl) (vs1 λ_=>by kernel_rfl) rfl (z0a (z0h (by assumption)) (z0a (z0N (by assumption)) (z0a (z0M (by assumption)) (z0a (z1L (by assumption)) GL_nil)))) ?_
  intro env hsc
  clear hsc
  refine z0e (z0o H) (z0n H) (z1K _) (by exact rfl) (by kernel_rfl) ?_
  intro F m0
  refine Leaf.mk (hS.lt ?_)
  refine Leaf.mk ?_
  show AS C env ["_law_thing","_law_part"] _ true _ (exec _ env) [some v,none] _ _
  refine z4L (EmI v xs ys B σ) (z7W hS.hv ?_)
  with_reducible refine z0k ?_
  refine⟨rfl,rfl,.mk (B1:=[]) rfl hL λp h _=>h,λj X hX m τ hI QB hQB _=> ?_,λm τ hI=> ?_⟩
  ·refine hI.casesOn @λB1 B2 τ v2 hB12 hL hk=> ?_
   obtain⟨Y,hY,B',D,rfl,hT',hL'⟩:=z7t hL hX
   rw[<-hB12] at hB
   obtain⟨_,n2,d12⟩:=List.nodup_append.mp hB
   obtain⟨n3,n4,d34⟩:=List.nodup_append.mp n2
   with_reducible refine z0v PutC.put ?_
   refine z0e (z0o H) (z0n H) t__law_emptied_1 rfl (by kernel_rfl) ?_
   intro F m0
   refine Leaf.mk (fnc (ih hT' (hyd Y hY) n3 λτ' hk'=> ?_))
   have hk2:∀p∈σ,p.1∉B1++B'->p∈τ':=λp hp hn=>hk' p (hk p hp λh=>hn (List.mem_append_left _ h)) λh=>hn (List.mem_append_right _ h)
   refine hQB _ _ (hP _ λp hp hn=>hk2 p hp λh=>hn ?_) (.mk (B1:=B1++B') (by rw[List.append_assoc];exact hB12) (hL'.mono λa ha x ⟨o,h⟩=>⟨o,hk' _ h λhb=>d34 _ hb _ ha rfl⟩) hk2)
   rw[<-hB12]
   rcases List.mem_append.mp h with h|h
   ·exact List.mem_append_left _ h
   ·exact List.mem_append_right _ (List.mem_append_left _ h)
  ·refine hI.casesOn @λB1 B2 τ v2 hB12 hL hk=> ?_
   have hk:∀p∈σ,p.1∉B->p∈τ:=λp hp hn=>hk p hp λh=>hn (hB12▸List.mem_append_left _ h)
   cases hS with
   |tup a b _=>
    subst a b
    exact q _ hk
   | @lst a o e b hm _=>
    subst e b
    have hm':=hk _ hm λhb=>(List.nodup_append.mp hA).2.2 _ hb _ (.head _) rfl
    refine z6j (.refL hm') ?_
    refine Leaf.mk ⟨tyL ⟨_,hm'⟩,?_⟩
    refine Leaf.mk (z9U ⟨_,hm'⟩ (by rw[hxl];exact Nat.le_trans hyl (by decide)) λτ2 U=> ?_)
    exact q _ λp hp hn=>U.keep p (hk p hp λh=>hn (List.mem_append_left _ h)) λe=>hn (e▸List.mem_append_right _ (.head _))
theorem Tr.lens{A:List Addr}{v t:V}(h:Tr σ A v t):∀n,Dn [] n t t->∀a∈A,∃xs,At σ a (.list xs)/\xs.length<=200:=
 Tr.rec (motive_1:=λA v t _=>∀n,Dn [] n t t->∀a∈A,∃xs,At σ a (.list xs)/\xs.length<=200) (motive_2:=λA v t _=>∀n,(∀y∈t,Dn [] n y y)->∀a∈A,∃xs,At σ a (.list xs)/\xs.length<=200)
  (λ_ _ _ h=>nomatch h) (λ_ _ _ _ h=>nomatch h) (λ_ _ _ _ h=>nomatch h) (λ_ ih n hd=>by
   obtain⟨m,xs,ys,_,_,e,_,_,h3⟩:=hd.tupI rfl
   cases e
   obtain⟨m,xs,ys,rfl,e1,e2,_,_,h3⟩:=hd.tupI rfl
   cases e1;cases e2
   exact ih m λy hy=>by obtain⟨j,hj⟩:=List.getElem?_of_mem hy;exact h3 j y y hj hj) (λ{A a xs ys} ha hl ih n hd b hb=>by
   obtain⟨m,us,zs,P,rfl,hH,e,h1,h2,h3⟩:=hd.lstI rfl
   cases e
   cases hH
   rcases List.mem_append.mp hb with hb|hb
   ·exact ih m (λy hy=>by obtain⟨j,hj⟩:=List.getElem?_of_mem hy;exact h3 j y y hj hj) b hb
   ·rw[List.mem_singleton.mp hb];exact⟨xs,ha,by rw[hl.len];exact h2⟩)
  (λ_ _ _ h=>nomatch h) (λ_ _ i1 i2 n hd b hb=>by
   rcases List.mem_append.mp hb with hb|hb
   ·exact i1 n (hd _ (.head _)) b hb
   ·exact i2 n (λy hy=>hd y (.tail _ hy)) b hb) h
inductive ApI(v0 v1 v2:V)(A:List Addr)(f:Addr->List V)(σ:Sto)(j:Nat):Loc->Sto->Prop
 |mk {τ:Sto} {v:Option V}:(∀a∈A.take j,At τ a (.list (f a++[.int 0])))->(∀p∈σ,p.1∉A.take j->p∈τ)->ApI v0 v1 v2 A f σ j [some v0,some v1,some v2,v] τ
theorem y1Z(l:List Int):Dat (l.map V.int) (l.map PyData.int):=z6T V.int PyData.int l (λ_ a=> .int _) (λa=>by simp[PyData.depth]) λa ha=>rfl
theorem y3B{l:List Int}(q:Q (.bool true) σ):AC2 C d (compareOp .Eq) (.lst (l.map V.int)) (.lst (l.map V.int)) σ Q:=by
 refine y0y ((Has.lst _).dp ((y1Z l).dp σ)) ((Has.lst _).dp ((y1Z l).dp σ)) (y1Z l).sh (y1Z l).sh ?_
 rw[show PyData.eqv (.list (l.map PyData.int)) (.list (l.map PyData.int))=true from ?_]
 ·exact q
 ·show PyData.eqvAll _ _=true
  induction l with
  |nil=>rfl
  |cons a l ih=>rw[List.map_cons];show(PyData.eqv (.int a) (.int a)&&PyData.eqvAll (l.map PyData.int) (l.map PyData.int))=true;rw[ih];simp[PyData.eqv]
theorem z6n(H:G1 C){n:Nat}{A:List Addr}{v t:V}(hT:Tr σ A v t)(hn:A.Nodup)(hd:Dn [] n t t)(hc:A.length<=1000000)(q:∀σ',(∀p∈σ,p.1∉A->p∈σ')->(∀a∈A,∀xs,At σ a (.list xs)->At σ' a (.list (xs++[.int 0])))->Q (.bool true) σ'):CW C (d+n+2) (.ref 384) [v] σ Q:=by
 refine y2M λhnd=> ?_
 have hex:∀a,∃xs,a∈A->At σ a (.list xs)/\xs.length<=200:=λa=>by
  by_cases ha:a∈A
  ·obtain⟨xs,h⟩:=hT.lens n hd a ha;exact⟨xs,λ_=>h⟩
  ·exact⟨[],λh=>absurd h ha⟩
 obtain⟨f,hf⟩:∃f:Addr->List V,∀a∈A,At σ a (.list (f a))/\(f a).length<=200:=⟨λa=>(hex a).choose,λa ha=>(hex a).choose_spec ha⟩
 have hz:(A.map V.ref).length<=sizeLine:=by rw[List.length_map];exact Nat.le_trans hc (by decide)
 have q:∀σ',(∀p∈σ,p.1∉A->p∈σ')->(∀a∈A,At σ' a (.list (f a++[.int 0])))->Q (.bool true) σ':=λσ' h1 h2=>q σ' h1 λa ha xs hx=>by
  have e:=hx.inj hnd (hf a ha).1
  cases e;exact h2 a ha
 clear hex
 refine z0D (G1.kin (by assumption)) ["_law_thing","_law_lists_here","_law_sizes","_law_one"] [("_law_lists",.ref 379)] (by kernel_rfl) (vs1 λ_=>by kernel_rfl) rfl (z0a (z2d (by assumption)) GL_nil) ?_
 intro env hsc
 refine z0e (z0o H) (z0n H) (z3m _ _ _) (by exact rfl) (by kernel_rfl) ?_
 intro F m0
 refine Leaf.mk (fnc (z59 H n hT hd.q hc ?_))
 refine Leaf.mk ?_
 show AS C env ["_law_thing","_law_lists_here","_law_sizes","_law_one"] _ true _ (exec _ env) [some v,some (.lst (A.map V.ref)),none,none] _ _
 refine z00 "_law_one" [] [("len",.bi "len")] (z1C (by rw[hsc];kernel_rfl)) (by rw[hsc];kernel_rfl) (z0a (z0Q H) GL_nil) .nil (z0J ?_)
 with_reducible refine z0k ?_
 refine⟨_,_,.lst _,hz,λenv' he=>z1Q (f:=V.ref) (g:=λa=>V.int ((f a).length:Int)) (z0m he (by decide+kernel)) trivial _ _ _ (λa ha K hK=> ?_) ?_⟩
 ·obtain⟨⟨o,hm⟩,hl⟩:=hf a ha
  clear q
  repeat' with_reducible first|refine z0k ?_|refine z1k ?_|refine z0I ?_|refine z0s ?_|refine z0r ?_|refine⟨z1d,?_⟩|fail
  exact z2Y (.refL hm) (Nat.le_trans hl (by decide)) hK
 rw[List.nil_append]
 with_reducible refine z2B ?_
 refine Leaf.mk (.mk _ _ (ApI v (.lst (A.map V.ref)) (.lst (A.map λa=>V.int ((f a).length:Int))) A f σ) (.lst _) (.mk (λ_ h=>nomatch h) λp h _=>h) (λj X hX m τ hI QB hQB _=> ?_) λm τ hI=> ?_)
 ·rw[List.getElem?_map] at hX
  apply z0Z hX;intro a hae
  refine hI.casesOn @λτ v4 h1 h2=> ?_
  have hj:=(List.getElem?_eq_some_iff.mp hae)
  have ham:a∈A:=List.mem_of_getElem? hae
  have hnt:a∉A.take j:=by rw[<-hj.2];exact z3u hn hj.1
  obtain⟨⟨o,hm⟩,hl⟩:=hf a ham
  have hat:At τ a (.list (f a)):=⟨o,h2 _ hm hnt⟩
  refine Leaf.mk ⟨tyL hat,?_⟩
  refine Leaf.mk (z7e hat (Nat.le_trans hl (by decide)) λτ2 U=> ?_)
  refine hQB _ _ trivial (.mk (λb hb=> ?_) λp hp hnp=> ?_)
  ·rw[z1w hae] at hb
   rcases List.mem_append.mp hb with hb|hb
   ·exact U.at (h1 b hb) λe=>hnt (e▸hb)
   ·rw[List.mem_singleton.mp hb];exact U.here
  ·rw[z1w hae] at hnp
   exact U.keep p (h2 p hp λh=>hnp (List.mem_append_left _ h)) λe=>hnp (e▸List.mem_append_right _ (.head _))
 refine hI.casesOn @λτ v4 h1 h2=> ?_
 rw[List.length_map,List.take_length] at h1 h2
 refine Leaf.mk ?_
 show AT C env ["_law_thing","_law_lists_here","_law_sizes","_law_one"] _ true _ (eval _ env) [some v,some (.lst (A.map V.ref)),some (.lst (A.map λa=>V.int ((f a).length:Int))),v4] _ _
 refine z0P "_law_one" [] [("len",.bi "len")] (by rw[hsc];kernel_rfl) (z0a (z0Q H) GL_nil) .nil (z0J ?_)
 with_reducible refine z0k ?_
 refine⟨_,_,.lst _,hz,λenv' he=>z1Q (f:=V.ref) (g:=λa=>V.int ((f a).length+1:Int)) (z0m he (by decide+kernel)) trivial _ _ _ (λa ha K hK=> ?_) ?_⟩
 ·obtain⟨o,hm⟩:=h1 a ha
  have hl:=(hf a ha).2
  clear q
  repeat' with_reducible first|refine z0k ?_|refine z1k ?_|refine z0I ?_|refine z0s ?_|refine z0r ?_|refine⟨z1d,?_⟩|fail
  exact z0E (n:=(f a).length+1) (.refL hm) (by rw[List.length_append];rfl) (by rw[List.length_append];exact Nat.le_trans (Nat.succ_le_succ hl) (by decide)) hK
 rw[List.nil_append]
 refine Leaf.mk ?_
 show AT C env ["_law_thing","_law_lists_here","_law_sizes","_law_one"] _ true _ (eval _ env) [some v,some (.lst (A.map V.ref)),some (.lst (A.map λa=>V.int ((f a).length:Int))),v4] _ _
 refine z0P "_law_size" [] [] (by rw[hsc];kernel_rfl) GL_nil .nil (z0J ?_)
 with_reducible refine z0k ?_
 refine⟨_,_,.lst _,by rw[List.length_map];exact Nat.le_trans hc (by decide),λenv' he=>z1Q (f:=λa=>V.int ((f a).length:Int)) (g:=λa=>V.int ((f a).length+1:Int)) (z0m he (by decide+kernel)) trivial _ _ _ (λa ha K hK=> ?_) ?_⟩
 ·clear q
  repeat' with_reducible first|refine z0k ?_|refine z0O ?_|refine z1D ?_|refine z5G ?_|fail
  exact hK
 rw[List.nil_append,show A.map (λa=>V.int ((f a).length+1:Int))=(A.map λa=>((f a).length+1:Int)).map V.int by rw[List.map_map];rfl]
 refine Leaf.mk (y3B ?_)
 exact q τ h2 h1
end
end
section
section
variable {C:Cx} [HM C] [NF C] {d:Nat} {σ:Sto} {Q:V->Sto->Prop} {i k ro:Addr} {kv rv:List (Str×Addr)} {es:Str->List (Int×List z0c)} {wi:List z0c} {ps:List (Str×Int)} {w:Str}
theorem z68{α:Type}(l:List α):(List.range l.length).filterMap (l[·]?)=l:=by
 induction l with
 |nil=>rfl
 |cons a l ih=>
  rw[List.length_cons,List.range_succ_eq_map,List.filterMap_cons]
  show a::_=_
  rw[List.filterMap_map]
  exact congrArg (a::·) ih
theorem z62{α β:Type}{f g:α->Option β}(l:List α)(h:∀a∈l,f a=g a):l.filterMap f=l.filterMap g:=by
 induction l with
 |nil=>rfl
 |cons a l ih=>rw[List.filterMap_cons,List.filterMap_cons,h a (.head _),ih λb hb=>h b (.tail _ hb)]
theorem z8i{xs:List V}:slL xs none none (some (-1))=xs.reverse:=by
 unfold slL
 show(sliceRange ((xs.length:Int)-1) (-1) (-1)).filterMap (xs[·]?)=_
 rw[srm,List.filterMap_map,<-z68 xs.reverse,List.length_reverse]
 refine z62 _ λj hj=> ?_
 have hj:=List.mem_range.mp hj
 rw[List.getElem?_reverse hj];rfl
theorem y2c(S:Rw σ ro rv es)(w:Str){b:Addr}(hb:At σ b (.dict [])):∃c,(vAt (kvV rv) w).getD (.ref b)= .ref c/\At σ c (dI (esV (es w))):=by
 by_cases hm:w∈rv.map (·.1)
 ·obtain⟨c,hc,hrc,hat⟩:=S.at hm
  exact⟨c,by rw[hrc];rfl,hat⟩
 ·refine⟨b,by rw[z1E (by rw[z0t];exact hm)];rfl,?_⟩
  rw[S.out w hm];exact hb
theorem y0v(xs:List V){j:Nat}(h:j<=xs.length):slL xs none (some (j:Int)) none=xs.take j:=by
 unfold slL
 have b1:sliceBounds none (some (j:Int)) none xs.length=(((0:Nat):Int),(j:Int),1):=by
  have e:max 0 (min (if(j:Int)<0 then(j:Int)+(xs.length:Int) else(j:Int)) (xs.length:Int))=(j:Int):=y0C h
  show(((0:Nat):Int),max 0 (min (if(j:Int)<0 then(j:Int)+(xs.length:Int) else(j:Int)) (xs.length:Int)),(1:Int))=_
  rw[e]
 rw[b1]
 show((sliceRange ((0:Nat):Int) (j:Int) 1).filterMap λj=>xs[j]?)=xs.take j
 rw[sr1 (Nat.zero_le _),List.filterMap_map,Nat.sub_zero]
 have e:=z68 (xs.take j)
 rw[List.length_take,Nat.min_eq_left h] at e
 rw[<-e]
 refine z62 _ λa ha=> ?_
 show xs[0+a]? =_
 rw[Nat.zero_add,List.getElem?_take_of_lt (List.mem_range.mp ha)]
end
section
variable {C:Cx} [HM C] [NF C] {d:Nat} {σ:Sto} {Q:V->Sto->Prop} {ro:Addr} {rv:List (Str×Addr)} {es:Str->List (Int×List z0c)} {wi:List z0c} {ps:List (Str×Int)} {w:Str}
noncomputable def t__law_holds_1:TC:=⟨[.loc 8,.isi .tup,.tvalc,.not,.mop .Or [.loc 8,.len,.psh (.int 2),.tcmpc .NotEq,.mop .Or [.loc 8,.subT 0,.isi .bool,.tvalc,.mop .Or [.loc 8,.subT 0,.loc 7,.tcmpc .NotEq,.mop .Or [.psh (.bool false)]]]],.ife [.psh (.bool false),.ret] [],.loc 2,.call (.type "dict") 1,.asg 9,.loc 7,.loc 9,.loc 3,.subT 0,.setI,.loc 0,.loc 1,.loc 9,.loc 8,.subT 1,.call (.ref 357) 4,.tvalc,.not,.ife [.psh (.bool false),.ret] []],[],[]⟩
--t__law_holds_1 0
noncomputable def z3i(r1:Stmt)(r2:Stmt):TC:=⟨[.loc 3,.isi .tup,.tvalc,.not,.mop .Or [.loc 3,.len,.psh (.int 3),.tcmpc .NotEq,.mop .Or [.loc 3,.subT 0,.isi .str,.tvalc,.not,.mop .Or [.psh (.bool false)]]],.ife [.psh (.bool false),.ret] [],.loc 3,.subT 1,.isi .lst,.tvalc,.not,.mop .Or [.loc 3,.subT 1,.lst 0,.tcmpc .Eq,.mop .Or [.loc 3,.subT 2,.isi .lst,.tvalc,.not,.mop .Or [.psh (.bool false)]]],.ife [.psh (.bool false),.ret] [],.loc 0,.mty "dict",.loc 3,.subT 0,.dic,.meth (.bi "dict.get") 2,.call (.bi "sorted") 1,.psh .none,.psh .none,.psh (.int 1),.una .USub,.slc,.sub,.asg 4,.loc 3,.subT 1,.forL 5 [.loc 0,.loc 1,.loc 2,.loc 3,.subT 0,.loc 5,.call (.ref 352) 5,.asg 6,.loc 6,.psh .none,.tcmpc .Is,.ife [.psh (.bool false),.ret] [],.rawS r1],.cut [.loc 4,.len,.loc 3,.subT 2,.len,.tcmpc .NotEq,.mop .Or [.loc 4,.lst 0,.tcmpc .NotEq,.mop .And [.loc 3,.subT 0,.loc 2,.tcmpc .In,.mop .And [.psh (.bool true)]],.mop .Or [.psh (.bool false)]],.ife [.psh (.bool false),.ret] []],.rawS r2,.psh (.bool true),.ret],[.inl r1,.inl r2],[([3,0,2],none),([5],none)]⟩
--z3i 2
inductive HlI(ro:Addr)(x:V)(ga:Addr)(w:Str)(X1 X2:V)(es:Str->List (Int×List z0c))(st:List (Int×Int))(σ:Sto)(j:Nat):Loc->Sto->Prop
 |mk {v5 v6:Option V}:HlI ro x ga w X1 X2 es st σ j [some (.ref ro),some x,some (.ref ga),some (.tup [.str w,X1,X2]),some (.lst ((lfF es w (st.take j)).map V.int)),v5,v6,none,none,none] σ
inductive HmI(a0 a1 a2 a3:V)(a4 a5 a6:Option V)(σ:Sto)(j:Nat):Loc->Sto->Prop
 |mk {v1 v2 v3:Option V} {τ:Sto}:σ.Sublist τ->HmI a0 a1 a2 a3 a4 a5 a6 σ j [some a0,some a1,some a2,some a3,a4,a5,a6,v1,v2,v3] τ
noncomputable def inB(p:Int×Int)(X:V):Bool:=match X with
 | .int m=>decide (p.1<=m)&&decide (m<=p.2)
 |_=>false
theorem z9X{l:List Int}{p:Int×Int}:((l.map V.int).filter (inB p)).map id=(l.filter λm=>decide (p.1<=m)&&decide (m<=p.2)).map V.int:=by
 rw[List.map_id,List.filter_map];rfl
theorem z94{mk:Int}(h:w∉ps.map (·.1)):y2d ps w mk=ps++[(w,mk)]:=by
 unfold y2d
 rw[if_neg]
 intro hb
 obtain⟨p,hp,e⟩:=List.any_eq_true.mp hb
 exact h (List.mem_map.mpr ⟨p,hp,of_decide_eq_true e⟩)
set_option tactic.hygienic true in
theorem z3n(H:G1 C)(g:Gd es wi)(f:Nat):∀{σ:Sto} {Q:V->Sto->Prop} {ps:List (Str×Int)} {x:V} {Px:Sto->Prop} {ga:Addr} {Z:V},Rw σ ro rv es->Has σ x (.list (wi.map z0g)) Px->At σ ga (dS (pkV ps))->PkB ps->PkIn es ps->Ho es wi f ps Z->Q (.bool true) σ->CW C (d+f+4) (.ref 357) [.ref ro,x,.ref ga,Z] σ Q:=by
 induction f with
 |zero=>intro σ Q ps x Px ga Z S hx hg pb pi h q;cases h
 |succ f ih=>
  intro σ Q ps x Px ga Z S hx hg pb pi h q
  cases h with
  | @mk _ _ w ss as a1 a2 a3 a4 a5 a6 a7 a8=>
  refine z08 ?_
  refine z0D (G1.kin (by assumption)) ["_law_rows_here","_law_wish_here","_law_granted_here","_law_thing","_law_left","_law_source_here","_law_stretch_here","_law_make","_law_branch","_law_beside"] [("isinstance",.bi "isinstance"),("tuple",.type "tuple"),("len",.bi "len"),("str",.type "str"),("list",.type "list"),("sorted",.bi "sorted"),("_law_source",.ref 352),("zip",.type "zip"),("bool",.type "bool"),("dict",.type "dict"),("_law_holds",.ref 357)] (by kernel_rfl) (vs4 λ_ _ _ _=>by kernel_rfl) rfl (z0a (z0h (by assumption)) (z0a (z0M (by assumption)) (z0a (z0Q (by assumption)) (z0a (z2G (by assumption)) (z0a (z0N (by assumption)) (z0a (z1O (by assumption)) (z0a (z43 (by assumption)) (z0a (y2E (by assumption)) (z0a (z2t (by assumption)) (z0a (z20 (by assumption)) (z0a (z1I (by assumption)) GL_nil))))))))))) ?_
  intro env hsc
  have q:∃τ,τ.Sublist σ/\Q (.bool true) τ:=⟨σ,.refl _,q⟩
  have hpn:((pkV ps).map (·.1)).Nodup:=by rw[z0L];exact pb.nd
  have hrn:((kvV rv).map (·.1)).Nodup:=by rw[z0t];exact S.rwn
  have hro:=S.rows
  refine z0e (z0o H) (z0n H) (z3i _ _) (by exact rfl) (by kernel_rfl) ?_
  intro F m0
  refine Leaf.mk (y0b (z0j ?_))
  refine z0z (by exact show(ssV ss).isEmpty=false by cases ss with|nil=>exact absurd rfl a3|cons=>rfl) ?_
  refine Leaf.mk ⟨tyD hro,?_⟩
  intro b ob hfb
  have hsu:σ.Sublist ((b,ob,AO.dict [])::σ):=List.sublist_cons_self _ _
  have hbd:At ((b,ob,AO.dict [])::σ) b (.dict []):=At.hd
  generalize (b,ob,AO.dict [])::σ=τ at hsu hbd⊢
  have hm:∀p∈σ,p∈τ:=λp h=>hsu.subset h
  have hma:∀a x,At σ a x->At τ a x:=λa x h=>by obtain⟨o,h⟩:=h;exact⟨o,hm _ h⟩
  have q:∃τ',τ'.Sublist τ/\Q (.bool true) τ':=by obtain⟨τ',s,q⟩:=q;exact⟨τ',s.trans hsu,q⟩
  have S:Rw τ ro rv es:=S.frame λa _ x h=>hma a x h
  have hro:=hma _ _ hro
  have hx:=hx.mono hm
  have hg:=hma _ _ hg
  clear hm hma hsu hfb
  refine Leaf.mk (z6s H.ns hro hrn ?_)
  obtain⟨c,hc,hat⟩:=y2c S w hbd
  rw[hc]
  refine Leaf.mk (z2E H.ns hat (by rw[z0q];exact g.nd w) (Nat.lt_of_le_of_lt (by unfold esV;rw[List.length_map];exact g.l8 w) (by decide)) (.inl ?_))
  refine Leaf.mk (z5n ?_)
  refine Leaf.mk (z3N (.lst _) .none .none (.int _) (by decide) (Nat.le_trans (by rw[List.length_map,(z01 _).length_eq,z0q,List.length_map];exact g.l8 w) (by decide:8<=sizeLine)) (z45 ?_))
  rw[z8i,<-List.map_reverse,z0q,show(z1g ((es w).map (·.1))).reverse=lfF es w ((ss.map (·.2)).take 0) from(List.filter_eq_self.mpr λm _=>rfl).symm]
  clear hc hat c hbd hro hrn
  refine Leaf.mk (.mk (ssV ss) (λ_=>True) (HlI ro x ga w (.lst (ssV ss)) (.lst (as.map aV)) es (ss.map (·.2)) τ) (.lst _) .mk (λj X hX m τ' hI QB hQB hQR=> ?_) λm τ' hI=> ?_)
  ·rw[List.getElem?_map] at hX
   apply z0Z hX;rintro ⟨s,lo,hi⟩ hse
   refine hI.casesOn @λv5 v6=> ?_
   have hgl:(lfF es w ((ss.map (·.2)).take j)).length<=8:=Nat.le_trans z6h (g.l8 w)
   have hyes:QB .next [some (.ref ro),some x,some (.ref ga),some (.tup [.str w,.lst (ssV ss),.lst (as.map aV)]),some (.lst ((lfF es w ((ss.map (·.2)).take (j+1))).map V.int)),some (srcV s),some (.tup [.int lo,.int hi]),none,none,none] τ:=hQB _ _ trivial .mk
   rw[z1w (show(ss.map (·.2))[j]? =some (lo,hi) by rw[List.getElem?_map,hse];rfl),y2f] at hyes
   clear hQB hQR q ih a8 a6 a7
   refine Leaf.mk (fnc (z5a H S hx g.ok.len hg pb (a5 _ (List.mem_of_getElem? hse)) ?_))
   refine Leaf.mk ?_
   show AS C env ["_law_rows_here","_law_wish_here","_law_granted_here","_law_thing","_law_left","_law_source_here","_law_stretch_here","_law_make","_law_branch","_law_beside"] _ true _ (exec _ env) [some (.ref ro),some x,some (.ref ga),some (.tup [.str w,.lst (ssV ss),.lst (as.map aV)]),some (.lst ((lfF es w ((ss.map (·.2)).take j)).map V.int)),some (srcV s),some (.tup [.int lo,.int hi]),none,none,none] _ _
   refine z00 "_law_make" ["_law_stretch_here"] [] (z1C (by rw[hsc];kernel_rfl)) (by rw[hsc];kernel_rfl) GL_nil (.cons LkC.lk .nil) (z0J ?_)
   repeat' with_reducible first|refine z0k ?_
   refine⟨_,_,.lst _,z0A (n:=8) hgl (by decide),λenv' he=>z0X (f:=id) (t:=inB (lo,hi)) (z0m he (by decide+kernel)) trivial _ _ _ (λX hX K hK=> ?_) (λX hX _ K hK=> ?_) ?_⟩
   ·obtain⟨mk,_,rfl⟩:=List.mem_map.mp hX
    have hK:K (decide (lo<=mk)&&decide (mk<=hi)) _:=hK
    clear hyes
    repeat' with_reducible first|refine z0k ?_|refine z0O ?_|refine z0W ?_|refine y4e ?_|refine z8F ?_|refine z0j ?_|(refine⟨_,z1Y,λ_=> ?_,λ_=> ?_⟩<;>try (exfalso;rename_i hb;revert hb;simp[V.isNone];done))|refine z2w (by with_unfolding_all decide) (by with_unfolding_all decide) (by with_unfolding_all exact rfl) ?_
    all_goals (rename_i hb;rw[hb] at hK;exact hK)
   ·clear hyes
    repeat' with_reducible first|refine z0k ?_
    exact hK
   rw[List.nil_append,z9X]
   with_reducible refine z2B ?_
   exact hyes
  refine hI.casesOn @λv5 v6=> ?_
  rw[show(ssV ss).length=(ss.map (·.2)).length by rw[List.length_map,List.length_map],List.take_length,<-a6]
  have hal:(as.map (·.1)).length<=8:=by rw[a6];exact Nat.le_trans z6h (g.l8 w)
  have hmem:∀p∈as,∃ns,(p.1,ns)∈es w:=λp hp=>y3H (st:=ss.map (·.2)) (by rw[<-a6];exact List.mem_map.mpr ⟨p,hp,rfl⟩)
  clear hsc a3 a4 a5 a6
  have hal':as.length<=8:=by rw[List.length_map] at hal;exact hal
  generalize v5=a5'
  generalize v6=a6'
  refine z6R [some (.ref ro),some x,some (.ref ga),some (.tup [.str w,.lst (ssV ss),.lst (as.map aV)]),some (.lst ((as.map (·.1)).map V.int)),a5',a6',none,none,none] τ (λK hK _=> ?_) ?_
  ·clear q ih a8
   refine Leaf.mk (z0E (n:=as.length) (.lst _) (by rw[List.length_map,List.length_map]) (z0A hal (by decide)) ?_)
   refine Leaf.mk (z0E (n:=as.length) (.lst _) (List.length_map _) (z0A hal' (by decide)) ?_)
   refine z0z (by exact show(!decide ((as.length:Int)=(as.length:Int)))=false by rw[decide_eq_true rfl];rfl) ?_
   refine Leaf.mk (z5Q (.lst _) (z0j ?_))
   cases as with
   |nil=>exact hK
   |cons p as=>
    refine Leaf.mk (z29 H.ns hg hpn (z0j ?_))
    refine z0z (by exact show(vAt (pkV ps) w).isSome=false by rw[z26,z6a (a7 λe=>nomatch e)];rfl) ?_
    exact hK
  refine Leaf.mk ?_
  show AS C env ["_law_rows_here","_law_wish_here","_law_granted_here","_law_thing","_law_left","_law_source_here","_law_stretch_here","_law_make","_law_branch","_law_beside"] _ true _ (exec _ env) [some (.ref ro),some x,some (.ref ga),some (.tup [.str w,.lst (ssV ss),.lst (as.map aV)]),some (.lst ((as.map (·.1)).map V.int)),a5',a6',none,none,none] _ _
  refine z4L (HmI (.ref ro) x (.ref ga) (.tup [.str w,.lst (ssV ss),.lst (as.map aV)]) (some (.lst ((as.map (·.1)).map V.int))) a5' a6' τ) (y0E ?_)
  show AT C env _ _ true _ (eval _ env) [some (.ref ro),some x,some (.ref ga),some (.tup [.str w,.lst (ssV ss),.lst (as.map aV)]),some (.lst ((as.map (·.1)).map V.int)),a5',a6',none,none,none] _ _
  with_reducible refine z1k ?_
  refine⟨rfl,?_⟩
  show AL C env _ _ true _ (spliced (backTo _ (starEach _ env))) [some (.ref ro),some x,some (.ref ga),some (.tup [.str w,.lst (ssV ss),.lst (as.map aV)]),some (.lst ((as.map (·.1)).map V.int)),a5',a6',none,none,none] _ _
  repeat' with_reducible first|refine z0k ?_|refine z0O ?_|refine z0W ?_|refine z0s ?_|refine z0r ?_|refine z2w (by with_unfolding_all decide) (by with_unfolding_all decide) (by with_unfolding_all exact rfl) ?_
  refine⟨_,_,_,_,_,_,rfl,.lst _,.lst _,.mk (.refl _),λj X hX m τ' hI QB hQB hQR=> ?_,λm τ' hI=> ?_⟩
  ·obtain⟨Y1,Y2,hY1,hY2,rfl⟩:=z5T hX
   rw[List.getElem?_map,List.getElem?_map] at hY1
   rw[List.getElem?_map] at hY2
   cases hp:as[j]? with
   |none=>rw[hp] at hY2;cases hY2
   |some p=>
   rw[hp] at hY1 hY2
   cases hY1;cases hY2
   obtain⟨mk,Z⟩:=p
   have hpm:=List.mem_of_getElem? hp
   obtain⟨ns,hns⟩:=hmem _ hpm
   have hwn:w∉ps.map (·.1):=a7 λe=>by rw[e] at hpm;cases hpm
   refine hI.casesOn @λv7 v8 v9 τ' hsu=> ?_
   have hm:∀p∈τ,p∈τ':=λp h=>hsu.subset h
   have hma:∀a x,At τ a x->At τ' a x:=λa x h=>by obtain⟨o,h⟩:=h;exact⟨o,hm _ h⟩
   have S':Rw τ' ro rv es:=S.frame λa _ x h=>hma a x h
   have hx':=hx.mono hm
   have hg':=hma _ _ hg
   have hZ:=a8 _ hpm
   have hyes:∀v τ2,τ'.Sublist τ2->QB .next [some (.ref ro),some x,some (.ref ga),some (.tup [.str w,.lst (ssV ss),.lst (as.map aV)]),some (.lst ((as.map (·.1)).map V.int)),a5',a6',some (.int mk),some (.tup [.int mk,Z]),v] τ2:=λv τ2 s=>hQB _ _ ⟨trivial,trivial⟩ (.mk (hsu.trans s))
   clear hQB hQR hX q hsu hm hma S hx hg hmem a7 a8 hp hpm hI
   with_reducible refine y0D ?_
   with_reducible refine z0v PutC.put ?_
   with_reducible refine z0v PutC.put ?_
   refine z0e (z0o H) (z0n H) t__law_holds_1 rfl (by kernel_rfl) ?_
   intro F m0
   refine z0z (by exact show(!decide ((mk:Int)=mk))=false by rw[decide_eq_true rfl];rfl) ?_
   refine Leaf.mk (z9Q H.ns hg' hpn (z0A pb.len (by decide)) λba oba hfb=> ?_)
   refine Leaf.mk (z8j hpn (z0A pb.len (by decide)) λo'=> ?_)
   rw[y3z,z94 hwn]
   refine Leaf.mk (fnc (ih (S'.frame λa _ x ⟨o,h⟩=>⟨o,.tail _ h⟩) (hx'.mono λp h=> .tail _ h) At.hd (PkB.snoc g pb pi hwn hns) (pi.snoc hns) hZ ?_))
   exact hyes _ _ (.cons _ (.refl _))
  ·refine hI.casesOn @λv7 v8 v9 τ' hsu=> ?_
   obtain⟨τ1,s1,q⟩:=q
   exact⟨τ1,s1.trans hsu,q⟩
end
end
section
section
variable {C:Cx} [HM C] [NF C] {d:Nat} {σ:Sto} {Q:V->Sto->Prop} {ro:Addr} {rv:List (Str×Addr)} {es:Str->List (Int×List z0c)} {wi:List z0c} {r:List (Str×Int)} {w:Str} {ys:List V}
noncomputable def t__law_against_1:TC:=⟨[.loc 8,.isi .tup,.tvalc,.not,.mop .Or [.loc 8,.len,.psh (.int 2),.tcmpc .NotEq,.mop .Or [.loc 8,.subT 0,.isi .bool,.tvalc,.mop .Or [.loc 8,.subT 0,.loc 9,.tcmpc .NotEq,.mop .Or [.psh (.bool false)]]]],.ife [.psh (.bool false),.ret] [],.loc 2,.psh .none,.loc 4,.psh .none,.slc,.sub,.loc 5,.loc 9,.tup 2,.lst 1,.binc .Add,.call (.type "dict") 1,.asg 10,.loc 0,.loc 1,.loc 10,.loc 8,.subT 1,.call (.ref 357) 4,.tvalc,.not,.ife [.psh (.bool false),.ret] []],[],[]⟩
--t__law_against_1 0
noncomputable def z2K(r1:Stmt)(r2:Stmt):TC:=⟨[.loc 3,.isi .lst,.tvalc,.not,.mop .Or [.loc 3,.len,.loc 2,.len,.tcmpc .NotEq,.mop .Or [.psh (.bool false)]],.ife [.psh (.bool false),.ret] [],.loc 2,.len,.forR 4 [.loc 2,.loc 4,.sub,.asg2 5 6,.rawS r1,.loc 3,.loc 4,.sub,.isi .lst,.tvalc,.not,.mop .Or [.loc 3,.loc 4,.sub,.len,.loc 7,.len,.tcmpc .NotEq,.mop .Or [.psh (.bool false)]],.ife [.psh (.bool false),.ret] [],.rawS r2],.psh (.bool true),.ret],[.inl r1,.inl r2],[([1,0,1],none),([1,0,3],none)]⟩
--z2K 2
noncomputable def z2u(r1:Expr):TC:=⟨[.loc 2,.isi .tup,.tvalc,.not,.mop .Or [.loc 2,.len,.psh (.int 2),.tcmpc .Lt,.mop .Or [.loc 2,.subT 0,.isi .str,.tvalc,.not,.mop .Or [.psh (.bool false)]]],.ife [.psh (.bool false),.ret] [],.loc 2,.subT 0,.psh (.str "none"),.tcmpc .Eq,.ife [.loc 2,.len,.psh (.int 2),.cmpc .Eq,.vop .And [.loc 0,.loc 1,.dic,.loc 2,.subT 1,.call (.ref 357) 4],.ret] [],.loc 2,.subT 0,.psh (.str "pick"),.tcmpc .NotEq,.mop .Or [.loc 2,.len,.psh (.int 3),.tcmpc .NotEq,.mop .Or [.loc 2,.subT 1,.isi .lst,.tvalc,.not,.mop .Or [.psh (.bool false)]]],.ife [.psh (.bool false),.ret] [],.loc 2,.subT 1,.forL 3 [.loc 3,.isi .tup,.tvalc,.not,.mop .Or [.loc 3,.len,.psh (.int 2),.tcmpc .NotEq,.mop .Or [.loc 3,.subT 1,.isi .bool,.tvalc,.mop .Or [.psh (.bool false)]]],.ife [.psh (.bool false),.ret] [],.loc 3,.subT 0,.loc 0,.tcmpc .NotIn,.mop .Or [.loc 3,.subT 1,.loc 0,.loc 3,.subT 0,.sub,.tcmpc .NotIn,.mop .Or [.psh (.bool false)]],.ife [.psh (.bool false),.ret] []],.loc 2,.subT 1,.call (.type "dict") 1,.asg 4,.loc 4,.len,.loc 2,.subT 1,.len,.tcmpc .NotEq,.mop .Or [.loc 0,.loc 1,.loc 4,.call (.ref 331) 3,.tvalc,.not,.mop .Or [.psh (.bool false)]],.ife [.psh (.bool false),.ret] [],.raw r1,.loc 0,.loc 1,.loc 4,.call (.ref 324) 3,.tcmpc .NotEq,.ife [.psh (.bool false),.ret] [],.loc 0,.loc 1,.loc 2,.subT 1,.loc 2,.subT 2,.call (.ref 362) 4,.ret],[.inr r1],[([6],some [0])]⟩
--z2u 1
theorem Ags.nth{ps:List (Str×Int)}{mk:Int}(h:Ags es wi ps r ys):∀{k:Nat},r[k]? =some (w,mk)->∃as:List (Int×V),ys[k]? =some (.lst (as.map aV))/\as.map (·.1)=(z07 es w).filter (λm=>decide (mk<m))/\w∉(ps++r.take k).map (·.1)/\∀p∈as,Ho es wi 13 (ps++r.take k++[(w,p.1)]) p.2:=by
 induction h with
 |nil=>intro k h;cases h
 | @cons ps w' mk' as r ys a b c _ ih=>
  intro k h
  cases k with
  |zero=>
   cases h
   exact⟨as,rfl,a,by rw[List.take_zero,List.append_nil];exact b,by rw[List.take_zero,List.append_nil];exact c⟩
  |succ k=>
   obtain⟨as',h1,h2,h3,h4⟩:=ih h
   rw[List.append_assoc] at h3 h4
   exact⟨as',h1,h2,h3,h4⟩
noncomputable def gtB(mk:Int)(X:V):Bool:=match X with
 | .int m=>decide (mk<m)
 |_=>false
theorem y1Q{l:List Int}{mk:Int}:((l.map V.int).filter (gtB mk)).map id=(l.filter λm=>decide (mk<m)).map V.int:=by
 rw[List.map_id,List.filter_map];rfl
inductive AgJ(a0 a1 a2 a3:V)(σ:Sto)(j:Nat):Loc->Sto->Prop
 |mk {v4 v5 v6 v7 v8 v9 v10:Option V} {τ:Sto}:σ.Sublist τ->AgJ a0 a1 a2 a3 σ j [some a0,some a1,some a2,some a3,v4,v5,v6,v7,v8,v9,v10] τ
inductive AgK(a0 a1 a2 a3 a4 a5 a6 a7:V)(σ:Sto)(j:Nat):Loc->Sto->Prop
 |mk {v8 v9 v10:Option V} {τ:Sto}:σ.Sublist τ->AgK a0 a1 a2 a3 a4 a5 a6 a7 σ j [some a0,some a1,some a2,some a3,some a4,some a5,some a6,some a7,v8,v9,v10] τ
theorem z4J(H:G1 C)(g:Gd es wi)(S:Rw σ ro rv es){x:V}{Px:Sto->Prop}(hx:Has σ x (.list (wi.map z0g)) Px)(pb:PkB r)(pi:PkIn es r)(ha:Ags es wi [] r ys)(q:Q (.bool true) σ):CW C (d+18) (.ref 362) [.ref ro,x,.lst (r.map prV),.lst ys] σ Q:=by
 have hyl:ys.length=r.length:=(ha.dn (σ:=σ) g.l8).1
 have h12:=pb.len
 have hrn:((kvV rv).map (·.1)).Nodup:=by rw[z0t];exact S.rwn
 have hrl:(r.map prV).length<=sizeLine:=z0A h12 (by decide)
 have hyz:ys.length<=sizeLine:=by rw[hyl];exact Nat.le_trans h12 (by decide)
 refine z08 ?_
 refine z0D (G1.kin (by assumption)) ["_law_rows_here","_law_wish_here","_law_pairs","_law_against_here","_law_k","_law_ware","_law_make","_law_newer_makes","_law_one","_law_due","_law_granted_here"] [("isinstance",.bi "isinstance"),("list",.type "list"),("len",.bi "len"),("range",.type "range"),("sorted",.bi "sorted"),("zip",.type "zip"),("tuple",.type "tuple"),("bool",.type "bool"),("dict",.type "dict"),("_law_holds",.ref 357)] (by kernel_rfl) (vs4 λ_ _ _ _=>by kernel_rfl) rfl (z0a (z0h (by assumption)) (z0a (z0N (by assumption)) (z0a (z0Q (by assumption)) (z0a (z2i (by assumption)) (z0a (z1O (by assumption)) (z0a (y2E (by assumption)) (z0a (z0M (by assumption)) (z0a (z2t (by assumption)) (z0a (z20 (by assumption)) (z0a (z1I (by assumption)) GL_nil)))))))))) ?_
 intro env hsc
 refine z0e (z0o H) (z0n H) (z2K _ _) (by exact rfl) (by kernel_rfl) ?_
 intro F m0
 refine Leaf.mk (z0E (n:=r.length) (.lst _) hyl hyz ?_)
 refine Leaf.mk (z0E (n:=r.length) (.lst _) (List.length_map _) hrl ?_)
 refine z0z (by exact show(!decide ((r.length:Int)=(r.length:Int)))=false by rw[decide_eq_true rfl];rfl) ?_
 refine Leaf.mk (z0E (n:=r.length) (.lst _) (List.length_map _) hrl ?_)
 refine Leaf.mk (.mk r.length (AgJ (.ref ro) x (.lst (r.map prV)) (.lst ys) σ) rfl (Nat.le_trans h12 (by decide)) (.mk (.refl _)) (λk hk m τ hI QB hQB hQR=> ?_) λm τ hI=> ?_)
 ·obtain⟨⟨w,mk⟩,hpe⟩:∃p,r[k]? =some p:=⟨_,List.getElem?_eq_getElem hk⟩
  have hpm:=List.mem_of_getElem? hpe
  obtain⟨as,hye,hasM,hwn,hHo⟩:=ha.nth hpe
  rw[List.nil_append] at hwn hHo
  obtain⟨ns,hns⟩:=pi _ hpm
  refine hI.casesOn @λv4 v5 v6 v7 v8 v9 v10 τ hsu=> ?_
  have hm:∀p∈σ,p∈τ:=λp h=>hsu.subset h
  have hma:∀a x,At σ a x->At τ a x:=λa x h=>by obtain⟨o,h⟩:=h;exact⟨o,hm _ h⟩
  have S':Rw τ ro rv es:=S.frame λa _ x h=>hma a x h
  have hx':=hx.mono hm
  obtain⟨b,_,hrb,hat⟩:=S'.at (S'.inRv hns)
  have hk1:k<1000:=Nat.lt_of_lt_of_le hk (Nat.le_trans h12 (by decide))
  have hal:as.length<=8:=by
   have:=congrArg List.length hasM
   rw[List.length_map] at this
   rw[this];exact Nat.le_trans (List.length_filter_le _ _) (by rw[desM_len];exact g.l8 w)
  have hmem:∀p∈as,∃ns,(p.1,ns)∈es w:=λp hp=>z3C (List.mem_filter.mp (show p.1∈(z07 es w).filter λm=>decide (mk<m) by rw[<-hasM];exact List.mem_map.mpr ⟨p,hp,rfl⟩)).1
  have hend:∀v8 v9 v10 τ2,τ.Sublist τ2->QB .next [some (.ref ro),some x,some (.lst (r.map prV)),some (.lst ys),some (.int (k:Int)),some (.str w),some (.int mk),some (.lst ((as.map (·.1)).map V.int)),v8,v9,v10] τ2:=λv8 v9 v10 τ2 s=>hQB _ _ (.mk (hsu.trans s))
  clear hQB hQR q ha hI hsu hm hma S hx
  refine Leaf.mk (z0U (X:= .tup [.str w,.int mk]) (.lst _) hk1 (z1b hpe) ?_)
  refine Leaf.mk ?_
  show AS C env ["_law_rows_here","_law_wish_here","_law_pairs","_law_against_here","_law_k","_law_ware","_law_make","_law_newer_makes","_law_one","_law_due","_law_granted_here"] _ true _ (exec _ env) [some (.ref ro),some x,some (.lst (r.map prV)),some (.lst ys),some (.int (k:Int)),some (.str w),some (.int mk),v7,v8,v9,v10] _ _
  refine z00 "_law_one" ["_law_make"] [] (z1C (by rw[hsc];kernel_rfl)) (by rw[hsc];kernel_rfl) GL_nil (.cons LkC.lk .nil) (z0J ?_)
  repeat' with_reducible first|refine z0k ?_|refine z1k ?_|refine z0I ?_|refine z0W ?_|refine z0s ?_|refine z0r ?_|refine⟨z1d,?_⟩|refine z1F S'.rows hrn hrb ?_|fail
  refine z2E H.ns hat (by rw[z0q];exact g.nd w) (Nat.lt_of_le_of_lt (by unfold esV;rw[List.length_map];exact g.l8 w) (by decide)) (.inl ?_)
  repeat' with_reducible first|refine z3s ?_|refine z2h ?_|refine z2f ?_|refine z6O ?_|refine z0O ?_|refine z5n ?_|fail
  refine z3N (.lst _) .none .none (.int _) (by decide) (Nat.le_trans (by rw[List.length_map,(z01 _).length_eq,z0q,List.length_map];exact g.l8 w) (by decide:8<=sizeLine)) (z45 ?_)
  rw[z8i,<-List.map_reverse,z0q]
  refine⟨_,_,.lst _,z0A (l:=z07 es w) (by rw[desM_len];exact g.l8 w) (by decide),λenv' he=>z0X (f:=id) (t:=gtB mk) (z0m he (by decide+kernel)) trivial _ _ _ (λX hX K hK=> ?_) (λX hX _ K hK=> ?_) ?_⟩
  ·obtain⟨m2,_,rfl⟩:=List.mem_map.mp hX
   clear hend
   repeat' with_reducible first|refine z0k ?_|refine z1x ?_|refine y3Z ?_|fail
   exact z0j hK
  ·with_reducible refine z0k ?_
   exact hK
  rw[List.nil_append,y1Q,show((z1g ((es w).map (·.1))).reverse.filter λm=>decide (mk<m))=as.map (·.1) from hasM.symm]
  with_reducible refine z2B ?_
  refine Leaf.mk (z0U (.lst _) hk1 hye ?_)
  refine Leaf.mk (z0U (.lst _) hk1 hye ?_)
  refine Leaf.mk (z0E (n:=as.length) (.lst _) (List.length_map _) (z0A hal (by decide)) ?_)
  refine Leaf.mk (z0E (n:=as.length) (.lst _) (by rw[List.length_map,List.length_map]) (z0A (l:=as.map (·.1)) (by rw[List.length_map];exact hal) (by decide)) ?_)
  refine z0z (by exact show(!decide ((as.length:Int)=(as.length:Int)))=false by rw[decide_eq_true rfl];rfl) ?_
  refine Leaf.mk ?_
  show AS C env ["_law_rows_here","_law_wish_here","_law_pairs","_law_against_here","_law_k","_law_ware","_law_make","_law_newer_makes","_law_one","_law_due","_law_granted_here"] _ true _ (exec _ env) [some (.ref ro),some x,some (.lst (r.map prV)),some (.lst ys),some (.int (k:Int)),some (.str w),some (.int mk),some (.lst ((as.map (·.1)).map V.int)),v8,v9,v10] _ _
  refine z4L (AgK (.ref ro) x (.lst (r.map prV)) (.lst ys) (.int (k:Int)) (.str w) (.int mk) (.lst ((as.map (·.1)).map V.int)) τ) (y0E ?_)
  show AT C env _ _ true _ (eval _ env) [some (.ref ro),some x,some (.lst (r.map prV)),some (.lst ys),some (.int (k:Int)),some (.str w),some (.int mk),some (.lst ((as.map (·.1)).map V.int)),v8,v9,v10] _ _
  with_reducible refine z1k ?_
  refine⟨rfl,?_⟩
  show AL C env _ _ true _ (spliced (backTo _ (starEach _ env))) [some (.ref ro),some x,some (.lst (r.map prV)),some (.lst ys),some (.int (k:Int)),some (.str w),some (.int mk),some (.lst ((as.map (·.1)).map V.int)),v8,v9,v10] _ _
  repeat' with_reducible first|refine z0k ?_|refine z0W ?_|refine z0s ?_|refine z0r ?_|refine z0U (.lst _) hk1 hye ?_|fail
  refine⟨_,_,_,_,_,_,rfl,.lst _,.lst _,.mk (.refl _),λj X hX m τ' hI QB2 hQB2 _=> ?_,λm τ' hI=> ?_⟩
  ·obtain⟨Y1,Y2,hY1,hY2,rfl⟩:=z5T hX
   rw[List.getElem?_map] at hY1
   rw[List.getElem?_map,List.getElem?_map] at hY2
   cases hp:as[j]? with
   |none=>rw[hp] at hY2;cases hY2
   |some p=>
   rw[hp] at hY1 hY2
   cases hY1;cases hY2
   obtain⟨due,Z⟩:=p
   have hpm2:=List.mem_of_getElem? hp
   obtain⟨ns2,hns2⟩:=hmem _ hpm2
   refine hI.casesOn @λv8 v9 v10 τ' hsu=> ?_
   have hm:∀p∈τ,p∈τ':=λp h=>hsu.subset h
   have hma:∀a x,At τ a x->At τ' a x:=λa x h=>by obtain⟨o,h⟩:=h;exact⟨o,hm _ h⟩
   have S2:Rw τ' ro rv es:=S'.frame λa _ x h=>hma a x h
   have hx2:=hx'.mono hm
   have hZ:=hHo _ hpm2
   have pbk:PkB (r.take k):=pb.sub (List.take_sublist _ _)
   have pik:PkIn es (r.take k):=λp hp=>pi p (List.mem_of_mem_take hp)
   have pb2:=PkB.snoc g pbk pik hwn hns2
   have hyes:∀v τ2,τ'.Sublist τ2->QB2 .next [some (.ref ro),some x,some (.lst (r.map prV)),some (.lst ys),some (.int (k:Int)),some (.str w),some (.int mk),some (.lst ((as.map (·.1)).map V.int)),some (.tup [.int due,Z]),some (.int due),v] τ2:=λv τ2 s=>hQB2 _ _ ⟨trivial,trivial⟩ (.mk (hsu.trans s))
   clear hQB2 hX hsu hm hma S' hx' hmem hHo hp hpm2 hI hend
   with_reducible refine y0D ?_
   with_reducible refine z0v PutC.put ?_
   with_reducible refine z0v PutC.put ?_
   refine z0e (z0o H) (z0n H) t__law_against_1 rfl (by kernel_rfl) ?_
   intro F m0
   refine z0z (by exact show(!decide ((due:Int)=due))=false by rw[decide_eq_true rfl];rfl) ?_
   refine Leaf.mk (z3N (.lst _) .none (.int _) .none (λe=>nomatch e) hrl (z45 ?_))
   rw[y0v _ (by rw[List.length_map];exact Nat.le_of_lt hk),<-List.map_take]
   refine Leaf.mk (z28 (.lst _) (.lst _) (z0x (by rw[List.length_map];exact Nat.le_trans (Nat.succ_le_succ pbk.len) (by decide))) (z45 ?_))
   rw[show(r.take k).map prV++[V.tup [.str w,.int due]]=(r.take k++[(w,due)]).map prV by rw[List.map_append];rfl]
   refine Leaf.mk (z2s (.lst _) pb2 λga oga hfg=> ?_)
   refine Leaf.mk (fnc (z3n (d:=d) H g 13 (S2.frame λa _ x ⟨o,h⟩=>⟨o,.tail _ h⟩) (hx2.mono λp h=> .tail _ h) At.hd pb2 (pik.snoc hns2) hZ ?_))
   exact hyes _ _ (.cons _ (.refl _))
  ·refine hI.casesOn @λv8 v9 v10 τ' hsu=> ?_
   exact hend _ _ _ _ hsu
 ·refine hI.casesOn @λv4 v5 v6 v7 v8 v9 v10 τ hsu=> ?_
  exact⟨σ,hsu,q⟩
inductive ToI(a0 a1 a2:V)(σ:Sto)(j:Nat):Loc->Sto->Prop
 |mk {v3 v4:Option V}:ToI a0 a1 a2 σ j [some a0,some a1,some a2,v3,v4] σ
theorem tg_no:∃t:Str,"none"=t/\(t==("none":Str))=true:=⟨_,rfl,by decide+kernel⟩
theorem tg_pk:∃t:Str,"pick"=t/\(t==("none":Str))=false/\(!(t==("pick":Str)))=false:=⟨_,rfl,by decide+kernel,by decide+kernel⟩
theorem z2v(H:G1 C)(g:Gd es wi)(S:Rw σ ro rv es){x t:V}{Px:Sto->Prop}(hx:Has σ x (.list (wi.map z0g)) Px)(ht:Told es wi t)(q:Q (.bool true) σ):CW C (d+19) (.ref 367) [.ref ro,x,t] σ Q:=by
 refine z08 ?_
 cases ht with
 | @none Z h=>
  obtain⟨t,et,e1⟩:=tg_no
  rw[et]
  refine z0D (G1.kin (by assumption)) ["_law_rows_here","_law_wish_here","_law_found","_law_pair","_law_pick"] [("isinstance",.bi "isinstance"),("tuple",.type "tuple"),("len",.bi "len"),("str",.type "str"),("_law_holds",.ref 357),("list",.type "list"),("bool",.type "bool"),("dict",.type "dict"),("_law_meets",.ref 331),("_law_agenda",.ref 324),("_law_against",.ref 362)] (by kernel_rfl) (vs3 λ_ _ _=>by kernel_rfl) rfl (z0a (z0h (by assumption)) (z0a (z0M (by assumption)) (z0a (z0Q (by assumption)) (z0a (z2G (by assumption)) (z0a (z1I (by assumption)) (z0a (z0N (by assumption)) (z0a (z2t (by assumption)) (z0a (z20 (by assumption)) (z0a (z3y (by assumption)) (z0a (z1X (by assumption)) (z0a (z2D (by assumption)) GL_nil))))))))))) ?_
  intro env hsc
  clear hsc
  refine z0e (z0o H) (z0n H) (z2u _) (by exact rfl) (by kernel_rfl) ?_
  intro F m0
  refine z18 (by with_reducible assumption) ?_
  intro b ob hfb
  refine Leaf.mk (fnc (z3n (d:=d+1) H g 13 (ps:=[]) (S.frame λa _ x ⟨o,h⟩=>⟨o,.tail _ h⟩) (hx.mono λp h=> .tail _ h) At.hd PkB.nil (λ_ h=>nomatch h) h ?_))
  exact⟨σ,List.sublist_cons_self _ _,q⟩
 | @pick r ys pb pi hag hme ha=>
  have h12:=pb.len
  have hrn:((kvV rv).map (·.1)).Nodup:=by rw[z0t];exact S.rwn
  have hrl:(r.map prV).length<=sizeLine:=z0A h12 (by decide)
  have hpn:((pkV r).map (·.1)).Nodup:=by rw[z0L];exact pb.nd
  have hw:∀w∈r.map (·.1),Ware w:=λw hw=>by
   apply z0l hw;intro p hp
   exact(pb.ok p hp).1
  obtain⟨N,R,hN,hB,hRw,hRl⟩:=g.ag r pb pi
  obtain⟨N0,hB0⟩:=hag
  obtain rfl:=hB.det hB0
  obtain⟨t,et,e1,e2⟩:=tg_pk
  rw[et]
  refine z0D (G1.kin (by assumption)) ["_law_rows_here","_law_wish_here","_law_found","_law_pair","_law_pick"] [("isinstance",.bi "isinstance"),("tuple",.type "tuple"),("len",.bi "len"),("str",.type "str"),("_law_holds",.ref 357),("list",.type "list"),("bool",.type "bool"),("dict",.type "dict"),("_law_meets",.ref 331),("_law_agenda",.ref 324),("_law_against",.ref 362)] (by kernel_rfl) (vs3 λ_ _ _=>by kernel_rfl) rfl (z0a (z0h (by assumption)) (z0a (z0M (by assumption)) (z0a (z0Q (by assumption)) (z0a (z2G (by assumption)) (z0a (z1I (by assumption)) (z0a (z0N (by assumption)) (z0a (z2t (by assumption)) (z0a (z20 (by assumption)) (z0a (z3y (by assumption)) (z0a (z1X (by assumption)) (z0a (z2D (by assumption)) GL_nil))))))))))) ?_
  intro env hsc
  refine z0e (z0o H) (z0n H) (z2u _) (by exact rfl) (by kernel_rfl) ?_
  intro F m0
  refine z0z (by with_reducible assumption) ?_
  refine z0z (by with_reducible assumption) ?_
  refine Leaf.mk (.mk _ _ (ToI (.ref ro) x (.tup [.str t,.lst (r.map prV),.lst ys]) σ) (.lst _) .mk (λj X hX m τ hI QB hQB _=> ?_) λm τ hI=> ?_)
  ·rw[List.getElem?_map] at hX
   apply z0Z hX;rintro ⟨w,mk⟩ hpe
   obtain⟨ns,hns⟩:=pi _ (List.mem_of_getElem? hpe)
   obtain⟨b,_,hrb,hat⟩:=S.at (S.inRv hns)
   have hen:((esV (es w)).map (·.1)).Nodup:=by rw[z0q];exact g.nd w
   have hev:vAt (esV (es w)) mk=some (.lst (ns.map z0g)):=z0B hen (List.mem_map.mpr ⟨_,hns,rfl⟩)
   refine hI.casesOn @λv3 v4=> ?_
   refine Leaf.mk (z50 H.ns S.rows hrn (z0j ?_))
   rw[hrb]
   refine Leaf.mk (z1F S.rows hrn hrb ?_)
   refine Leaf.mk (y0U H.ns hat hen (z0j ?_))
   rw[hev]
   exact hQB _ _ trivial .mk
  refine hI.casesOn @λv3 v4=> ?_
  refine Leaf.mk (z2s (.lst _) pb λpa opa hfp=> ?_)
  have S':Rw ((pa,opa,dS (pkV r))::σ) ro rv es:=S.frame λa _ x ⟨o,h⟩=>⟨o,.tail _ h⟩
  have hx':=hx.mono (τ:=(pa,opa,dS (pkV r))::σ) λp h=> .tail _ h
  refine Leaf.mk (z2O H.ns At.hd hpn (z0A h12 (by decide)) ?_)
  refine Leaf.mk (z0E (n:=(pkV r).length) (.lst _) (by rw[List.length_map,List.length_map]) hrl ?_)
  refine z0z (by exact show(!decide (((pkV r).length:Int)=((pkV r).length:Int)))=false by rw[decide_eq_true rfl];rfl) ?_
  refine Leaf.mk (fnc (z6x H S' hx' g.ok At.hd pb pi hN hB hRw (by rw[List.length_map];exact Nat.le_trans h12 (by decide)) ?_))
  rw[hme]
  refine Leaf.mk ?_
  show AT C env ["_law_rows_here","_law_wish_here","_law_found","_law_pair","_law_pick"] _ true _ (eval _ env) [some (.ref ro),some x,some (.tup [.str t,.lst (r.map prV),.lst ys]),v3,some (.ref pa)] _ _
  refine z0P "_law_pair" [] [] (by rw[hsc];kernel_rfl) GL_nil .nil (z0J ?_)
  repeat' with_reducible first|refine z0k ?_|refine z0O ?_|refine z0W ?_|refine z2w (by with_unfolding_all decide) (by with_unfolding_all decide) (by with_unfolding_all exact rfl) ?_|fail
  refine⟨_,_,.lst _,hrl,λenv' he=>z1Q (f:=prV) (g:=λp=>V.str p.1) (z0m he (by decide+kernel)) trivial _ _ _ (λp hp K hK=> ?_) ?_⟩
  ·clear q
   unfold prV
   repeat' with_reducible first|refine z0k ?_|refine z0O ?_|refine z0W ?_|refine z2w (by with_unfolding_all decide) (by with_unfolding_all decide) (by with_unfolding_all exact rfl) ?_|fail
   exact hK
  rw[List.nil_append,show r.map (λp=>V.str p.1)=(r.map (·.1)).map V.str by rw[List.map_map];rfl]
  refine Leaf.mk (fnc (z2W H S' hx' g.ok At.hd pb pi hN hB ?_))
  refine Leaf.mk (z9F hw hw (z0j ?_))
  refine z0z (by exact show(!decide (r.map (·.1)=r.map (·.1)))=false by rw[decide_eq_true rfl];rfl) ?_
  refine Leaf.mk (fnc (z4J (d:=d) H g S' hx' pb pi ha ?_))
  exact⟨σ,List.sublist_cons_self _ _,q⟩
end
end
section
section
variable {C:Cx} [HM C] [NF C] {d:Nat} {σ:Sto} {Q:V->Sto->Prop} {i k ro:Addr} {kv rv:List (Str×Addr)} {er es:Str->List (Int×List z0c)}
structure RS(σ:Sto)(i k ro:Addr)(kv rv:List (Str×Addr))(er es:Str->List (Int×List z0c)):Prop where
 rw_:Rw σ ro rv er
 sh:Shp σ i k kv es
 sp:∀a∈ro::rv.map (·.2),a∉i::k::kv.map (·.2)
 kk:∀w∈kv.map (·.1),w∈rv.map (·.1)
theorem RS.frame{σ':Sto}(T:RS σ i k ro kv rv er es)(h1:∀a∈ro::rv.map (·.2),∀x,At σ a x->At σ' a x)(h2:∀a∈i::k::kv.map (·.2),∀x,At σ a x->At σ' a x):RS σ' i k ro kv rv er es:=
 ⟨T.rw_.frame h1,T.sh.frame h2,T.sp,T.kk⟩
theorem RS.cons(T:RS σ i k ro kv rv er es)(p:Addr×Obj×AO):RS (p::σ) i k ro kv rv er es:=T.frame (λ_ _ _ h=>h.cons _) λ_ _ _ h=>h.cons _
theorem RS.row(T:RS σ i k ro kv rv er es){σ':Sto}{w:Str}{b:Addr}{l:List (Int×List z0c)}(hb:(w,b)∈rv)(ok:EsOk w l)(U:UpdS σ σ' b (dI (esV l))):RS σ' i k ro kv rv (z1p er w l) es:=
 ⟨T.rw_.set hb ok U,T.sh.frame λa ha x hx=>U.at hx λe=>T.sp b (.tail _ (List.mem_map.mpr ⟨_,hb,rfl⟩)) (e▸ha),T.sp,T.kk⟩
theorem RS.shA(T:RS σ i k ro kv rv er es){σ':Sto}{w:Str}{a:Addr}{l:List (Int×List z0c)}(ha:(w,a)∈kv)(ok:EsOk w l)(U:UpdS σ σ' a (dI (esV l))):RS σ' i k ro kv rv er (z1p es w l):=
 ⟨T.rw_.frame λb hb x hx=>U.at hx λe=>T.sp b hb (e▸ .tail _ (.tail _ (List.mem_map.mpr ⟨_,ha,rfl⟩))),T.sh.set ha ok U,T.sp,T.kk⟩
theorem Rw.ats(S:Rw σ ro rv er){a:Addr}(h:a∈ro::rv.map (·.2)):∃x,At σ a x:=by
 rcases List.mem_cons.mp h with rfl|h
 ·exact⟨_,S.rows⟩
 ·apply z0l h;intro p hp
  exact⟨_,S.rin p hp⟩
theorem RS.shAdd(T:RS σ i k ro kv rv er es){σ':Sto}{w:Str}{b:Addr}{l:List (Int×List z0c)}(hno:w∉kv.map (·.1))(hwr:w∈rv.map (·.1))(hl:kv.length<12)(ok:EsOk w l)(hf:Fresh σ b)(h1:At σ' b (dI (esV l)))(h2:At σ' k (dS (kvV (kv++[(w,b)]))))(h3:∀p∈σ,p.1≠k->p∈σ'):
  RS σ' i k ro (kv++[(w,b)]) rv er (z1p es w l):=by
 refine⟨T.rw_.frame λa ha x ⟨o,hx⟩=>⟨o,h3 _ hx λe=>T.sp a ha (e▸ .tail _ (.head _))⟩,T.sh.add hno hl ok hf h1 h2 h3,λa ha hm=> ?_,λv hv=> ?_⟩
 ·have:a∈(i::k::kv.map (·.2))++[b]:=by simpa using hm
  rcases List.mem_append.mp this with h|h
  ·exact T.sp a ha h
  ·obtain⟨x,hx⟩:=T.rw_.ats ha
   exact hf.ne hx (List.mem_singleton.mp h)
 ·rw[List.map_append] at hv
  rcases List.mem_append.mp hv with h|h
  ·exact T.kk v h
  ·rw[List.mem_singleton.mp h];exact hwr
theorem RS.shDel(T:RS σ i k ro kv rv er es){σ₁ σ':Sto}{w:Str}{a:Addr}(ha:(w,a)∈kv)(U:UpdS σ σ₁ a (dI []))(U2:UpdS σ₁ σ' k (dS (kvV (kv.filter λp=>decide (p.1≠w))))):
  RS σ' i k ro (kv.filter λp=>decide (p.1≠w)) rv er (z1p es w []):=by
 refine⟨T.rw_.frame λb hb x hx=>U2.at (U.at hx λe=>T.sp b hb (e▸ .tail _ (.tail _ (List.mem_map.mpr ⟨_,ha,rfl⟩)))) λe=>T.sp b hb (e▸ .tail _ (.head _)),T.sh.del ha U U2,λb hb hm=>T.sp b hb ?_,λv hv=>T.kk v (((List.filter_sublist).map _).subset hv)⟩
 exact(((List.filter_sublist (l:=kv)).map (·.2)).cons_cons k).cons_cons i |>.subset hm
noncomputable def Kp(fp:List Addr)(σ σ':Sto):Prop:=∀p∈σ,p.1∉fp->p∈σ'
theorem Kp.refl{fp:List Addr}:Kp fp σ σ:=λp h _=>h
theorem Kp.upd{fp:List Addr}{τ τ':Sto}{a:Addr}{x:AO}(h:Kp fp σ τ)(ha:a∈fp)(U:UpdS τ τ' a x):Kp fp σ τ':=λp hp hn=>U.keep p (h p hp hn) λe=>hn (e▸ha)
theorem Kp.cons{fp:List Addr}{τ:Sto}(h:Kp fp σ τ)(p:Addr×Obj×AO):Kp fp σ (p::τ):=λp' hp hn=> .tail _ (h p' hp hn)
noncomputable def neV(es:Str->List (Int×List z0c)):V->Bool
 | .str w=> !(es w).isEmpty
 |_=>false
theorem z78(ws:List Str):(ws.map V.str).filter (neV es)=(ws.filter λw=> !(es w).isEmpty).map V.str:=by
 rw[List.filter_map];rfl
theorem y3I(H:G1 C)(T:RS σ i k ro kv rv er es){w:Str}{mk:Int}{ns:List z0c}{nl:Addr}(hw:Ware w)(h1:1<=mk)(h2:mk<=999)(hnl:At σ nl (.list (ns.map z0g)))(hns:NeedsOk w ns)(hok:EsOk w (es w))(hnew:mk∉(es w).map (·.1))
  (hl:(es w).length<8) (hwr:w∈rv.map (·.1)) (hroom:w∉kv.map (·.1)->kv.length<12)
  (q:∀σ' kv',RS σ' i k ro kv' rv er (z1p es w (es w++[(mk,ns)]))->(∀p∈kv',p∈kv∨Fresh σ p.2)->(∀v∈kv'.map (·.1),v≠w->v∈kv.map (·.1))->Kp (i::k::kv.map (·.2)) σ σ'->Q .none σ'):CW C (d+4) (.ref 241) [.ref i,.str w,.int mk,.ref nl] σ Q:=by
 have ok2:=hok.add hnew hl h1 h2 hns
 refine y2J H T.sh hw h1 h2 hnl hns hnew (by lia) (λh=>Nat.ne_of_lt (hroom h)) (λa ha σ' U=> ?_) λhno b σ' hf a1 a2 a3=> ?_
 ·exact q σ' kv (T.shA ha ok2 U) (λp h=> .inl h) (λv h _=>h) (Kp.refl.upd (.tail _ (.tail _ (List.mem_map.mpr ⟨_,ha,rfl⟩))) U)
 ·have e:es w=[]:=T.sh.out w hno
  rw[e] at q ok2
  refine q σ' _ (T.shAdd hno hwr (hroom hno) ok2 hf a1 a2 a3) (λp h=> ?_) (λv hv hne=> ?_) λp hp hn=>a3 p hp λe=>hn (e▸ .tail _ (.head _))
  ·rcases List.mem_append.mp h with h|h
   ·exact .inl h
   ·rw[List.mem_singleton.mp h];exact .inr hf
  ·rw[List.map_append] at hv
   rcases List.mem_append.mp hv with h|h
   ·exact h
   ·exact absurd (List.mem_singleton.mp h) hne
theorem Kp.trans{fp fp':List Addr}{τ τ':Sto}(h:Kp fp σ τ)(h':Kp fp' τ τ')(hs:∀a∈fp',a∈fp):Kp fp σ τ':=λp hp hn=>h' p (h p hp hn) λe=>hn (hs _ e)
noncomputable abbrev fpR(i k ro:Addr)(kv rv:List (Str×Addr)):List Addr:=(ro::rv.map (·.2))++(i::k::kv.map (·.2))
theorem y1M{kv1:List (Str×Addr)}(hsub:∀p∈kv1,p∈kv):∀a∈i::k::kv1.map (·.2),a∈fpR i k ro kv rv:=λa h=>by
 refine List.mem_append_right _ ?_
 rcases List.mem_cons.mp h with rfl|h
 ·exact .head _
 ·rcases List.mem_cons.mp h with rfl|h
  ·exact .tail _ (.head _)
  ·apply z0l h;intro p hp
   exact .tail _ (.tail _ (List.mem_map.mpr ⟨p,hsub p hp,rfl⟩))
noncomputable def z4a(r1:Stmt)(r2:Stmt):TC:=⟨[.loc 1,.call (.type "list") 1,.loc 2,.psh (.int 2),.binc .FloorDiv,.loc 1,.len,.binc .Mod,.sub,.asg 3,.loc 1,.loc 3,.sub,.call (.type "list") 1,.asg 4,.cut [.loc 2,.psh (.int 2),.binc .Mod,.psh (.int 0),.tcmpc .Eq,.mop .And [.loc 4,.lst 0,.tcmpc .NotEq,.mop .And [.psh (.bool true)]],.ife [.loc 4,.loc 2,.psh (.int 12),.binc .FloorDiv,.loc 4,.len,.binc .Mod,.sub,.asg 5,.loc 0,.mI 272 "take",.loc 3,.loc 5,.meth (.ref 248) 2,.pop,.loc 1,.loc 3,.sub,.mty "dict",.loc 5,.meth (.bi "dict.pop") 1,.pop,.rawS r1] []],.psh (.int 1),.loc 2,.psh (.int 12),.binc .FloorDiv,.psh (.int 999),.binc .Mod,.binc .Add,.asg 5,.loc 5,.loc 1,.loc 3,.sub,.tcmpc .NotIn,.mop .And [.loc 4,.len,.psh (.int 8),.tcmpc .Lt,.mop .And [.psh (.bool true)]],.ife [.rawS r2,.cut [.loc 4,.lst 0,.tcmpc .NotEq,.ife [.loc 1,.loc 3,.sub,.loc 4,.subT 0,.sub,.call (.type "list") 1,.asg 6] []],.loc 0,.mI 272 "put",.loc 3,.loc 5,.loc 6,.call (.type "list") 1,.meth (.ref 241) 3,.pop,.loc 6,.loc 1,.loc 3,.sub,.loc 5,.setI] []],[.inl r1,.inl r2],[([2,0,3],none),([4,0,0],none)]⟩
--z4a 2
theorem z8P{w:Str}{l:List (Int×List z0c)}:∀{ws:List Str},w∉ws->Pr (z1p es w l) ws []=Pr es ws []
 |[],_=>rfl
 |u::ws,h=>by
  rw[z09,z09,z8P λhm=>h (.tail _ hm),z0H (v:=u) λe=>h (by rw[e];exact .head _)]
theorem z75{w:Str}{l:List (Int×List z0c)}(hl:l.length<=(es w).length+1):∀{ws:List Str},ws.Nodup->Pr (z1p es w l) ws []<=2*Pr es ws []
 |[],_=>(by show 1<=2*1;decide)
 |u::ws,hn=>by
  obtain⟨h1,h2⟩:=List.nodup_cons.mp hn
  rw[z09,z09,if_neg List.not_mem_nil,if_neg List.not_mem_nil]
  by_cases e:u=w
  ·subst e
   rw[z0w,z8P h1,<-Nat.mul_assoc]
   exact Nat.mul_le_mul_right _ (by lia)
  ·rw[z0H e,Nat.mul_left_comm]
   exact Nat.mul_le_mul_left _ (z75 hl h2)
inductive DdP(σ:Sto)(i k ro:Addr)(kv rv:List (Str×Addr))(es:Str->List (Int×List z0c))(σ':Sto):Prop
 |mk {kv':List (Str×Addr)} {es':Str->List (Int×List z0c)}:RS σ' i k ro kv' rv es' es'->(∀w∈kv'.map (·.1),es' w≠[])->(∀p∈kv',p∈kv∨∀z∈σ,z.1∉fpR i k ro kv rv->z.1≠p.2)->Kp (fpR i k ro kv rv) σ σ'->Pr es' (rv.map (·.1)) []<=2*Pr es (rv.map (·.1)) []->DdP σ i k ro kv rv es σ'
theorem z4A{kv':List (Str×Addr)}{w:Str}{l:List (Int×List z0c)}(h:∀v∈kv.map (·.1),es v≠[])(hk:∀v∈kv'.map (·.1),v≠w->v∈kv.map (·.1))(hl:w∈kv'.map (·.1)->l≠[]):∀v∈kv'.map (·.1),z1p es w l v≠[]:=λv hv=>by
 by_cases e:v=w
 ·subst e;rw[z0w];exact hl hv
 ·rw[z0H e];exact h v (hk v hv e)
theorem RS.room(T:RS σ i k ro kv rv er es){w:Str}(hwr:w∈rv.map (·.1))(h:w∉kv.map (·.1)):kv.length<12:=by
 have h1:(kv.map (·.1)).length<=((rv.map (·.1)).erase w).length:=z3Q T.sh.kvn λx hx=>(List.mem_erase_of_ne λe:x=w=>h (e▸hx)).mpr (T.kk x hx)
 rw[List.length_erase_of_mem hwr,List.length_map,List.length_map] at h1
 have h2:=T.rw_.rl
 have h3:0<(rv.map (·.1)).length:=List.length_pos_of_mem hwr
 rw[List.length_map] at h3
 lia
theorem NeedsOk.nil{w:Str}:NeedsOk w []:=⟨by decide,(λ_ h=>nomatch h),(λ_ h=>nomatch h),List.nodup_nil⟩
theorem z7E(H:G1 C)(T:RS σ i k ro kv rv es es)(hkv:∀w∈kv.map (·.1),es w≠[])(hlo:0<rv.length){n:Int}(q:∀σ',DdP σ i k ro kv rv es σ'->Q .none σ'):CW C (d+5) (.ref 405) [.ref i,.ref ro,.int n] σ Q:=by
 refine z0D (G1.kin (by assumption)) ["_law_shop_here","_law_rows_here","_law_number","_law_ware","_law_makes","_law_make","_law_needs_here"] [("list",.type "list"),("len",.bi "len")] (by kernel_rfl) (vs3 λ_ _ _=>by kernel_rfl) rfl (z0a (z0N (by assumption)) (z0a (z0Q (by assumption)) GL_nil)) ?_
 intro env hsc
 clear hsc
 have S:=T.rw_
 have hrn:((kvV rv).map (·.1)).Nodup:=by rw[z0t];exact S.rwn
 have hro:=S.rows
 have hrl:(kvV rv).length<=12:=by rw[List.length_map];exact S.rl
 have hlo':0<(kvV rv).length:=by rw[List.length_map];exact hlo
 refine z0e (z0o H) (z0n H) (z4a _ _) (by exact rfl) (by kernel_rfl) ?_
 intro F m0
 refine Leaf.mk (z4D H.ns hro hrn (Nat.le_trans hrl (by decide)) (.inl ?_))
 refine Leaf.mk (z2O H.ns hro hrn (Nat.le_trans hrl (by decide)) ?_)
 refine z1U hlo' λkk hkk=> ?_
 obtain⟨⟨w,b⟩,hpe⟩:∃p,rv[kk]? =some p:=⟨_,List.getElem?_eq_getElem (by rw[List.length_map] at hkk;exact hkk)⟩
 have hb:=List.mem_of_getElem? hpe
 refine Leaf.mk (z0U (X:= .str w) (.lst _) (Nat.lt_of_lt_of_le hkk (Nat.le_trans hrl (by decide))) (by rw[List.getElem?_map,List.getElem?_map,hpe];rfl) ?_)
 have hwr:w∈rv.map (·.1):=List.mem_map.mpr ⟨_,hb,rfl⟩
 have hw:=S.wok _ hb
 have hok:=S.eok w
 have hrb:vAt (kvV rv) w=some (.ref b):=z0B hrn (List.mem_map.mpr ⟨_,hb,rfl⟩)
 have hat:=S.rin _ hb
 have hen:((esV (es w)).map (·.1)).Nodup:=by rw[z0q];exact hok.nd
 have h8:=hok.len
 have hez:(esV (es w)).length<=sizeLine:=z0A h8 (by decide)
 have hbf:b∈fpR i k ro kv rv:=List.mem_append_left _ (.tail _ (List.mem_map.mpr ⟨_,hb,rfl⟩))
 clear hpe hkk hlo hlo'
 refine Leaf.mk (z1F hro hrn hrb ?_)
 refine Leaf.mk (y1f H.ns hat hen hez (.inl ?_))
 rw[show(esV (es w)).map (λp=>V.int p.1)=((es w).map (·.1)).map V.int by rw[List.map_map,List.map_map];rfl]
 have hml:((es w).map (·.1)).length=(es w).length:=List.length_map _
 refine z6R [some (.ref i),some (.ref ro),some (.int n),some (.str w),some (.lst (((es w).map (·.1)).map V.int)),none,none] σ (λK hK hR=> ?_) ?_
 ·refine z02 (λ_=> ?_) λ_=>hK
  refine Leaf.mk (z5Q (.lst _) (z0j ?_))
  refine z02 (λhne=> ?_) λ_=>hK
  have hpos:0<(es w).length:=by
   cases e:es w with
   |nil=>rw[e] at hne;cases hne
   |cons _ _=>exact Nat.succ_pos _
  refine Leaf.mk (z0E (n:=(es w).length) (.lst _) (by rw[List.length_map,List.length_map]) (z0A (l:=(es w).map (·.1)) (by rw[hml];exact h8) (by decide)) ?_)
  refine z1U hpos λk2 hk2=> ?_
  obtain⟨⟨mk,ns⟩,he⟩:∃p,(es w)[k2]? =some p:=⟨_,List.getElem?_eq_getElem hk2⟩
  have hm:=List.mem_of_getElem? he
  have hmb:=hok.mb _ hm
  refine Leaf.mk (z0U (X:= .int mk) (.lst _) (Nat.lt_of_lt_of_le hk2 (Nat.le_trans h8 (by decide))) (by rw[List.getElem?_map,List.getElem?_map,he];rfl) ?_)
  obtain⟨a,ha⟩:∃a,(w,a)∈kv:=by
   by_cases h:w∈kv.map (·.1)
   ·obtain⟨⟨w',a⟩,h2,h3⟩:=List.mem_map.mp h
    exact⟨a,h3▸h2⟩
   ·rw[T.sh.out w h] at hm;cases hm
  have hafp:a∈fpR i k ro kv rv:=List.mem_append_right _ (.tail _ (.tail _ (List.mem_map.mpr ⟨_,ha,rfl⟩)))
  have ok1:EsOk w ((es w).filter λp=>decide (p.1≠mk)):=hok.filter _
  have hv:vAt (esV (es w)) mk=some (.lst (ns.map z0g)):=z0B hen (List.mem_map.mpr ⟨_,hm,rfl⟩)
  have hl1:((es w).filter λp=>decide (p.1≠mk)).length<=(es w).length+1:=Nat.le_succ_of_le (List.length_filter_le _ _)
  have fin:∀{τ1:Sto} {kv1:List (Str×Addr)} m,RS τ1 i k ro kv1 rv es (z1p es w ((es w).filter λp=>decide (p.1≠mk)))->(∀v∈kv1.map (·.1),z1p es w ((es w).filter λp=>decide (p.1≠mk)) v≠[])->(∀p∈kv1,p∈kv)->Kp (fpR i k ro kv rv) σ τ1->∀τ2,UpdS τ1 τ2 b (dI (z2n (esV (es w)) mk))->K (.ret .none) m τ2:=λ{τ1 kv1} m T1 hne1 hsub K1 τ2 U=>by
   rw[y2w] at U
   exact hR _ _ _ (λe=>nomatch e) (q _ (.mk (T1.row hb ok1 U) hne1 (λp hp=> .inl (hsub p hp)) (K1.upd hbf U) (z75 hl1 S.rwn)))
  obtain⟨dx,hin⟩:=T.sh.inst
  clear hK
  refine Leaf.mk (z0K hin (by decide+kernel) ?_)
  refine Leaf.mk (fnc (y2P H T.sh hw hmb.1 hmb.2 hm ha (λhne1 τ U=> ?_) (λe τ1 τ U U2=> ?_)))
  ·have T1:=T.shA ha ok1 U
   refine Leaf.mk (z1F T1.rw_.rows hrn hrb ?_)
   refine Leaf.mk ⟨tyD (T1.rw_.rin _ hb),?_⟩
   refine Leaf.mk (z6l (T1.rw_.rin _ hb) hen hez hv λτ2 U2=> ?_)
   refine Leaf.mk ?_
   show AS C env ["_law_shop_here","_law_rows_here","_law_number","_law_ware","_law_makes","_law_make","_law_needs_here"] _ true _ (exec _ env) [some (.ref i),some (.ref ro),some (.int n),some (.str w),some (.lst (((es w).map (·.1)).map V.int)),some (.int mk),none] _ _
   refine z5r ?_
   exact fin _ T1 (z4A hkv (λv hv _=>hv) λ_=>hne1) (λp h=>h) (Kp.refl.upd hafp U) τ2 U2
  ·have T1:=T.shDel ha U U2
   refine Leaf.mk (z1F T1.rw_.rows hrn hrb ?_)
   refine Leaf.mk ⟨tyD (T1.rw_.rin _ hb),?_⟩
   refine Leaf.mk (z6l (T1.rw_.rin _ hb) hen hez hv λτ2 U3=> ?_)
   refine Leaf.mk ?_
   show AS C env ["_law_shop_here","_law_rows_here","_law_number","_law_ware","_law_makes","_law_make","_law_needs_here"] _ true _ (exec _ env) [some (.ref i),some (.ref ro),some (.int n),some (.str w),some (.lst (((es w).map (·.1)).map V.int)),some (.int mk),none] _ _
   refine z5r ?_
   refine fin _ (by rw[e];exact T1) (z4A hkv (λv hv _=>((List.filter_sublist).map _).subset hv) λhm=> ?_) (λp h=>(List.mem_filter.mp h).1) ((Kp.refl.upd hafp U).upd (List.mem_append_right _ (.tail _ (.head _))) U2) τ2 U3
   obtain⟨p,hp,e⟩:=List.mem_map.mp hm
   exact absurd e (of_decide_eq_true (List.mem_filter.mp hp).2)
 have ot1:1<=1+(n.fdiv 12).fmod 999:=Int.le_add_of_nonneg_right (Int.fmod_nonneg_of_pos _ (by decide))
 have ot2:1+(n.fdiv 12).fmod 999<=999:=by have:=Int.fmod_lt_of_pos (n.fdiv 12) (show(0:Int)<999 by decide);lia
 have same:DdP σ i k ro kv rv es σ:= .mk T hkv (λp h=> .inl h) .refl (Nat.le_mul_of_pos_left _ (by decide))
 refine Leaf.mk (z1F hro hrn hrb ?_)
 refine Leaf.mk (y0U H.ns hat hen (z0j ?_))
 generalize 1+(n.fdiv 12).fmod 999=ot at ot1 ot2
 by_cases hm:ot∈(es w).map (·.1)
 ·obtain⟨p,hp,rfl⟩:=List.mem_map.mp hm
  refine z0z (by rw[z0B (X:= .lst (p.2.map z0g)) hen (List.mem_map.mpr ⟨p,hp,rfl⟩)];rfl) ?_
  exact q _ same
 refine z18 (by rw[z1E (by rw[z0q];exact hm)];rfl) ?_
 refine Leaf.mk (z0E (n:=(es w).length) (.lst _) (by rw[List.length_map,List.length_map]) (z0A (l:=(es w).map (·.1)) (by rw[hml];exact h8) (by decide)) ?_)
 refine z02 (λhl8=> ?_) λ_=>q _ same
 have hl8:(es w).length<8:=Int.ofNat_lt.mp (of_decide_eq_true hl8)
 refine Leaf.mk ?_
 show AS C env ["_law_shop_here","_law_rows_here","_law_number","_law_ware","_law_makes","_law_make","_law_needs_here"] _ true _ (exec _ env) [some (.ref i),some (.ref ro),some (.int n),some (.str w),some (.lst (((es w).map (·.1)).map V.int)),some (.int ot),none] _ _
 refine z14 (z3G (z0r ⟨Nat.zero_le _,?_⟩))
 with_reducible refine z2B ?_
 refine z39 (α:=List z0c) (λns=>NeedsOk w ns) (λns=>[some (.ref i),some (.ref ro),some (.int n),some (.str w),some (.lst (((es w).map (·.1)).map V.int)),some (.int ot),some (.lst (ns.map z0g))]) σ (λK hK _=> ?_) λns hns=> ?_
 ·clear q same
  refine Leaf.mk (z5Q (.lst _) (z0j ?_))
  cases e:es w with
  |nil=>rw[e] at hK;exact hK [] .nil
  |cons p l=>
   rw[e] at hok hen hat hK
   have hv:vAt (esV (p::l)) p.1=some (.lst (p.2.map z0g)):=z0B hen (.head _)
   refine Leaf.mk (z1F hro hrn hrb ?_)
   refine Leaf.mk (z3V (k:=0) (X:= .int p.1) (.lst _) (by decide) (by decide) rfl ?_)
   refine Leaf.mk (z8Z hat hen hv ?_)
   refine Leaf.mk (z1W (.lst _) (z0A (hok.nok p (.head _)).len (by decide)) (.inl ?_))
   exact hK p.2 (hok.nok p (.head _))
 obtain⟨dx,hin⟩:=T.sh.inst
 refine Leaf.mk (z0K hin (by decide+kernel) ?_)
 refine Leaf.mk (z1W (.lst _) (z0A hns.len (by decide)) (.inr λnl onl hfn=> ?_))
 refine Leaf.mk (fnc (y3I H (T.cons (nl,onl,.list (ns.map z0g))) hw ot1 ot2 At.hd hns hok hm hl8 hwr (T.room hwr) λσ2 kv2 T4 F4 N4 K4=> ?_))
 refine Leaf.mk (z1F T4.rw_.rows hrn hrb ?_)
 refine Leaf.mk (z5M (T4.rw_.rin _ hb) hen hez λσ3 U=> ?_)
 rw[z1N (by rw[z0q];exact hm),<-z56] at U
 refine q _ (.mk (T4.row hb (hok.add hm hl8 ot1 ot2 hns) U) ?_ (λp hp=>(F4 p hp).imp id λhf z hz hn=>hf z (.tail _ hz)) ?_ (z75 (by rw[List.length_append];exact Nat.le_refl _) S.rwn))
 ·exact z4A hkv N4 λ_ e=>by have:=congrArg List.length e;rw[List.length_append] at this;cases this
 ·exact(((Kp.refl.cons _).trans K4 (y1M λp h=>h))).upd hbf U
end
end
section
section
variable {C:Cx} [HM C] [NF C] {d:Nat} {σ:Sto} {Q:V->Sto->Prop} {i k ro:Addr} {kv rv:List (Str×Addr)} {er es:Str->List (Int×List z0c)} {wi:List z0c}
theorem RS.off(T:RS σ i k ro kv rv er es){σ':Sto}{a:Addr}{x:AO}(ha:a∉fpR i k ro kv rv)(U:UpdS σ σ' a x):RS σ' i k ro kv rv er es:=
 T.frame (λb hb x hx=>U.at hx λe=>ha (e▸List.mem_append_left _ hb)) λb hb x hx=>U.at hx λe=>ha (e▸List.mem_append_right _ hb)
noncomputable def t__law_list_changed:TC:=⟨[.cut [.loc 3,.psh (.int 2),.binc .Mod,.psh (.int 0),.tcmpc .Eq,.mop .And [.loc 2,.lst 0,.tcmpc .NotEq,.mop .And [.psh (.bool true)]],.ife [.loc 2,.mty "list",.meth (.bi "list.pop") 0,.asg 4,.loc 1,.loc 2,.loc 0,.loc 2,.call (.ref 206) 2,.call (.ref 367) 3,.asg 5,.loc 2,.mty "list",.loc 4,.meth (.bi "list.append") 1,.pop,.loc 5,.ret] []],.loc 1,.call (.type "list") 1,.loc 3,.psh (.int 2),.binc .FloorDiv,.loc 1,.len,.binc .Mod,.sub,.asg 6,.loc 2,.mty "list",.psh (.int 0),.loc 6,.psh (.int 1),.psh (.int 1),.loc 3,.psh (.int 12),.binc .FloorDiv,.psh (.int 999),.binc .Mod,.binc .Add,.tup 3,.meth (.bi "list.insert") 2,.pop,.cut [.loc 2,.len,.psh (.int 8),.cmpc .Gt,.vop .Or [.loc 1,.loc 2,.loc 0,.loc 2,.call (.ref 206) 2,.call (.ref 367) 3],.asg 5],.loc 2,.mty "list",.psh (.int 0),.meth (.bi "list.pop") 1,.pop,.loc 5,.ret],[],[]⟩
--t__law_list_changed 0
theorem z2R(H:G1 C)(T:RS σ i k ro kv rv es es)(hlo:0<rv.length)(ok:WishOk wi)(G:∀wi',WishOk wi'->Gd es wi'){ha:Addr}(hh:At σ ha (.list (wi.map z0g)))(hf:ha∉fpR i k ro kv rv){n:Int}(q:∀σ',(∀p∈σ,p.1≠ha->p∈σ')->At σ' ha (.list (wi.map z0g))->Q (.bool true) σ'):CW C (d+22) (.ref 398) [.ref i,.ref ro,.ref ha,.int n] σ Q:=by
 refine z0D (G1.kin (by assumption)) ["_law_shop_here","_law_rows_here","_law_handed","_law_number","_law_need","_law_good","_law_ware"] [("_law_told",.ref 367),("settle",.ref 206),("list",.type "list"),("len",.bi "len")] (by kernel_rfl) (vs4 λ_ _ _ _=>by kernel_rfl) rfl (z0a (z32 (by assumption)) (z0a (z7x (by assumption)) (z0a (z0N (by assumption)) (z0a (z0Q (by assumption)) GL_nil)))) ?_
 intro env hsc
 clear hsc
 have S:=T.rw_
 have hrn:((kvV rv).map (·.1)).Nodup:=by rw[z0t];exact S.rwn
 have hro:=S.rows
 have hrl:(kvV rv).length<=12:=by rw[List.length_map];exact S.rl
 have hlo':0<(kvV rv).length:=by rw[List.length_map];exact hlo
 have h8:=ok.len
 obtain⟨oh,hm⟩:=hh
 refine z0e (z0o H) (z0n H) t__law_list_changed rfl (by kernel_rfl) ?_
 intro F m0
 refine z6R [some (.ref i),some (.ref ro),some (.ref ha),some (.int n),none,none,none] σ (λK hK hR=> ?_) ?_
 ·refine z02 (λ_=> ?_) λ_=>hK
  refine Leaf.mk (z5Q (.refL hm) (z0j ?_))
  rcases List.eq_nil_or_concat wi with e|⟨wi',nd,e⟩
  ·rw[e];exact hK
  ·rw[List.concat_eq_append] at e
   subst e
   rw[List.map_append] at hm q⊢
   refine z18 (by exact show(!(wi'.map z0g++[nd].map z0g).isEmpty)=true by cases wi'<;>rfl) ?_
   have ok':WishOk wi':=⟨by rw[List.length_append] at h8;exact Nat.le_trans (Nat.le_add_right _ _) h8,λn hn=>ok.ok n (List.mem_append_left _ hn)⟩
   have hl:(wi'.map z0g++[z0g nd]).length<=sizeLine:=by rw[List.length_append,List.length_map];rw[List.length_append] at h8;exact Nat.le_trans h8 (by decide)
   refine Leaf.mk ⟨tyL ⟨_,hm⟩,?_⟩
   refine Leaf.mk (y27 ⟨_,hm⟩ hl λσ1 U=> ?_)
   have T1:=T.off hf U
   obtain⟨o1,h1⟩:=U.here
   refine Leaf.mk (fnc (z10 H (G _ ok') T1.sh (.refL h1) ?_))
   refine Leaf.mk (fnc (z2v H (G _ ok') T1.rw_ (.refL h1) (z6u (G _ ok')) ?_))
   refine Leaf.mk ⟨tyL U.here,?_⟩
   refine Leaf.mk (z7e U.here (z0A ok'.len (by decide)) λσ2 U2=> ?_)
   exact hR _ _ _ (λe=>nomatch e) (q σ2 (λp hp hn=>U2.keep p (U.keep p hp hn) hn) U2.here)
 refine Leaf.mk (z4D H.ns hro hrn (Nat.le_trans hrl (by decide)) (.inl ?_))
 refine Leaf.mk (z2O H.ns hro hrn (Nat.le_trans hrl (by decide)) ?_)
 refine z1U hlo' λkk hkk=> ?_
 obtain⟨⟨w,b⟩,hpe⟩:∃p,rv[kk]? =some p:=⟨_,List.getElem?_eq_getElem (by rw[List.length_map] at hkk;exact hkk)⟩
 have hw:=S.wok _ (List.mem_of_getElem? hpe)
 refine Leaf.mk (z0U (X:= .str w) (.lst _) (Nat.lt_of_lt_of_le hkk (Nat.le_trans hrl (by decide))) (by rw[List.getElem?_map,List.getElem?_map,hpe];rfl) ?_)
 have ot1:1<=1+(n.fdiv 12).fmod 999:=Int.le_add_of_nonneg_right (Int.fmod_nonneg_of_pos _ (by decide))
 have ot2:1+(n.fdiv 12).fmod 999<=999:=by have:=Int.fmod_lt_of_pos (n.fdiv 12) (show(0:Int)<999 by decide);lia
 refine Leaf.mk ⟨tyL ⟨_,hm⟩,?_⟩
 refine Leaf.mk (z87 ⟨_,hm⟩ (z0A h8 (by decide)) λσ1 U=> ?_)
 have T1:=T.off hf U
 obtain⟨o1,h1⟩:=U.here
 have h1:(ha,o1,AO.list ((((w,1,1+(n.fdiv 12).fmod 999):z0c)::wi).map z0g))∈σ1:=h1
 generalize 1+(n.fdiv 12).fmod 999=ot at ot1 ot2 h1
 have hl9:((((w,1,ot):z0c)::wi).map z0g).length<=sizeLine:=z0A (n:=9) (Nat.succ_le_succ h8) (by decide)
 refine z6R [some (.ref i),some (.ref ro),some (.ref ha),some (.int n),none,some (.bool true),some (.str w)] σ1 (λK hK _=> ?_) ?_
 ·refine Leaf.mk (z0E (n:=wi.length+1) (.refL h1) (by rw[List.length_map];rfl) hl9 ?_)
  by_cases h9:8<wi.length+1
  ·have e:decide ((8:Int)<((wi.length+1:Nat):Int))=true:=decide_eq_true (by lia)
   refine z18 (by exact e) ?_
   rw[e]
   exact hK
  ·have e:decide ((8:Int)<((wi.length+1:Nat):Int))=false:=decide_eq_false (by lia)
   refine z0z (by exact e) ?_
   have ok':WishOk (((w,1,ot):z0c)::wi):=⟨Nat.not_lt.mp h9,List.forall_mem_cons.mpr ⟨⟨hw,Int.le_refl 1,ot1,ot2⟩,ok.ok⟩⟩
   refine Leaf.mk (fnc (z10 H (G _ ok') T1.sh (.refL h1) ?_))
   refine Leaf.mk (fnc (z2v H (G _ ok') T1.rw_ (.refL h1) (z6u (G _ ok')) ?_))
   exact hK
 refine Leaf.mk ⟨tyL ⟨_,h1⟩,?_⟩
 refine Leaf.mk (y23 (i:=0) (j:=0) rfl ⟨_,h1⟩ (X:=z0g (w,1,ot)) rfl (by rw[List.length_map];exact Nat.le_trans (Nat.succ_le_succ h8) (by decide)) λσ2 U2=> ?_)
 exact q σ2 (λp hp hn=>U2.keep p (U.keep p hp hn) hn) U2.here
end
end
section
section
variable {C:Cx} [HM C] [NF C] {d:Nat} {σ:Sto} {Q:V->Sto->Prop} {i k ro:Addr} {kv rv:List (Str×Addr)} {er es:Str->List (Int×List z0c)} {wi:List z0c}
noncomputable def y2H(r1:Expr)(r2:Expr):TC:=⟨[.cut [.psh (.int 12),.psh (.int 1),.tup 2,.psh (.int 2),.psh (.int 8),.tup 2,.psh (.int 5),.psh (.int 3),.tup 2,.lst 3,.psh (.int 2),.loc 0,.psh (.int 290),.call (.ref 283) 2,.psh (.int 12),.binc .Mod,.call (.bi "min") 2,.sub,.asg 1],.loc 0,.loc 1,.subT 0,.loc 1,.subT 1,.call (.ref 305) 3,.asg 2,.loc 0,.loc 2,.psh (.int 3),.call (.ref 312) 3,.asg 3,.loc 2,.call (.ref 319) 1,.asg 4,.asgL 5,.psh (.int 4),.forR 6 [.loc 3,.call (.type "list") 1,.asg 7,.loc 4,.loc 7,.call (.ref 206) 2,.asg 8,.loc 2,.loc 3,.loc 8,.call (.ref 367) 3,.tvalc,.not,.mop .Or [.loc 7,.loc 3,.tcmpc .NotEq,.mop .Or [.psh (.bool false)]],.ife [.psh (.bool false),.ret] [],.loc 4,.mI 272 "wares",.meth (.ref 269) 0,.raw r1,.call (.bi "sorted") 1,.tcmpc .NotEq,.ife [.psh (.bool false),.ret] [],.loc 8,.call (.ref 372) 1,.asg 9,.loc 5,.mty "list",.loc 8,.loc 9,.tup 2,.meth (.bi "list.append") 1,.pop,.loc 4,.loc 7,.call (.ref 206) 2,.asg 10,.loc 10,.loc 9,.tcmpc .NotEq,.ife [.psh (.bool false),.ret] [],.loc 10,.call (.ref 384) 1,.tvalc,.not,.ife [.psh (.bool false),.ret] [],.loc 10,.call (.ref 391) 1,.pop,.loc 0,.psh (.int 310),.loc 6,.binc .Add,.call (.ref 283) 2,.asg 11,.loc 4,.loc 7,.call (.ref 206) 2,.loc 9,.tcmpc .NotEq,.mop .Or [.loc 4,.loc 2,.loc 7,.loc 11,.call (.ref 398) 4,.tvalc,.not,.mop .Or [.psh (.bool false)]],.ife [.psh (.bool false),.ret] [],.loc 7,.loc 3,.tcmpc .NotEq,.mop .Or [.loc 4,.loc 7,.call (.ref 206) 2,.loc 9,.tcmpc .NotEq,.mop .Or [.psh (.bool false)]],.ife [.psh (.bool false),.ret] [],.loc 4,.loc 2,.loc 0,.psh (.int 300),.loc 6,.binc .Add,.call (.ref 283) 2,.call (.ref 405) 3,.pop],.raw r2,.lst 0,.cmpc .Eq,.ret],[.inr r1,.inr r2],[([5,0,3],some [1,1]),([6],some [0])]⟩
--y2H 2
theorem Rw.gd(S:Rw σ ro rv es)(ok:WishOk wi):Gd es wi:=by
 have l6:∀w,∀p∈es w,p.2.length<=6:=λw p hp=>((S.eok w).nok p hp).len
 refine⟨ok,λw=>(S.eok w).nd,λpk pb pi=> ?_,λw p hp=> ?_,λpk hn pi=>Nat.le_trans (y4p S hn pi) S.rl,λw=>(S.eok w).len,l6⟩
 ·obtain⟨N,R,hN,hB⟩:=y4i pb l6 ok.len
  refine⟨N,R,hN,hB,hB.all (P:=Ware) (z8z λw p hp n hn=>((S.eok w).nok p hp).ok n hn) (λ_ h=>nomatch h) λx hx=> ?_,?_⟩
  ·apply z0l hx;intro n hn
   exact(ok.ok n hn).w
  ·have:=hB.rlen
   rw[List.length_nil,Nat.zero_add] at this
   exact this
 ·obtain⟨b,hb,_⟩:=S.at (S.inRv hp)
  exact⟨S.wok _ hb,(S.eok w).mb p hp⟩
theorem z8M(ok:WishOk wi){a:Addr}(h:At σ a (.list (wi.map z0g))):Dn σ 2 (.ref a) (.lst (wi.map z0g)):= .ref h rfl (by rw[List.length_map];exact Nat.le_trans ok.len (by decide)) λj X Y h1 h2=>by
 rw[h1] at h2;cases h2
 apply z0l (List.mem_of_getElem? h1);intro n hn
 exact .tupS (Nat.le_of_ble_eq_true rfl) (List.forall_mem_cons.mpr ⟨.str _ (ok.ok n hn).w.asc,List.forall_mem_cons.mpr ⟨.int _,List.forall_mem_cons.mpr ⟨.int _,λ_ h=>nomatch h⟩⟩⟩)
theorem RS.wares(T:RS σ i k ro kv rv es es)(hkv:∀w∈kv.map (·.1),es w≠[]):z1n (kv.map (·.1))=z1n ((rv.map (·.1)).filter λw=> !(es w).isEmpty):=by
 refine z5b ((List.perm_ext_iff_of_nodup T.sh.kvn (T.rw_.rwn.sublist List.filter_sublist)).mpr λw=>⟨λh=>List.mem_filter.mpr ⟨T.kk w h,?_⟩,λh=> ?_⟩)
 ·have:=hkv w h
  cases e:es w with
  |nil=>exact absurd e this
  |cons _ _=>rfl
 ·by_cases hm:w∈kv.map (·.1)
  ·exact hm
  ·have:=(List.mem_filter.mp h).2
   rw[T.sh.out w hm] at this;cases this
theorem z7w{b:Nat}:∀{ws:List Str},(∀w∈ws,(es w).length<=b)->Pr es ws []<=(b+1)^ws.length
 |[],_=>Nat.le_refl _
 |w::ws,h=>by
  rw[z09,if_neg List.not_mem_nil,List.length_cons,Nat.pow_succ,Nat.mul_comm]
  exact Nat.mul_le_mul (z7w λv hv=>h v (.tail _ hv)) (Nat.succ_le_succ (h w (.head _)))
noncomputable def Sz(p:Nat×Nat):Prop:=p=(12,1)∨p=(2,8)∨p=(5,3)
theorem Sz.ok{p:Nat×Nat}(h:Sz p):0<p.1/\p.1<=12/\1<=p.2/\p.2<=8/\(p.2+1)^p.1<=4096:=by
 rcases h with rfl|rfl|rfl<;>decide
inductive LwI(a0 a1:V)(i k ro hd:Addr)(rv:List (Str×Addr))(wi:List z0c)(j:Nat):Loc->Sto->Prop
 |mk {τ:Sto} {kv:List (Str×Addr)} {es:Str->List (Int×List z0c)} {ts:List V} {v6 v7 v8 v9 v10 v11:Option V}:RS τ i k ro kv rv es es->(∀w∈kv.map (·.1),es w≠[])->At τ hd (.list (ts.map λt=> .tup [t,t]))->ts.length=j->(∀t∈ts,∀σ,Dn σ 45 t t)->hd∉fpR i k ro kv rv->Pr es (rv.map (·.1)) []<=4096*2^j->LwI a0 a1 i k ro hd rv wi j [some a0,some a1,some (.ref ro),some (.lst (wi.map z0g)),some (.ref i),some (.ref hd),v6,v7,v8,v9,v10,v11] τ
theorem y37(H:G1 C){xs:List Int}(hx:xs.length<=100)(q:∀σ',Q (.bool true) σ'):CW C (d+60) (.ref 410) [.lst (xs.map V.int)] [] Q:=by
 refine z0D (G1.kin (by assumption)) ["_law_script","_law_sizes","_law_rows_here","_law_wish_here","_law_shop_here","_law_held","_law_turn","_law_handed","_law_found","_law_kept","_law_again","_law_number"] [("min",.bi "min"),("_law_mixed",.ref 283),("_law_rows",.ref 305),("_law_wish",.ref 312),("_law_shop",.ref 319),("range",.type "range"),("list",.type "list"),("settle",.ref 206),("_law_told",.ref 367),("sorted",.bi "sorted"),("_law_copy",.ref 372),("_law_apart",.ref 384),("_law_emptied",.ref 391),("_law_list_changed",.ref 398),("_law_deed",.ref 405)] (by kernel_rfl) (vs1 λ_=>by kernel_rfl) rfl (z0a (y2I (by assumption)) (z0a (z1m (by assumption)) (z0a (z6P (by assumption)) (z0a (z7n (by assumption)) (z0a (z6N (by assumption)) (z0a (z2i (by assumption)) (z0a (z0N (by assumption)) (z0a (z7x (by assumption)) (z0a (z32 (by assumption)) (z0a (z1O (by assumption)) (z0a (z30 (by assumption)) (z0a (z6H (by assumption)) (z0a (z1L (by assumption)) (z0a (z2S (by assumption)) (z0a (z7d (by assumption)) GL_nil))))))))))))))) ?_
 intro env hsc
 refine z0e (z0o H) (z0n H) (y2H _ _) (by exact rfl) (by kernel_rfl) ?_
 intro F m0
 refine z39 (α:=Nat×Nat) Sz (λp=>[some (.lst (xs.map V.int)),some (.tup [.int (p.1:Int),.int (p.2:Int)]),none,none,none,none,none,none,none,none,none,none]) [] (λK hK _=> ?_) λp hp=> ?_
 ·refine Leaf.mk (fnc (z0C H hx (by decide) (by decide) λn n0 n1=> ?_))
  refine Leaf.mk (y03 ?_)
  obtain⟨kk,e,hk⟩:∃kk:Nat,min (2:Int) (n.fmod 12)=(kk:Int)/\kk<3:=by
   have h1:=Int.fmod_nonneg_of_pos n (show(0:Int)<12 by decide)
   exact⟨(min (2:Int) (n.fmod 12)).toNat,by lia,by lia⟩
  have e:min (2:Int) (n.fmod (Int.ofNat (11+1)))=(kk:Int):=e
  rw[e]
  obtain rfl|rfl|rfl:kk=0∨kk=1∨kk=2:=by lia
  ·exact⟨z0U (.lst _) (by decide) rfl (hK (12,1) (.inl rfl))⟩
  ·exact⟨z0U (.lst _) (by decide) rfl (hK (2,8) (.inr (.inl rfl)))⟩
  ·exact⟨z0U (.lst _) (by decide) rfl (hK (5,3) (.inr (.inr rfl)))⟩
 obtain⟨p1,p2,p3,p4,p5⟩:=hp.ok
 clear hp
 obtain⟨a,b⟩:=p
 refine Leaf.mk (fnc (z65 (most:=a) (mm:=b) H hx p1 p2 p3 p4 λro rv es σ1 RN hra=> ?_))
 obtain⟨S1,hne,hlo,_,_⟩:=RN
 refine Leaf.mk (fnc (z7r (most:=3) H hx S1 hlo (λp hp=>⟨(hne p hp).1,Nat.le_trans (hne p hp).2 p4⟩) (by decide) (by decide) λwi ok=> ?_))
 refine Leaf.mk (fnc (z7H H S1 (λp hp=>(hne p hp).1) λi k kv σ2 Sh hke f1 f2 f3 kp=> ?_))
 have T0:RS σ2 i k ro kv rv es es:=⟨S1.frame λa _ x ⟨o,h⟩=>⟨o,kp _ h⟩,Sh,λa ha hm=>by
  obtain⟨x,hx⟩:=S1.ats ha
  rcases List.mem_cons.mp hm with e|hm
  ·exact f1.ne hx e
  ·rcases List.mem_cons.mp hm with e|hm
   ·exact f2.ne hx e
   ·obtain⟨p,hp,e⟩:=List.mem_map.mp hm
    exact(f3 p hp).ne hx e.symm,λw hw=>by rw[<-hke];exact hw⟩
 have hkv:∀w∈kv.map (·.1),es w≠[]:=λw hw=>by
  rw[hke] at hw
  apply z0l hw;intro p hp
  exact(hne p hp).1
 have hP:Pr es (rv.map (·.1)) []<=4096*2^0:=by
  refine Nat.le_trans (z7w (b:=b) λw hw=> ?_) (Nat.le_trans (Nat.le_trans (Nat.pow_le_pow_right (Nat.succ_pos _) (show(rv.map (·.1)).length<=a by rw[List.length_map];exact hra)) p5) (by decide))
  apply z0l hw;intro p hp
  exact(hne p hp).2
 clear S1 Sh hne f1 f2 f3 kp hke p1 p2 p3 p4 p5 hra
 intro hd ohd hfd
 have hhd:hd∉fpR i k ro kv rv:=λhm=>by
  rcases List.mem_append.mp hm with h|h
  ·obtain⟨x,hx⟩:=T0.rw_.ats h
   exact hfd.ne hx rfl
  ·rcases List.mem_cons.mp h with e|h
   ·obtain⟨dx,hx⟩:=T0.sh.inst;exact hfd.ne hx e.symm
   ·rcases List.mem_cons.mp h with e|h
    ·exact hfd.ne T0.sh.kept e.symm
    ·obtain⟨p,hp,e⟩:=List.mem_map.mp h
     exact hfd.ne (T0.sh.inn p hp) e
 refine Leaf.mk (.mk 4 (LwI (.lst (xs.map V.int)) (.tup [.int (a:Int),.int (b:Int)]) i k ro hd rv wi) rfl (by decide) (.mk (ts:=[]) (T0.cons _) hkv At.hd rfl (λ_ h=>nomatch h) hhd hP) (λj hj m τ hI QB hQB _=> ?_) λm τ hI=> ?_)
 ·clear T0 hkv hP hhd hfd q
  refine hI.casesOn @λτ kv es ts v6 v7 v8 v9 v10 v11 T hkv hhd htl hdn hfd hP=> ?_
  have htl4:(ts.map λt=>V.tup [t,t]).length<=sizeLine:=z0A (n:=4) (by rw[htl];exact Nat.le_of_lt hj) (by decide)
  have hrn:((kvV rv).map (·.1)).Nodup:=by rw[z0t];exact T.rw_.rwn
  have g:=T.rw_.gd ok
  have ht:=z6u g
  have hD:∀σ,Dn σ 45 (stF es wi) (stF es wi):=λσ=>ht.dn g.l8
  have hcnt:∀σ A v,Tr σ A v (stF es wi)->A.length<=1000000:=λσ A v h=>ht.cnt (ws:=rv.map (·.1)) (λw hw=>by
   by_cases hm:w∈rv.map (·.1)
   ·exact hm
   ·exact absurd (T.rw_.out w hm) hw) T.rw_.rwn (Nat.le_trans hP (Nat.le_trans (Nat.mul_le_mul_left _ (Nat.pow_le_pow_right (by decide) (Nat.le_of_lt_succ hj))) (by decide))) A v h
  generalize hst:stF es wi=t at ht hD hcnt
  obtain⟨ys,rfl⟩:∃ys,t=V.tup ys:=by cases ht<;>exact⟨_,rfl⟩
  refine Leaf.mk (z1W (.lst _) (z0A ok.len (by decide)) (.inr λha oa hfa=> ?_))
  have hha:ha∉fpR i k ro kv rv:=λhm=>by
   rcases List.mem_append.mp hm with h|h
   ·obtain⟨x,hx⟩:=T.rw_.ats h
    exact hfa.ne hx rfl
   ·rcases List.mem_cons.mp h with e|h
    ·obtain⟨dx,hx⟩:=T.sh.inst;exact hfa.ne hx e.symm
    ·rcases List.mem_cons.mp h with e|h
     ·exact hfa.ne T.sh.kept e.symm
     ·obtain⟨p,hp,e⟩:=List.mem_map.mp h
      exact hfa.ne (T.sh.inn p hp) e
  have hne:hd≠ha:=hfa.ne hhd
  have T:=T.cons (ha,oa,.list (wi.map z0g))
  have hhd:=hhd.cons (ha,oa,.list (wi.map z0g))
  have hh:At ((ha,oa,.list (wi.map z0g))::τ) ha (.list (wi.map z0g)):=At.hd
  clear hfa hI
  generalize (ha,oa,AO.list (wi.map z0g))::τ=σ1 at T hhd hh⊢
  have hH:∃P,Has σ1 (.ref ha) (.list (wi.map z0g)) P:=by obtain⟨o,h⟩:=hh;exact⟨_,.refL h⟩
  obtain⟨P1,hH1⟩:=hH
  refine Leaf.mk (fnc (z10 H g T.sh hH1 ?_))
  rw[hst]
  refine Leaf.mk (fnc (z2v H g T.rw_ (.lst _) ht ?_))
  refine Leaf.mk (z3R H.ns (z8M ok hh) (by decide) (z0j ?_))
  obtain⟨dx,hin⟩:=T.sh.inst
  refine Leaf.mk (z0K hin (by decide+kernel) ?_)
  refine Leaf.mk (fnc (y1T H T.sh (.inl ?_)))
  refine Leaf.mk ?_
  show AT C env ["_law_script","_law_sizes","_law_rows_here","_law_wish_here","_law_shop_here","_law_held","_law_turn","_law_handed","_law_found","_law_kept","_law_again","_law_number"] _ true _ (eval _ env) [some (.lst (xs.map V.int)),some (.tup [.int (a:Int),.int (b:Int)]),some (.ref ro),some (.lst (wi.map z0g)),some (.ref i),some (.ref hd),some (.int (j:Int)),some (.ref ha),some (.tup ys),v9,v10,v11] _ _
  obtain⟨oro,hrm⟩:=T.rw_.rows
  refine z0P "_law_ware" ["_law_rows_here"] [] (by rw[hsc];kernel_rfl) GL_nil (.cons LkC.lk .nil) (z8O (KK.str C.prog C.w) H.ns ?_)
  with_reducible refine z0k ?_
  refine⟨ro,oro,kvV rv,rfl,hrm,hrn,z0A (n:=12) (by rw[List.length_map];exact T.rw_.rl) (by decide),λenv' he=>z0X (f:=id) (t:=neV es) (z0m he (by decide+kernel)) hrm _ _ _ (λX hX K hK=> ?_) (λX hX _ K hK=> ?_) ?_⟩
  ·rw[y2y] at hX
   obtain⟨w,hw,rfl⟩:=List.mem_map.mp hX
   obtain⟨b,hb,hrb,hat⟩:=T.rw_.at hw
   have hen:((esV (es w)).map (·.1)).Nodup:=by rw[z0q];exact(T.rw_.eok w).nd
   clear hQB
   repeat' with_reducible first|refine z0k ?_|refine z0W ?_|refine y1X (G1.ns (by assumption)) ?_|refine z1F T.rw_.rows hrn hrb ?_|fail
   refine y4E hat hen ?_
   rw[show(!(esV (es w)).isEmpty)=neV es (.str w) by show _= !(es w).isEmpty;cases es w<;>rfl]
   exact hK
  ·with_reducible refine z0k ?_
   exact hK
  rw[List.nil_append,y2y,List.map_id,z78]
  refine Leaf.mk (z4v (.lst _) (Nat.lt_of_le_of_lt (List.length_filter_le _ _) (Nat.lt_of_le_of_lt (by rw[List.length_map];exact T.rw_.rl) (by decide))) (.inl ?_))
  rw[T.wares hkv]
  have hww:∀w∈z1n ((rv.map (·.1)).filter λw=> !(es w).isEmpty),Ware w:=z23 λw hw=>by
   apply z0l (List.mem_filter.mp hw).1;intro p hp
   exact T.rw_.wok p hp
  refine Leaf.mk (z9F hww hww (z0j ?_))
  refine z0z (by exact show(!decide (z1n ((rv.map (·.1)).filter λw=> !(es w).isEmpty)=z1n ((rv.map (·.1)).filter λw=> !(es w).isEmpty)))=false by rw[decide_eq_true rfl];rfl) ?_
  clear hww hrm hin dx oro
  refine Leaf.mk (fnc (z7C H 45 (hD _) ?_))
  refine Leaf.mk ⟨tyL hhd,?_⟩
  refine Leaf.mk (z7e hhd htl4 λσ2 U=> ?_)
  have T:=T.off hfd U
  have hh:=U.at hh hne.symm
  have hhd:At σ2 hd (.list ((ts++[V.tup ys]).map λt=> .tup [t,t])):=by rw[List.map_append];exact U.here
  have hdn:∀s∈ts++[V.tup ys],∀σ,Dn σ 45 s s:=λs hs=>by
   rcases List.mem_append.mp hs with h|h
   ·exact hdn s h
   ·rw[List.mem_singleton.mp h];exact hD
  clear U hH1 P1
  obtain⟨P2,hH2⟩:∃P,Has σ2 (.ref ha) (.list (wi.map z0g)) P:=by obtain⟨o,h⟩:=hh;exact⟨_,.refL h⟩
  refine Leaf.mk (fnc (y2M λhnd=>z7a H g T.sh hH2 λv σ3 hr=> ?_))
  rw[hst] at hr
  obtain⟨A,k1,k2,k3,k4⟩:=hr
  obtain⟨us,ev,_⟩:=k4.inv
  subst ev
  refine Leaf.mk (z3R H.ns (k4.dn (hD [])) (by decide) (z0j ?_))
  refine Leaf.mk (fnc (z6n (n:=45) H k4 k2 (hD []) (hcnt _ _ _ k4) λσ4 a1 a2=> ?_))
  obtain⟨t',hT',hq'⟩:=k4.more (hD []) a2
  have hA:∀p∈σ2,p.1∉A:=λp hp ha=>k3 _ ha p hp rfl
  refine Leaf.mk (fnc (y1S hnd (z4P H 45 hT' hq' k2 λσ5 e1=>⟨λp hp=>e1 p (a1 p (k1 p hp) (hA p hp)) (hA p hp),?_⟩)))
  clear hT' hq' a1 a2 k1 k2 k3 k4 hA hnd hcnt
  refine Leaf.mk (fnc (z0C (k:=310+(j:Int)) H hx (by lia) (by lia) λn _ _=> ?_))
  refine Leaf.mk (fnc (z10 H g T.sh hH2 ?_))
  rw[hst]
  refine Leaf.mk (z3R H.ns (hD _) (by decide) (z0j ?_))
  refine Leaf.mk (fnc (z2R H T hlo ok (λ_ ok'=>T.rw_.gd ok') hh hha λσ6 l1 l2=> ?_))
  have T:RS σ6 i k ro kv rv es es:=T.frame (λa h x ⟨o,hx⟩=>⟨o,l1 _ hx λe=>hha (e▸List.mem_append_left _ h)⟩) λa h x ⟨o,hx⟩=>⟨o,l1 _ hx λe=>hha (e▸List.mem_append_right _ h)⟩
  have hhd:At σ6 hd (.list ((ts++[V.tup ys]).map λt=> .tup [t,t])):=by obtain⟨o,h⟩:=hhd;exact⟨o,l1 _ h hne⟩
  clear l1 hH2 P2 hh
  obtain⟨P3,hH3⟩:∃P,Has σ6 (.ref ha) (.list (wi.map z0g)) P:=by obtain⟨o,h⟩:=l2;exact⟨_,.refL h⟩
  refine Leaf.mk (z3R H.ns (z8M ok l2) (by decide) (z0j ?_))
  refine Leaf.mk (fnc (z10 H g T.sh hH3 ?_))
  rw[hst]
  refine Leaf.mk (z3R H.ns (hD _) (by decide) (z0j ?_))
  refine Leaf.mk (fnc (z0C (k:=300+(j:Int)) H hx (by lia) (by lia) λn2 _ _=> ?_))
  refine Leaf.mk (fnc (z7E H T hkv hlo λσ7 hdd=> ?_))
  obtain⟨T',hkv',F',K',hP'⟩:=hdd
  obtain⟨od,hdm⟩:=hhd
  refine hQB _ _ (.mk T' hkv' ⟨od,K' _ hdm hfd⟩ (by rw[List.length_append,htl];rfl) hdn (λhm=> ?_) (Nat.le_trans hP' (by rw[Nat.pow_succ,<-Nat.mul_assoc,Nat.mul_comm _ 2];exact Nat.mul_le_mul_left _ hP)))
  rcases List.mem_append.mp hm with h|h
  ·exact hfd (List.mem_append_left _ h)
  ·rcases List.mem_cons.mp h with e|h
   ·exact hfd (e▸List.mem_append_right _ (.head _))
   ·rcases List.mem_cons.mp h with e|h
    ·exact hfd (e▸List.mem_append_right _ (.tail _ (.head _)))
    ·obtain⟨p,hp,e⟩:=List.mem_map.mp h
     rcases F' p hp with h|h
     ·exact hfd (e▸List.mem_append_right _ (.tail _ (.tail _ (List.mem_map.mpr ⟨p,h,rfl⟩))))
     ·exact h _ hdm hfd e.symm
 ·refine hI.casesOn @λτ kv es ts v6 v7 v8 v9 v10 v11 T hkv hhd htl hdn hfd hP=> ?_
  obtain⟨od,hdm⟩:=hhd
  refine Leaf.mk ?_
  show AT C env ["_law_script","_law_sizes","_law_rows_here","_law_wish_here","_law_shop_here","_law_held","_law_turn","_law_handed","_law_found","_law_kept","_law_again","_law_number"] _ true _ (eval _ env) [some (.lst (xs.map V.int)),some (.tup [.int (a:Int),.int (b:Int)]),some (.ref ro),some (.lst (wi.map z0g)),some (.ref i),some (.ref hd),v6,v7,v8,v9,v10,v11] _ _
  refine z0P "_law_pair" [] [] (by rw[hsc];kernel_rfl) GL_nil .nil (z0J ?_)
  with_reducible refine z0k ?_
  refine⟨_,_,.refL hdm,z0A (n:=4) (by rw[htl];exact Nat.le_refl _) (by decide),λenv' he=>z0X (f:=id) (t:=λ_=>false) (z0m he (by decide+kernel)) hdm _ _ _ (λX hX K hK=> ?_) (λX hX e K hK=>ff e) ?_⟩
  ·obtain⟨t,ht,rfl⟩:=List.mem_map.mp hX
   repeat' with_reducible first|refine z0k ?_|refine z0O ?_|refine z0W ?_|refine z1x ?_|refine z2w (by with_unfolding_all decide) (by with_unfolding_all decide) (by with_unfolding_all exact rfl) ?_|fail
   exact z3R H.ns (hdn t ht _) (by decide) (z0j hK)
  rw[List.nil_append,List.filter_eq_nil_iff.mpr λ_ _ h=>ff h]
  refine Leaf.mk (y0b ?_)
  exact q _
end
end
section
open PySem PySem.W PyProof.Rows
theorem y30{w:World}{D:Gh}{vs:List Value}{xs:List Int}(h:IntsAre vs xs):VRs w D vs (xs.map V.int):=by
 induction h with
 |nil=>exact .nil
 |cons n t _ ih=>exact .cons (.int n t) ih
open Classical in
theorem y4C{prog:Program}{w:World}{s₁:Shared}{mg mb:Str->Option Value}{a:Addr}{vs us:List Value}{xs:List Int}{K:Value->Shared->Prop}{E:Value->Shared->Prop}
  (hg:s₁.heap.Ns mainGlobals mg) (hb:s₁.heap.Ns builtinsNs mb) (hl:s₁.heap.NoLimit) (hbi:∀x:Str,x≠"__name__"->mb x=bootBuiltins x) (KX:(Tp.K w.params).In s₁.heap) (hns:∃o,s₁.heap.get? sysModules=some o)
  (ha:s₁.heap.get? a=some (z0p us.toArray 0)) (hL:s₁.heap.IsList a vs.toArray) (hI:IntsAre vs xs) (hx:xs.length<=100)
  (k:∀s',(∀b o,s₁.heap.get? b=some o->s'.heap.get? b=some o)->s'.os=s₁.os->s'.gens=s₁.gens->K (.bool true) s'):
  wpAny (model prog w) callerA (call (.ref 410) [.ref a]) K E s₁:=by
 let C:Cx:=⟨prog,w,s₁.heap,s₁,mg,mb,hg,hb,hl,some none,none⟩
 have H:G1 C:=⟨KX,hbi,hns⟩
 haveI:HM C:=⟨rfl⟩
 haveI:NF C:=⟨rfl⟩
 have hv:us=vs:=by
  obtain⟨o,ho,_,n,hd⟩:=hL
  rw[ha] at ho;cases ho
  have:us.toArray=vs.toArray:=by
   have h':Data.seq us.toArray 0=Data.seq vs.toArray n:=hd
   injection h'
  simpa using this
 subst hv
 let D:Gh:=λb=>if b=a then some (z0p us.toArray 0) else none
 have R:RelC C (λb=>s₁.heap.get? b) D [] s₁:=⟨⟨s₁.heap,s₁.toks,rfl⟩,λ_ _ e=>e,λb o e=>⟨o,e,.refl o⟩,(λb o e=>by
   have e':(if b=a then some (z0p us.toArray 0) else none)=some o:=e
   split at e'
   ·rename_i hb;subst hb;rw[<-e'];exact ha
   ·cases e'),λ_ _ e=>e,List.nodup_nil,(λ_ h=>by cases h),(λ_ h=>by cases h),(λ_ h=>by cases h),(λ_ h=>by cases h)⟩
 have hargs:VRs C.w D [.ref a] [.lst (xs.map V.int)]:= .cons (.lst (show(if a=a then some (z0p us.toArray 0) else none)=_ by rw[if_pos rfl]) (y30 hI)) .nil
 have hA:AOk C callerA 60:=⟨(λx e=>by cases e;rfl),(λl e=>nomatch e),by decide+kernel,by decide+kernel⟩
 have:=z4F (y37 (C:=C) (d:=0) (Q:=λx _=>x= .bool true) H hx λ_=>rfl) callerA _ D s₁ (.ref 410) [.ref a] hA R (.ref 410) hargs
 refine wpAny_mono this (λv s' q=> ?_) λ_ _ e=>e.elim
 obtain⟨x,D',σ',dx,hv,R',hx⟩:=q
 subst hx
 rw[hv.boolI]
 obtain⟨h,tk,e⟩:=R'.same
 exact k s' R'.bs (by rw[e]) (by rw[e])
end
end Mine
open PySem PySem.W PyProof.Rows
theorem PySem.Challenge.cw_uf010025_09_holds : PySem.Challenge.rw_uf010025_09.Holds := by
  refine Mine.hd09 ?_
  intro w s₀ s₁ mg mb G Y fa o pm cd doc dV kV ho hd hcd hD hmg hg args vals as hpre hlay hrd hwl hlo
  have KX := kIn_of Y
  refine Ground.open G ?_
  intro T B D TE TW
  clear G Y B D TE TW hd hcd hD
  have hfa : fa = 410 := by
    have h1 := mg_of KX T.g (show nsIn (Mine.Tp.K w.params) mainGlobals "law" = some (some (.ref 410)) from rfl)
    have h2 : mg "law" = some (.ref fa) := hmg
    rw [h1] at h2; injection h2 with h2; injection h2 with h2; exact h2.symm
  subst hfa
  clear hmg
  wrow_args hpre hlay hrd hwl hlo
  rename_i hL _ w1 _ hI _ hc _
  obtain ⟨us, ha⟩ : ∃ us : List Value, s₁.heap.get? _ = some (Mine.z0p us.toArray 0) := by
    cases w1 with
    | list h _ => exact ⟨_, h⟩
  refine Mine.y4C T.g T.b T.nolimit T.builtins KX (by obtain ⟨_, ⟨o, _, _, ho, _⟩, _⟩ := (T.seer (by decide +kernel)).mods; exact ⟨o, ho⟩) ha hL hI (by lia) fun s' h1 h2 h3 => GoodW.toG ⟨.inl ⟨_, .bool true, [], rfl, fun _ => rfl, .bool true, ?_, fun h => ?_⟩, h1, h2, h3.trans hg⟩
  · wrow_post
  · exact ⟨List.nodup_nil, fun a h => by cases h⟩
