import PyProof.Rows.All
import OpenK.KLine
import KE.KEqDict
import PyProof.CompFree
import PyProof.Cells
import PyProof.DictKinds
import PyProof.Calls
import PyProof.Rows.Tup
import PyProof.Rules2
import PyProof.Rules3
import PyProof.CallRoads
import PyProof.CallType
import PyProof.EvalArms
import PyProof.Raises
import PyProof.Rows.StrTemp
import PyProof.Rows.TupSub
import PyProof.RulesRaise
import PyProof.ForAny
import PyProof.WalksMore
import PyProof.StrWalks
import PyProof.DictWalks
import PyProof.MakeMany
import PyProof.PureInt
import PyProof.NoPylong
import PyProof.Rows.RuleB_floordiv
import PyProof.Rows.RuleB_mod
import PyProof.Rows.StrRules
import PyProof.FString5
import PyProof.ListIndex
import PyProof.ListIndexNeg
import PyProof.SliceList
import PyProof.SliceStr2
import PyProof.StrCalls2
import PyProof.ConsumeWalk
import PyProof.WalkInts
import PyProof.IsiPairs
import PyProof.IsiHeapPairs
import PyProof.CallStr
import PyProof.P3Eq
import PyProof.EqLayable
import PyProof.Methods
import PyProof.SeqRoads
import PyProof.SliceSyntax
import PyProof.Rows.SeqMore
import PyProof.IsiNone
import PyProof.StrBlock
import PyProof.RangeFor
import PyProof.Rows.Range3
import PyProof.Rows.Chain
import OpenK.KCall
import PyProof.StrBlockI
import PyProof.StrBlockL
import PyProof.DictRoads
import PyProof.DictCalls
import PyProof.MeetsDictList
import PyProof.MeetsDict
import PyProof.Rows.ListAppend
import PyProof.MeetsIn
import PyProof.FactsAll.list_0
import PyProof.DictTruth
import PyProof.TupleIter
import PyProof.RulesAssignMore
import KE.KDictLaws
import OpenK.KCls
import OpenK.KMake
import OpenK.KWalk
import PyProof.AssignAttr
import KE.KDictSum
import PyProof.Rows.SortStr
import PyProof.Rows.SortWalk
import PyProof.ListCopy
import PyProof.Conv_int_bool
import PyProof.ListMulAny
import PyProof.ListMulRoad
import PyProof.AutoSeq1
import PyProof.WalksEnum
import PyProof.DictDisplay
import PyProof.DictStraight
import PyProof.Rows.StrInSeq3
import PyProof.AttrMissHeap
import KE.KDictOf
import PyProof.MeetsSeq
import PyProof.Draws
import PyProof.DictIter
import PyProof.DictUpdate
import PyProof.NeKinds
import PyProof.DictList
import KE.KItem
import PyProof.Rows.ChunkEnd
import KE.KSortTup
import KE.KRevIter
import PyProof.Rows.SeqIn
import PyProof.ZipIter
import PyProof.EqKinds
import PyProof.IsiTupleAll
import PyProof.Rows.TupMore
import Lean
import PySem.Challenge.RW_uf010025_07
set_option autoImplicit false
set_option linter.all false
set_option Elab.async false
set_option genSizeOf false
set_option bootstrap.genMatcherCode false
set_option tactic.hygienic false
set_option maxRecDepth 100000
set_option compiler.extract_closed false
set_option maxHeartbeats 8000000
namespace Mine
section
open PySem PySem.W PyProof.Rows
namespace Tp
noncomputable def alt : List Obj → List Obj
  | [] => []
  | [a] => [a]
  | a :: _ :: r => a :: alt r
noncomputable def ofL : Nat → List Obj → BT
  | 0, _ => .nil
  | _ + 1, [] => .nil
  | n + 1, a :: r => .node a (ofL n (alt r)) (ofL n (alt r.tail))
noncomputable def life : Life := { }
noncomputable def drawn : Drawn := { }
noncomputable def vs (s : String) (t : Nat) : Value := .str (Str.ofString s) t
noncomputable def vi (k : Int) : Value := .int k 0
noncomputable def de (P : Params) (k : String) (t : Nat) (v : Value) : DictEntry := { hash := PyData.keyHash P (Str.ofString k), key := .str (Str.ofString k) t, val := v }
noncomputable def bp : Obj := { cls := .type "builtin_function_or_method", data := Data.fields #[.builtin "type.__prepare__", .type "type"] }
noncomputable def tp : Obj := { cls := .type "tuple", data := Data.seq #[] }
noncomputable def nf : Obj := { cls := .none, data := Data.fields #[] }
noncomputable def nl (l : List Value) : Obj := { cls := .none, data := Data.fields l.toArray }
noncomputable def di (l : List DictEntry) (k : Nat) : Obj := { cls := .type "dict", data := Data.dict l.toArray k }
noncomputable def co (a : String) (t1 : Nat) (b : String) (t2 t3 t4 : Nat) (l : List Value) : Obj := { cls := .type "code", data := Data.fields ([vs a t1, vs b t2, vs "/claim/cut.py" t3] ++ (l ++ [vs "/claim/cut.py" t4])).toArray }
noncomputable def fm (a b c : Nat) (v : Value) : Obj := { cls := .type "frame", slots := #[some (.ref a), some (.ref b), some (.ref c), none, some v, none, some (.ref 0)] }
noncomputable def tu (l : List Value) : Obj := { cls := .type "tuple", data := Data.seq l.toArray }
noncomputable def ca (a b : String) (t l n u c : Nat) : Obj := co a t b (t + 1) (t + 2) (u + 1) [vi l, vi n, vi 0, vi 0, vi 3, .ref (c - 5), .bool true, vi 181, .ref (c - 4), .none, .ref (c - 3), .ref (c - 2), .ref (c - 1), vi u, vi l]
noncomputable def cb (a b : String) (t l n u c : Nat) : Obj := co a t b (t + 1) (t + 2) (u + 1) [vi l, vi n, vi 0, vi 0, vi 3, .ref (c - 3), .bool true, vi 181, .ref (c - 2), .none, .none, .none, .ref (c - 1), vi u, vi l]
noncomputable def sv (q : String) (m : Value) (c : Nat) (s : Stmt) : FuncData × List Stmt := Stmt.casesOn (motive_2 := fun _ => FuncData × List Stmt) s (fun n a b _ _ _ sc _ _ _ => ({ name := n, qualname := Str.ofString q, params := a, body := .stmts b, scope := sc, globals := 3, closure := [], defaults := .none, kwdefaults := .none, pyModule := m, code := .ref c }, b)) (fun _ _ _ _ _ _ _ _ _ _ => default) (fun _ _ _ b _ _ _ _ _ _ _ => (default, b)) (fun _ _ => default) (fun _ _ => default) (fun _ _ _ => default) (fun _ _ _ _ _ _ _ => default) (fun _ _ _ _ => default) (fun _ _ _ _ _ => default) (fun _ _ _ _ _ => default) (fun _ _ _ _ _ => default) (fun _ _ _ _ => default) (fun _ _ _ _ => default) (fun _ _ _ => default) (fun _ _ _ => default) (fun _ _ _ => default) (fun _ _ _ => default) (fun _ _ _ _ _ => default) (fun _ _ _ _ _ => default) (fun _ _ _ => default) (fun _ _ => default) (fun _ _ _ _ => default) (fun _ _ => default) (fun _ _ => default) (fun _ _ => default) (fun _ => default) (fun _ => default) (fun _ => default)
noncomputable def fu (i : Nat) (j : Option Nat) (q : String) (m : Value) (c : Nat) : Obj := { cls := .type "function", data := .func (match j with
  | none => (sv q m c ((PySem.Challenge.pw_uf010025_07.main.body)[i]?.getD (.Pass ⟨0, 0, 0, 0⟩))).1
  | some j => (sv q m c ((sv q m c ((PySem.Challenge.pw_uf010025_07.main.body)[i]?.getD (.Pass ⟨0, 0, 0, 0⟩))).2[j]?.getD (.Pass ⟨0, 0, 0, 0⟩))).1) }
noncomputable def q1 : Value := vs "pickfloor.stretches" 335
noncomputable def q2 : Value := vs "pickfloor.picks" 372
noncomputable def q3 : Value := vs "pickfloor.reasons" 394
noncomputable def q4 : Value := vs "pickfloor.settling" 468
noncomputable def q5 : Value := vs "pickfloor.shop" 521
noncomputable def q6 : Value := vs "law_uf010025_07" 619
noncomputable def K (P : Params) : W.Frag := [
  (2, { cls := .none, data := Data.dict #[] }),
  (3, di [(de P "__name__" 165 (vs "law_uf010025_07" 619)), (de P "__doc__" 166 .none), (de P "__package__" 167 .none), (de P "__loader__" 168 (.builtin "__main__.__loader__#opaque")), (de P "__spec__" 169 .none), (de P "__annotations__" 170 (.ref 6)), (de P "__builtins__" 171 (.ref 4)), (de P "__file__" 173 (vs "/claim/cut.py" 172)), (de P "__cached__" 174 .none), (de P "PickError" 206 (.ref 24)), (de P "BadWare" 222 (.ref 37)), (de P "BadMake" 238 (.ref 49)), (de P "BadNeed" 254 (.ref 61)), (de P "Twice" 270 (.ref 73)), (de P "Full" 286 (.ref 85)), (de P "NoMake" 302 (.ref 97)), (de P "BadWish" 318 (.ref 109)), (de P "BadPick" 334 (.ref 121)), (de P "LETTERS" 338 (vs "abcdefghijklmnopqrstuvwxyz" 337)), (de P "MOST_LETTERS" 340 (.int 8 339)), (de P "MOST_MAKE" 342 (.int 999 341)), (de P "is_ware" 348 (.ref 128)), (de P "is_make" 355 (.ref 135)), (de P "is_need" 362 (.ref 142)), (de P "within" 371 (.ref 149)), (de P "MOST_WISHES" 375 (.int 8 374)), (de P "need_wish" 381 (.ref 154)), (de P "agenda_of" 393 (.ref 161)), (de P "is_number" 403 (.ref 168)), (de P "granted_of" 413 (.ref 175)), (de P "is_granted" 422 (.ref 182)), (de P "stretch_of" 435 (.ref 189)), (de P "left_by" 441 (.ref 194)), (de P "is_branch_row" 451 (.ref 201)), (de P "holds_by" 457 (.ref 206)), (de P "holds" 467 (.ref 213)), (de P "sources_for" 475 (.ref 218)), (de P "clash" 488 (.ref 225)), (de P "outside" 504 (.ref 232)), (de P "settled" 510 (.ref 237)), (de P "settle" 520 (.ref 244)), (de P "MOST_WARES" 524 (.int 12 523)), (de P "MOST_MAKES" 526 (.int 8 525)), (de P "MOST_NEEDS" 528 (.int 6 527)), (de P "need_needs" 538 (.ref 251)), (de P "Shop" 618 (.ref 310)), (de P "_law_mixed" 630 (.ref 321)), (de P "_law_names" 636 (.ref 326)), (de P "_law_stretch" 647 (.ref 333)), (de P "_law_needs" 653 (.ref 338)), (de P "_law_rows" 659 (.ref 343)), (de P "_law_wish" 675 (.ref 350)), (de P "_law_shop" 685 (.ref 357)), (de P "_law_place" 693 (.ref 364)), (de P "_law_granted" 701 (.ref 371)), (de P "_law_source" 714 (.ref 378)), (de P "_law_holds" 720 (.ref 383)), (de P "_law_told" 734 (.ref 390)), (de P "_law_odd_source" 745 (.ref 397)), (de P "_law_truths" 754 (.ref 404)), (de P "_law_other_sources" 764 (.ref 411)), (de P "_law_other_branches" 777 (.ref 418)), (de P "_law_other" 793 (.ref 425)), (de P "_law_copy" 799 (.ref 430)), (de P "_law_shop_changed" 805 (.ref 435)), (de P "_law_there" 811 (.ref 440)), (de P "_law_spoilt" 821 (.ref 447)), (de P "law" 827 (.ref 452))] 68),
  (15, tu [.type "ValueError"]),
  (22, tp),
  (23, di [(de P "__module__" 196 (vs "pickfloor.errors" 187)), (de P "__firstlineno__" 200 (.int 2 199)), (de P "__static_attributes__" 201 (.ref 22)), (de P "__weakref__" 203 (.ref 25)), (de P "__doc__" 204 .none)] 3),
  (24, { cls := .type "type", data := Data.cls { name := Str.ofString "PickError", bases := [.type "ValueError"], mro := [.ref 24, .type "ValueError", .type "Exception", .type "BaseException", .type "object"], ns := 23, qualname := Str.ofString "PickError", subclasses := [.ref 37, .ref 49, .ref 61, .ref 73, .ref 85, .ref 97, .ref 109, .ref 121] }, slots := #[some (.ref 15), none, some (vs "PickError" 189), some (vs "PickError" 197), some (.builtin "ValueError.__new__"), some (.bool true)] }),
  (25, { cls := .type "getset_descriptor", data := Data.fields #[vs "__weakref__" 202, .ref 24, .builtin "ExceptionGroup.__weakref__", .none] }),
  (28, tu [.ref 24]),
  (35, tp),
  (36, di [(de P "__module__" 214 (vs "pickfloor.errors" 187)), (de P "__firstlineno__" 218 (.int 4 217)), (de P "__static_attributes__" 219 (.ref 35)), (de P "__doc__" 220 .none)] 2),
  (37, { cls := .type "type", data := Data.cls { name := Str.ofString "BadWare", bases := [.ref 24], mro := [.ref 37, .ref 24, .type "ValueError", .type "Exception", .type "BaseException", .type "object"], ns := 36, qualname := Str.ofString "BadWare" }, slots := #[some (.ref 28), none, some (vs "BadWare" 207), some (vs "BadWare" 215), some (.builtin "ValueError.__new__"), some (.bool true)] }),
  (40, tu [.ref 24]),
  (47, tp),
  (48, di [(de P "__module__" 230 (vs "pickfloor.errors" 187)), (de P "__firstlineno__" 234 (.int 6 233)), (de P "__static_attributes__" 235 (.ref 47)), (de P "__doc__" 236 .none)] 2),
  (49, { cls := .type "type", data := Data.cls { name := Str.ofString "BadMake", bases := [.ref 24], mro := [.ref 49, .ref 24, .type "ValueError", .type "Exception", .type "BaseException", .type "object"], ns := 48, qualname := Str.ofString "BadMake" }, slots := #[some (.ref 40), none, some (vs "BadMake" 223), some (vs "BadMake" 231), some (.builtin "ValueError.__new__"), some (.bool true)] }),
  (52, tu [.ref 24]),
  (59, tp),
  (60, di [(de P "__module__" 246 (vs "pickfloor.errors" 187)), (de P "__firstlineno__" 250 (.int 8 249)), (de P "__static_attributes__" 251 (.ref 59)), (de P "__doc__" 252 .none)] 2),
  (61, { cls := .type "type", data := Data.cls { name := Str.ofString "BadNeed", bases := [.ref 24], mro := [.ref 61, .ref 24, .type "ValueError", .type "Exception", .type "BaseException", .type "object"], ns := 60, qualname := Str.ofString "BadNeed" }, slots := #[some (.ref 52), none, some (vs "BadNeed" 239), some (vs "BadNeed" 247), some (.builtin "ValueError.__new__"), some (.bool true)] }),
  (64, tu [.ref 24]),
  (71, tp),
  (72, di [(de P "__module__" 262 (vs "pickfloor.errors" 187)), (de P "__firstlineno__" 266 (.int 10 265)), (de P "__static_attributes__" 267 (.ref 71)), (de P "__doc__" 268 .none)] 2),
  (73, { cls := .type "type", data := Data.cls { name := Str.ofString "Twice", bases := [.ref 24], mro := [.ref 73, .ref 24, .type "ValueError", .type "Exception", .type "BaseException", .type "object"], ns := 72, qualname := Str.ofString "Twice" }, slots := #[some (.ref 64), none, some (vs "Twice" 255), some (vs "Twice" 263), some (.builtin "ValueError.__new__"), some (.bool true)] }),
  (76, tu [.ref 24]),
  (83, tp),
  (84, di [(de P "__module__" 278 (vs "pickfloor.errors" 187)), (de P "__firstlineno__" 282 (.int 12 281)), (de P "__static_attributes__" 283 (.ref 83)), (de P "__doc__" 284 .none)] 2),
  (85, { cls := .type "type", data := Data.cls { name := Str.ofString "Full", bases := [.ref 24], mro := [.ref 85, .ref 24, .type "ValueError", .type "Exception", .type "BaseException", .type "object"], ns := 84, qualname := Str.ofString "Full" }, slots := #[some (.ref 76), none, some (vs "Full" 271), some (vs "Full" 279), some (.builtin "ValueError.__new__"), some (.bool true)] }),
  (88, tu [.ref 24]),
  (95, tp),
  (96, di [(de P "__module__" 294 (vs "pickfloor.errors" 187)), (de P "__firstlineno__" 298 (.int 14 297)), (de P "__static_attributes__" 299 (.ref 95)), (de P "__doc__" 300 .none)] 2),
  (97, { cls := .type "type", data := Data.cls { name := Str.ofString "NoMake", bases := [.ref 24], mro := [.ref 97, .ref 24, .type "ValueError", .type "Exception", .type "BaseException", .type "object"], ns := 96, qualname := Str.ofString "NoMake" }, slots := #[some (.ref 88), none, some (vs "NoMake" 287), some (vs "NoMake" 295), some (.builtin "ValueError.__new__"), some (.bool true)] }),
  (100, tu [.ref 24]),
  (107, tp),
  (108, di [(de P "__module__" 310 (vs "pickfloor.errors" 187)), (de P "__firstlineno__" 314 (.int 16 313)), (de P "__static_attributes__" 315 (.ref 107)), (de P "__doc__" 316 .none)] 2),
  (109, { cls := .type "type", data := Data.cls { name := Str.ofString "BadWish", bases := [.ref 24], mro := [.ref 109, .ref 24, .type "ValueError", .type "Exception", .type "BaseException", .type "object"], ns := 108, qualname := Str.ofString "BadWish" }, slots := #[some (.ref 100), none, some (vs "BadWish" 303), some (vs "BadWish" 311), some (.builtin "ValueError.__new__"), some (.bool true)] }),
  (112, tu [.ref 24]),
  (119, tp),
  (120, di [(de P "__module__" 326 (vs "pickfloor.errors" 187)), (de P "__firstlineno__" 330 (.int 18 329)), (de P "__static_attributes__" 331 (.ref 119)), (de P "__doc__" 332 .none)] 2),
  (121, { cls := .type "type", data := Data.cls { name := Str.ofString "BadPick", bases := [.ref 24], mro := [.ref 121, .ref 24, .type "ValueError", .type "Exception", .type "BaseException", .type "object"], ns := 120, qualname := Str.ofString "BadPick" }, slots := #[some (.ref 112), none, some (vs "BadPick" 319), some (vs "BadPick" 327), some (.builtin "ValueError.__new__"), some (.bool true)] }),
  (124, tp),
  (127, cb "is_ware" "is_ware" 343 24 1 346 127),
  (128, fu 14 none "is_ware" q1 127),
  (129, tp),
  (131, tu [vs "thing" 352]),
  (132, tp),
  (134, ca "is_make" "is_make" 349 28 1 353 134),
  (135, fu 15 none "is_make" q1 134),
  (136, tp),
  (138, tu [vs "thing" 359]),
  (139, tp),
  (141, ca "is_need" "is_need" 356 30 1 360 141),
  (142, fu 16 none "is_need" q1 141),
  (143, tp),
  (145, tu [vs "make" 366, vs "low" 367, vs "high" 368]),
  (146, tp),
  (148, ca "within" "within" 363 34 3 369 148),
  (149, fu 17 none "within" q1 148),
  (150, tp),
  (153, cb "need_wish" "need_wish" 376 38 1 379 153),
  (154, fu 20 none "need_wish" q2 153),
  (155, tp),
  (157, tu [vs "shop" 385, vs "wish" 386, vs "pick" 387, vs "found" 388, vs "need" 389, vs "at" 390]),
  (158, tp),
  (160, ca "agenda_of" "agenda_of" 382 41 3 391 160),
  (161, fu 21 none "agenda_of" q2 160),
  (162, tp),
  (164, tu [vs "thing" 399, vs "many" 400]),
  (165, tp),
  (167, ca "is_number" "is_number" 396 55 2 401 167),
  (168, fu 23 none "is_number" q3 167),
  (169, tp),
  (171, tu [vs "shop" 407, vs "pairs" 408, vs "found" 409, vs "pair" 410]),
  (172, tp),
  (174, ca "granted_of" "granted_of" 404 57 2 411 174),
  (175, fu 24 none "granted_of" q3 174),
  (176, tp),
  (178, tu [vs "granted" 417, vs "ware" 418, vs "make" 419]),
  (179, tp),
  (181, ca "is_granted" "is_granted" 414 66 3 420 181),
  (182, fu 25 none "is_granted" q3 181),
  (183, tp),
  (185, tu [vs "shop" 426, vs "wish" 427, vs "granted" 428, vs "ware" 429, vs "source" 430, vs "need" 431, vs "needs" 432]),
  (186, tp),
  (188, ca "stretch_of" "stretch_of" 423 68 5 433 188),
  (189, fu 26 none "stretch_of" q3 188),
  (190, tp),
  (193, cb "left_by" "left_by" 436 83 3 439 193),
  (194, fu 27 none "left_by" q3 193),
  (195, tp),
  (197, tu [vs "branches" 445, vs "makes" 446, vs "pair" 447, vs "make" 448]),
  (198, tp),
  (200, ca "is_branch_row" "is_branch_row" 442 89 2 449 200),
  (201, fu 28 none "is_branch_row" q3 200),
  (202, tp),
  (205, cb "holds_by" "holds_by" 452 96 4 455 205),
  (206, fu 29 none "holds_by" q3 205),
  (207, tp),
  (209, tu [vs "shop" 461, vs "wish" 462, vs "pairs" 463, vs "thing" 464]),
  (210, tp),
  (212, ca "holds" "holds" 458 113 4 465 212),
  (213, fu 30 none "holds" q3 212),
  (214, tp),
  (217, cb "sources_for" "sources_for" 470 117 4 473 217),
  (218, fu 32 none "sources_for" q4 217),
  (219, tp),
  (221, tu [vs "shop" 479, vs "pairs" 480, vs "picked" 481, vs "ware" 482, vs "make" 483, vs "k" 484, vs "need" 485]),
  (222, tp),
  (224, ca "clash" "clash" 476 124 2 486 224),
  (225, fu 33 none "clash" q4 224),
  (226, tp),
  (228, tu [vs "shop" 492, vs "wish" 493, vs "pairs" 494, vs "ware" 495, vs "make" 496, vs "sources" 497, vs "granted" 498, vs "source" 499, vs "low" 500, vs "high" 501]),
  (229, tp),
  (231, ca "outside" "outside" 489 131 6 502 231),
  (232, fu 34 none "outside" q4 231),
  (233, tp),
  (236, cb "settled" "settled" 505 138 3 508 236),
  (237, fu 35 none "settled" q4 236),
  (238, tp),
  (240, tu [vs "shop" 514, vs "wish" 515, vs "found" 516, vs "reason" 517]),
  (241, tp),
  (243, ca "settle" "settle" 511 159 2 518 243),
  (244, fu 36 none "settle" q4 243),
  (245, tp),
  (247, tu [vs "ware" 532, vs "needs" 533, vs "met" 534, vs "need" 535]),
  (248, tp),
  (250, ca "need_needs" "need_needs" 529 169 2 536 250),
  (251, fu 41 none "need_needs" q5 250),
  (259, tp),
  (261, tu [vs "self" 554]),
  (262, tp),
  (264, ca "__init__" "Shop.__init__" 551 179 1 555 264),
  (265, fu 42 (some 0) "Shop.__init__" q5 264),
  (266, tp),
  (268, tu [vs "self" 561, vs "ware" 562, vs "make" 563]),
  (269, tp),
  (271, ca "has" "Shop.has" 558 182 3 564 271),
  (272, fu 42 (some 1) "Shop.has" q5 271),
  (273, tp),
  (275, tu [vs "self" 570, vs "ware" 571, vs "make" 572, vs "needs" 573]),
  (276, tp),
  (278, ca "put" "Shop.put" 567 185 4 574 278),
  (279, fu 42 (some 2) "Shop.put" q5 278),
  (280, tp),
  (282, tu [vs "self" 580, vs "ware" 581, vs "make" 582]),
  (283, tp),
  (285, ca "take" "Shop.take" 577 199 3 583 285),
  (286, fu 42 (some 3) "Shop.take" q5 285),
  (287, tp),
  (289, tu [vs "self" 589, vs "ware" 590]),
  (290, tp),
  (292, ca "makes" "Shop.makes" 586 206 2 591 292),
  (293, fu 42 (some 4) "Shop.makes" q5 292),
  (294, tp),
  (296, tu [vs "self" 597, vs "ware" 598, vs "make" 599]),
  (297, tp),
  (299, ca "needs" "Shop.needs" 594 211 3 600 299),
  (300, fu 42 (some 5) "Shop.needs" q5 299),
  (301, tp),
  (303, tu [vs "self" 606]),
  (304, tp),
  (306, ca "wares" "Shop.wares" 603 216 1 607 306),
  (307, fu 42 (some 6) "Shop.wares" q5 306),
  (308, tu [vs "kept" 610]),
  (309, di [(de P "__module__" 546 (vs "pickfloor.shop" 521)), (de P "__firstlineno__" 550 (.int 177 549)), (de P "__init__" 557 (.ref 265)), (de P "has" 566 (.ref 272)), (de P "put" 576 (.ref 279)), (de P "take" 585 (.ref 286)), (de P "makes" 593 (.ref 293)), (de P "needs" 602 (.ref 300)), (de P "wares" 609 (.ref 307)), (de P "__static_attributes__" 611 (.ref 308)), (de P "__dict__" 613 (.ref 311)), (de P "__weakref__" 615 (.ref 312)), (de P "__doc__" 616 .none)] 4),
  (310, { cls := .type "type", data := Data.cls { name := Str.ofString "Shop", bases := [.type "object"], mro := [.ref 310, .type "object"], ns := 309, qualname := Str.ofString "Shop" }, slots := #[none, none, some (vs "Shop" 539), some (vs "Shop" 547), some (.builtin "object.__new__"), some (.bool true)] }),
  (311, { cls := .type "getset_descriptor", data := Data.fields #[vs "__dict__" 612, .ref 310, .builtin "function.__dict__", .builtin "function.__dict__#set"] }),
  (312, { cls := .type "getset_descriptor", data := Data.fields #[vs "__weakref__" 614, .ref 310, .builtin "ExceptionGroup.__weakref__", .none] }),
  (315, tp),
  (317, tu [vs "_law_script" 624, vs "_law_k" 625, vs "_law_cell" 626, vs "_law_number" 627]),
  (318, tp),
  (320, ca "_law_mixed" "_law_mixed" 621 219 2 628 320),
  (321, fu 44 none "_law_mixed" q6 320),
  (322, tp),
  (325, cb "_law_names" "_law_names" 631 225 2 634 325),
  (326, fu 45 none "_law_names" q6 325),
  (327, tp),
  (329, tu [vs "_law_number" 640, vs "_law_makes" 641, vs "_law_one" 642, vs "_law_other_here" 643, vs "_law_way" 644]),
  (330, tp),
  (332, ca "_law_stretch" "_law_stretch" 637 238 2 645 332),
  (333, fu 46 none "_law_stretch" q6 332),
  (334, tp),
  (337, cb "_law_needs" "_law_needs" 648 253 5 651 337),
  (338, fu 47 none "_law_needs" q6 337),
  (339, tp),
  (342, cb "_law_rows" "_law_rows" 654 265 3 657 342),
  (343, fu 48 none "_law_rows" q6 342),
  (344, tp),
  (346, tu [vs "_law_script" 663, vs "_law_rows_here" 664, vs "_law_most" 665, vs "_law_names_here" 666, vs "_law_found" 667, vs "_law_number" 668, vs "_law_turn" 669, vs "_law_name" 670, vs "_law_low" 671, vs "_law_high" 672]),
  (347, tp),
  (349, ca "_law_wish" "_law_wish" 660 279 3 673 349),
  (350, fu 49 none "_law_wish" q6 349),
  (351, tp),
  (353, tu [vs "_law_rows_here" 679, vs "_law_shop_here" 680, vs "_law_ware" 681, vs "_law_make" 682]),
  (354, tp),
  (356, ca "_law_shop" "_law_shop" 676 291 1 683 356),
  (357, fu 50 none "_law_shop" q6 356),
  (358, tp),
  (360, tu [vs "_law_thing" 689, vs "_law_many" 690]),
  (361, tp),
  (363, ca "_law_place" "_law_place" 686 297 2 691 363),
  (364, fu 51 none "_law_place" q6 363),
  (365, tp),
  (367, tu [vs "_law_granted_here" 697, vs "_law_source_here" 698]),
  (368, tp),
  (370, ca "_law_granted" "_law_granted" 694 299 2 699 370),
  (371, fu 52 none "_law_granted" q6 370),
  (372, tp),
  (374, tu [vs "_law_rows_here" 705, vs "_law_wish_here" 706, vs "_law_granted_here" 707, vs "_law_ware" 708, vs "_law_source_here" 709, vs "_law_need" 710, vs "_law_needs_here" 711]),
  (375, tp),
  (377, ca "_law_source" "_law_source" 702 303 5 712 377),
  (378, fu 53 none "_law_source" q6 377),
  (379, tp),
  (382, cb "_law_holds" "_law_holds" 715 318 4 718 382),
  (383, fu 54 none "_law_holds" q6 382),
  (384, tp),
  (386, tu [vs "_law_shop_here" 724, vs "_law_wish_here" 725, vs "_law_number" 726, vs "_law_found" 727, vs "_law_rows_here" 728, vs "_law_k" 729, vs "_law_make" 730, vs "_law_reason" 731]),
  (387, tp),
  (389, ca "_law_told" "_law_told" 721 339 3 732 389),
  (390, fu 55 none "_law_told" q6 389),
  (391, tp),
  (393, tu [vs "_law_wares" 738, vs "_law_number" 739, vs "_law_ware" 740, vs "_law_make" 741, vs "_law_some" 742]),
  (394, tp),
  (396, ca "_law_odd_source" "_law_odd_source" 735 350 2 743 396),
  (397, fu 56 none "_law_odd_source" q6 396),
  (398, tp),
  (400, tu [vs "_law_thing" 749, vs "_law_found" 750, vs "_law_part" 751]),
  (401, tp),
  (403, ca "_law_truths" "_law_truths" 746 356 1 752 403),
  (404, fu 57 none "_law_truths" q6 403),
  (405, tp),
  (407, tu [vs "_law_sources" 758, vs "_law_wares" 759, vs "_law_number" 760, vs "_law_at" 761]),
  (408, tp),
  (410, ca "_law_other_sources" "_law_other_sources" 755 364 3 762 410),
  (411, fu 58 none "_law_other_sources" q6 410),
  (412, tp),
  (414, tu [vs "_law_branches" 768, vs "_law_number" 769, vs "_law_at" 770, vs "_law_make" 771, vs "_law_reason" 772, vs "_law_way" 773, vs "_law_odd" 774]),
  (415, tp),
  (417, ca "_law_other_branches" "_law_other_branches" 765 373 2 775 417),
  (418, fu 59 none "_law_other_branches" q6 417),
  (419, tp),
  (421, tu [vs "_law_reason" 781, vs "_law_wares" 782, vs "_law_number" 783, vs "_law_ware" 784, vs "_law_sources" 785, vs "_law_branches" 786, vs "_law_at" 787, vs "_law_make" 788, vs "_law_branch" 789, vs "_law_odd" 790]),
  (422, tp),
  (424, ca "_law_other" "_law_other" 778 386 3 791 424),
  (425, fu 60 none "_law_other" q6 424),
  (426, tp),
  (429, cb "_law_copy" "_law_copy" 794 401 1 797 429),
  (430, fu 61 none "_law_copy" q6 429),
  (431, tp),
  (434, cb "_law_shop_changed" "_law_shop_changed" 800 406 3 803 434),
  (435, fu 62 none "_law_shop_changed" q6 434),
  (436, tp),
  (439, cb "_law_there" "_law_there" 806 419 2 809 439),
  (440, fu 63 none "_law_there" q6 439),
  (441, tp),
  (443, tu [vs "_law_shop_here" 815, vs "_law_wish_here" 816, vs "_law_pairs" 817, vs "_law_thing" 818]),
  (444, tp),
  (446, ca "_law_spoilt" "_law_spoilt" 812 421 4 819 446),
  (447, fu 64 none "_law_spoilt" q6 446),
  (448, tp),
  (451, cb "law" "law" 822 427 1 825 451),
  (452, fu 65 none "law" q6 451)]
noncomputable def asL : List Addr := [2, 3, 15, 22, 23, 24, 25, 28, 35, 36, 37, 40, 47, 48, 49, 52, 59, 60, 61, 64, 71, 72, 73, 76, 83, 84, 85, 88, 95, 96, 97, 100, 107, 108, 109, 112, 119, 120, 121, 124, 127, 128, 129, 131, 132, 134, 135, 136, 138, 139, 141, 142, 143, 145, 146, 148, 149, 150, 153, 154, 155, 157, 158, 160, 161, 162, 164, 165, 167, 168, 169, 171, 172, 174, 175, 176, 178, 179, 181, 182, 183, 185, 186, 188, 189, 190, 193, 194, 195, 197, 198, 200, 201, 202, 205, 206, 207, 209, 210, 212, 213, 214, 217, 218, 219, 221, 222, 224, 225, 226, 228, 229, 231, 232, 233, 236, 237, 238, 240, 241, 243, 244, 245, 247, 248, 250, 251, 259, 261, 262, 264, 265, 266, 268, 269, 271, 272, 273, 275, 276, 278, 279, 280, 282, 283, 285, 286, 287, 289, 290, 292, 293, 294, 296, 297, 299, 300, 301, 303, 304, 306, 307, 308, 309, 310, 311, 312, 315, 317, 318, 320, 321, 322, 325, 326, 327, 329, 330, 332, 333, 334, 337, 338, 339, 342, 343, 344, 346, 347, 349, 350, 351, 353, 354, 356, 357, 358, 360, 361, 363, 364, 365, 367, 368, 370, 371, 372, 374, 375, 377, 378, 379, 382, 383, 384, 386, 387, 389, 390, 391, 393, 394, 396, 397, 398, 400, 401, 403, 404, 405, 407, 408, 410, 411, 412, 414, 415, 417, 418, 419, 421, 422, 424, 425, 426, 429, 430, 431, 434, 435, 436, 439, 440, 441, 443, 444, 446, 447, 448, 451, 452]
noncomputable def o (k : Nat) (P : Params) : Obj := (((K P)[k]?).map (·.2)).getD default
noncomputable def fo (k : Nat) (P : Params) : FuncData := match (o k P).data with | .func f => f | _ => default
noncomputable def fz (k : Nat) (P : Params) : Obj := { cls := .none, dict := none, data := Data.func { fo k P with globals := 0, pyModule := .none, code := .none }, slots := #[] }
noncomputable def su (k : Nat) : Obj := { cls := .type "super", data := Data.fields #[.ref k, .ref k, .ref k] }
noncomputable def bi (k : Nat) : Obj := { cls := .type "builtin_function_or_method", data := Data.fields #[.builtin "object.__init_subclass__", .ref k] }
noncomputable def xs (P : Params) : List Obj := [
  tp,
  nf,
  co "<module>" 182 "<module>" 183 184 186 [vi 1, vi 0, vi 0, vi 0, vi 0, .ref 11, .bool false, vi 181, .ref 12, .none, .none, .none, .none, vi 185, vi 1],
  fm 13 3 3 (vs "__main__" 164),
  di [(de P "__name__" 165 (vs "pickfloor.errors" 187)), (de P "__doc__" 166 .none), (de P "__package__" 167 .none), (de P "__loader__" 168 (.builtin "__main__.__loader__#opaque")), (de P "__spec__" 169 .none), (de P "__annotations__" 170 (.ref 6)), (de P "__builtins__" 171 (.ref 4)), (de P "__file__" 173 (vs "/claim/cut.py" 172)), (de P "__cached__" 174 .none), (de P "PickError" 206 (.ref 24)), (de P "BadWare" 222 (.ref 37)), (de P "BadMake" 238 (.ref 49)), (de P "BadNeed" 254 (.ref 61)), (de P "Twice" 270 (.ref 73))] 14,
  nl [vi 2, vi 0, .ref 20, vi 4, vi 0, .ref 33, vi 6, vi 0, .ref 45, vi 8, vi 0, .ref 57, vi 10, vi 0, .ref 69],
  bp,
  di [(de P "__module__" 196 (vs "pickfloor.errors" 187)), (de P "__qualname__" 198 (vs "PickError" 197)), (de P "__firstlineno__" 200 (Value.int 2 199)), (de P "__static_attributes__" 201 (.ref 22))] 4,
  tp,
  nf,
  co "PickError" 191 "PickError" 192 193 195 [vi 2, vi 0, vi 0, vi 0, vi 0, .ref 18, .bool false, vi 181, .ref 19, .none, .none, .none, .none, vi 194, vi 2],
  fm 20 3 17 (vs "pickfloor.errors" 187),
  { cls := .type "type", data := Data.cls { name := Str.ofString "PickError", bases := [.type "ValueError"], mro := [.ref 24, .type "ValueError", .type "Exception", .type "BaseException", .type "object"], ns := 23, qualname := Str.ofString "PickError", subclasses := [.ref 37, .ref 49, .ref 61, .ref 73] }, slots := #[some (.ref 15), none, some (vs "PickError" 189), some (vs "PickError" 197), some (.builtin "ValueError.__new__"), some (.bool true)] },
  su 24,
  bi 24,
  bp,
  di [(de P "__module__" 214 (vs "pickfloor.errors" 187)), (de P "__qualname__" 216 (vs "BadWare" 215)), (de P "__firstlineno__" 218 (Value.int 4 217)), (de P "__static_attributes__" 219 (.ref 35))] 4,
  tp,
  nf,
  co "BadWare" 209 "BadWare" 210 211 213 [vi 4, vi 0, vi 0, vi 0, vi 0, .ref 31, .bool false, vi 181, .ref 32, .none, .none, .none, .none, vi 212, vi 4],
  fm 33 3 30 (vs "pickfloor.errors" 187),
  su 37,
  bi 37,
  bp,
  di [(de P "__module__" 230 (vs "pickfloor.errors" 187)), (de P "__qualname__" 232 (vs "BadMake" 231)), (de P "__firstlineno__" 234 (Value.int 6 233)), (de P "__static_attributes__" 235 (.ref 47))] 4,
  tp,
  nf,
  co "BadMake" 225 "BadMake" 226 227 229 [vi 6, vi 0, vi 0, vi 0, vi 0, .ref 43, .bool false, vi 181, .ref 44, .none, .none, .none, .none, vi 228, vi 6],
  fm 45 3 42 (vs "pickfloor.errors" 187),
  su 49,
  bi 49,
  bp,
  di [(de P "__module__" 246 (vs "pickfloor.errors" 187)), (de P "__qualname__" 248 (vs "BadNeed" 247)), (de P "__firstlineno__" 250 (Value.int 8 249)), (de P "__static_attributes__" 251 (.ref 59))] 4,
  tp,
  nf,
  co "BadNeed" 241 "BadNeed" 242 243 245 [vi 8, vi 0, vi 0, vi 0, vi 0, .ref 55, .bool false, vi 181, .ref 56, .none, .none, .none, .none, vi 244, vi 8],
  fm 57 3 54 (vs "pickfloor.errors" 187),
  su 61,
  bi 61,
  bp,
  di [(de P "__module__" 262 (vs "pickfloor.errors" 187)), (de P "__qualname__" 264 (vs "Twice" 263)), (de P "__firstlineno__" 266 (Value.int 10 265)), (de P "__static_attributes__" 267 (.ref 71))] 4,
  tp,
  nf,
  co "Twice" 257 "Twice" 258 259 261 [vi 10, vi 0, vi 0, vi 0, vi 0, .ref 67, .bool false, vi 181, .ref 68, .none, .none, .none, .none, vi 260, vi 10],
  fm 69 3 66 (vs "pickfloor.errors" 187),
  su 73,
  bi 73,
  di [(de P "__name__" 165 (vs "pickfloor.reasons" 394)), (de P "__doc__" 166 .none), (de P "__package__" 167 .none), (de P "__loader__" 168 (.builtin "__main__.__loader__#opaque")), (de P "__spec__" 169 .none), (de P "__annotations__" 170 (.ref 6)), (de P "__builtins__" 171 (.ref 4)), (de P "__file__" 173 (vs "/claim/cut.py" 172)), (de P "__cached__" 174 .none), (de P "PickError" 206 (.ref 24)), (de P "BadWare" 222 (.ref 37)), (de P "BadMake" 238 (.ref 49)), (de P "BadNeed" 254 (.ref 61)), (de P "Twice" 270 (.ref 73)), (de P "Full" 286 (.ref 85)), (de P "NoMake" 302 (.ref 97)), (de P "BadWish" 318 (.ref 109)), (de P "BadPick" 334 (.ref 121)), (de P "LETTERS" 338 (vs "abcdefghijklmnopqrstuvwxyz" 337)), (de P "MOST_LETTERS" 340 (Value.int 8 339)), (de P "MOST_MAKE" 342 (Value.int 999 341)), (de P "is_ware" 348 (.ref 128)), (de P "is_make" 355 (.ref 135)), (de P "is_need" 362 (.ref 142)), (de P "within" 371 (.ref 149)), (de P "MOST_WISHES" 375 (Value.int 8 374)), (de P "need_wish" 381 (.ref 154)), (de P "agenda_of" 393 (.ref 161)), (de P "is_number" 403 (.ref 168)), (de P "granted_of" 413 (.ref 175)), (de P "is_granted" 422 (.ref 182))] 31,
  nl [vi 2, vi 0, .ref 20, vi 4, vi 0, .ref 33, vi 6, vi 0, .ref 45, vi 8, vi 0, .ref 57, vi 10, vi 0, .ref 69, vi 12, vi 0, .ref 81, vi 14, vi 0, .ref 93, vi 16, vi 0, .ref 105, vi 18, vi 0, .ref 117, vi 24, vi 0, .ref 127, vi 28, vi 0, .ref 134, vi 30, vi 0, .ref 141, vi 34, vi 0, .ref 148, vi 38, vi 0, .ref 153, vi 41, vi 0, .ref 160, vi 55, vi 0, .ref 167, vi 57, vi 0, .ref 174, vi 66, vi 0, .ref 181],
  bp,
  di [(de P "__module__" 278 (vs "pickfloor.errors" 187)), (de P "__qualname__" 280 (vs "Full" 279)), (de P "__firstlineno__" 282 (Value.int 12 281)), (de P "__static_attributes__" 283 (.ref 83))] 4,
  tp,
  nf,
  co "Full" 273 "Full" 274 275 277 [vi 12, vi 0, vi 0, vi 0, vi 0, .ref 79, .bool false, vi 181, .ref 80, .none, .none, .none, .none, vi 276, vi 12],
  fm 81 3 78 (vs "pickfloor.errors" 187),
  su 85,
  bi 85,
  bp,
  di [(de P "__module__" 294 (vs "pickfloor.errors" 187)), (de P "__qualname__" 296 (vs "NoMake" 295)), (de P "__firstlineno__" 298 (Value.int 14 297)), (de P "__static_attributes__" 299 (.ref 95))] 4,
  tp,
  nf,
  co "NoMake" 289 "NoMake" 290 291 293 [vi 14, vi 0, vi 0, vi 0, vi 0, .ref 91, .bool false, vi 181, .ref 92, .none, .none, .none, .none, vi 292, vi 14],
  fm 93 3 90 (vs "pickfloor.errors" 187),
  su 97,
  bi 97,
  bp,
  di [(de P "__module__" 310 (vs "pickfloor.errors" 187)), (de P "__qualname__" 312 (vs "BadWish" 311)), (de P "__firstlineno__" 314 (Value.int 16 313)), (de P "__static_attributes__" 315 (.ref 107))] 4,
  tp,
  nf,
  co "BadWish" 305 "BadWish" 306 307 309 [vi 16, vi 0, vi 0, vi 0, vi 0, .ref 103, .bool false, vi 181, .ref 104, .none, .none, .none, .none, vi 308, vi 16],
  fm 105 3 102 (vs "pickfloor.errors" 187),
  su 109,
  bi 109,
  bp,
  di [(de P "__module__" 326 (vs "pickfloor.errors" 187)), (de P "__qualname__" 328 (vs "BadPick" 327)), (de P "__firstlineno__" 330 (Value.int 18 329)), (de P "__static_attributes__" 331 (.ref 119))] 4,
  tp,
  nf,
  co "BadPick" 321 "BadPick" 322 323 325 [vi 18, vi 0, vi 0, vi 0, vi 0, .ref 115, .bool false, vi 181, .ref 116, .none, .none, .none, .none, vi 324, vi 18],
  fm 117 3 114 (vs "pickfloor.errors" 187),
  su 121,
  bi 121,
  nf,
  fz 41 P,
  nf,
  fz 46 P,
  nf,
  fz 51 P,
  nf,
  fz 56 P,
  nf,
  fz 59 P,
  nf,
  fz 64 P,
  nf,
  fz 69 P,
  nf,
  fz 74 P,
  nf,
  fz 79 P,
  di [(de P "__name__" 165 (vs "law_uf010025_07" 619)), (de P "__doc__" 166 .none), (de P "__package__" 167 .none), (de P "__loader__" 168 (.builtin "__main__.__loader__#opaque")), (de P "__spec__" 169 .none), (de P "__annotations__" 170 (.ref 6)), (de P "__builtins__" 171 (.ref 4)), (de P "__file__" 173 (vs "/claim/cut.py" 172)), (de P "__cached__" 174 .none), (de P "PickError" 206 (.ref 24)), (de P "BadWare" 222 (.ref 37)), (de P "BadMake" 238 (.ref 49)), (de P "BadNeed" 254 (.ref 61)), (de P "Twice" 270 (.ref 73)), (de P "Full" 286 (.ref 85)), (de P "NoMake" 302 (.ref 97)), (de P "BadWish" 318 (.ref 109)), (de P "BadPick" 334 (.ref 121)), (de P "LETTERS" 338 (vs "abcdefghijklmnopqrstuvwxyz" 337)), (de P "MOST_LETTERS" 340 (Value.int 8 339)), (de P "MOST_MAKE" 342 (Value.int 999 341)), (de P "is_ware" 348 (.ref 128)), (de P "is_make" 355 (.ref 135)), (de P "is_need" 362 (.ref 142)), (de P "within" 371 (.ref 149)), (de P "MOST_WISHES" 375 (Value.int 8 374)), (de P "need_wish" 381 (.ref 154)), (de P "agenda_of" 393 (.ref 161)), (de P "is_number" 403 (.ref 168)), (de P "granted_of" 413 (.ref 175)), (de P "is_granted" 422 (.ref 182)), (de P "stretch_of" 435 (.ref 189)), (de P "left_by" 441 (.ref 194)), (de P "is_branch_row" 451 (.ref 201)), (de P "holds_by" 457 (.ref 206)), (de P "holds" 467 (.ref 213)), (de P "sources_for" 475 (.ref 218)), (de P "clash" 488 (.ref 225)), (de P "outside" 504 (.ref 232)), (de P "settled" 510 (.ref 237)), (de P "settle" 520 (.ref 244)), (de P "MOST_WARES" 524 (Value.int 12 523)), (de P "MOST_MAKES" 526 (Value.int 8 525)), (de P "MOST_NEEDS" 528 (Value.int 6 527)), (de P "need_needs" 538 (.ref 251)), (de P "Shop" 618 (.ref 310)), (de P "_law_mixed" 630 (.ref 321)), (de P "_law_names" 636 (.ref 326)), (de P "_law_stretch" 647 (.ref 333)), (de P "_law_needs" 653 (.ref 338)), (de P "_law_rows" 659 (.ref 343)), (de P "_law_wish" 675 (.ref 350)), (de P "_law_shop" 685 (.ref 357)), (de P "_law_place" 693 (.ref 364)), (de P "_law_granted" 701 (.ref 371)), (de P "_law_source" 714 (.ref 378)), (de P "_law_holds" 720 (.ref 383)), (de P "_law_told" 734 (.ref 390))] 58,
  nl [vi 2, vi 0, .ref 20, vi 4, vi 0, .ref 33, vi 6, vi 0, .ref 45, vi 8, vi 0, .ref 57, vi 10, vi 0, .ref 69, vi 12, vi 0, .ref 81, vi 14, vi 0, .ref 93, vi 16, vi 0, .ref 105, vi 18, vi 0, .ref 117, vi 24, vi 0, .ref 127, vi 28, vi 0, .ref 134, vi 30, vi 0, .ref 141, vi 34, vi 0, .ref 148, vi 38, vi 0, .ref 153, vi 41, vi 0, .ref 160, vi 55, vi 0, .ref 167, vi 57, vi 0, .ref 174, vi 66, vi 0, .ref 181, vi 68, vi 0, .ref 188, vi 83, vi 0, .ref 193, vi 89, vi 0, .ref 200, vi 96, vi 0, .ref 205, vi 113, vi 0, .ref 212, vi 117, vi 0, .ref 217, vi 124, vi 0, .ref 224, vi 131, vi 0, .ref 231, vi 138, vi 0, .ref 236, vi 159, vi 0, .ref 243, vi 169, vi 0, .ref 250, vi 177, vi 0, .ref 257, vi 219, vi 0, .ref 320, vi 225, vi 0, .ref 325, vi 238, vi 0, .ref 332, vi 253, vi 0, .ref 337, vi 265, vi 0, .ref 342, vi 279, vi 0, .ref 349, vi 291, vi 0, .ref 356, vi 297, vi 0, .ref 363, vi 299, vi 0, .ref 370, vi 303, vi 0, .ref 377, vi 318, vi 0, .ref 382, vi 339, vi 0, .ref 389],
  nf,
  fz 84 P,
  nf,
  fz 87 P,
  nf,
  fz 92 P,
  nf,
  fz 95 P,
  nf,
  fz 100 P,
  nf,
  fz 103 P,
  nf,
  fz 108 P,
  nf,
  fz 113 P,
  nf,
  fz 116 P,
  nf,
  fz 121 P,
  nf,
  fz 126 P,
  tp,
  bp,
  di [(de P "__module__" 546 (vs "pickfloor.shop" 521)), (de P "__qualname__" 548 (vs "Shop" 547)), (de P "__firstlineno__" 550 (Value.int 177 549)), (de P "__init__" 557 (.ref 265)), (de P "has" 566 (.ref 272)), (de P "put" 576 (.ref 279)), (de P "take" 585 (.ref 286)), (de P "makes" 593 (.ref 293)), (de P "needs" 602 (.ref 300)), (de P "wares" 609 (.ref 307)), (de P "__static_attributes__" 611 (.ref 308))] 11,
  tp,
  nl [vi 179, vi 4, .ref 264, vi 182, vi 4, .ref 271, vi 185, vi 4, .ref 278, vi 199, vi 4, .ref 285, vi 206, vi 4, .ref 292, vi 211, vi 4, .ref 299, vi 216, vi 4, .ref 306],
  co "Shop" 541 "Shop" 542 543 545 [vi 177, vi 0, vi 0, vi 0, vi 0, .ref 255, .bool false, vi 181, .ref 256, .none, .none, .none, .none, vi 544, vi 177],
  fm 257 3 254 (vs "pickfloor.shop" 521),
  nf,
  fz 131 P,
  nf,
  fz 136 P,
  nf,
  fz 141 P,
  nf,
  fz 146 P,
  nf,
  fz 151 P,
  nf,
  fz 156 P,
  nf,
  fz 161 P,
  su 310,
  bi 310,
  nf,
  fz 171 P,
  nf,
  fz 174 P,
  nf,
  fz 179 P,
  nf,
  fz 182 P,
  nf,
  fz 185 P,
  nf,
  fz 190 P,
  nf,
  fz 195 P,
  nf,
  fz 200 P,
  nf,
  fz 205 P,
  nf,
  fz 210 P,
  nf,
  fz 213 P,
  nf,
  fz 218 P,
  nl [vi 2, vi 0, .ref 20, vi 4, vi 0, .ref 33, vi 6, vi 0, .ref 45, vi 8, vi 0, .ref 57, vi 10, vi 0, .ref 69, vi 12, vi 0, .ref 81, vi 14, vi 0, .ref 93, vi 16, vi 0, .ref 105, vi 18, vi 0, .ref 117, vi 24, vi 0, .ref 127, vi 28, vi 0, .ref 134, vi 30, vi 0, .ref 141, vi 34, vi 0, .ref 148, vi 38, vi 0, .ref 153, vi 41, vi 0, .ref 160, vi 55, vi 0, .ref 167, vi 57, vi 0, .ref 174, vi 66, vi 0, .ref 181, vi 68, vi 0, .ref 188, vi 83, vi 0, .ref 193, vi 89, vi 0, .ref 200, vi 96, vi 0, .ref 205, vi 113, vi 0, .ref 212, vi 117, vi 0, .ref 217, vi 124, vi 0, .ref 224, vi 131, vi 0, .ref 231, vi 138, vi 0, .ref 236, vi 159, vi 0, .ref 243, vi 169, vi 0, .ref 250, vi 177, vi 0, .ref 257, vi 219, vi 0, .ref 320, vi 225, vi 0, .ref 325, vi 238, vi 0, .ref 332, vi 253, vi 0, .ref 337, vi 265, vi 0, .ref 342, vi 279, vi 0, .ref 349, vi 291, vi 0, .ref 356, vi 297, vi 0, .ref 363, vi 299, vi 0, .ref 370, vi 303, vi 0, .ref 377, vi 318, vi 0, .ref 382, vi 339, vi 0, .ref 389, vi 350, vi 0, .ref 396, vi 356, vi 0, .ref 403, vi 364, vi 0, .ref 410, vi 373, vi 0, .ref 417, vi 386, vi 0, .ref 424, vi 401, vi 0, .ref 429, vi 406, vi 0, .ref 434, vi 419, vi 0, .ref 439, vi 421, vi 0, .ref 446, vi 427, vi 0, .ref 451],
  nf,
  fz 223 P,
  nf,
  fz 228 P,
  nf,
  fz 233 P,
  nf,
  fz 238 P,
  nf,
  fz 243 P,
  nf,
  fz 246 P,
  nf,
  fz 249 P,
  nf,
  fz 252 P,
  nf,
  fz 257 P,
  nf,
  fz 260 P]
noncomputable def x (k : Nat) (P : Params) : Obj := ((xs P)[k]?).getD default
noncomputable def bo (P : Params) : List Obj := [boot_o_0 P, boot_o_1 P, boot_o_2 P, boot_o_3 P, boot_o_4 P, boot_o_5 P, boot_o_6 P, boot_o_7 P, boot_o_8 P, boot_o_9 P, boot_o_10 P]
noncomputable def ob (P : Params) (k : Nat) : Obj := cond (Nat.blt k 1000) (o k P) (cond (Nat.blt k 2000) (x (k - 1000) P) (((bo P)[k - 2000]?).getD default))
noncomputable def up (l : List Nat) : List (Nat × Nat) → List Nat
  | [] => l
  | p :: r => up (l.set p.1 p.2) r
noncomputable def lsa : List Nat := [2000, 2001, 2002, 2003, 2004, 2005, 2006, 2007, 2008, 2009, 2010, 1000, 1001, 1002, 1003]
noncomputable def ls1 : List Nat := up lsa [(3, 1004), (12, 1005)] ++ [2, 1006, 1007, 1008, 1009, 1010, 1011, 3, 4, 1012, 6, 1013, 1014, 7, 1015, 1016, 1017, 1018, 1019, 1020, 8, 9, 10, 1021, 1022, 11, 1023, 1024, 1025, 1026, 1027, 1028, 12, 13, 14, 1029, 1030, 15, 1031, 1032, 1033, 1034, 1035, 1036, 16, 17, 18, 1037, 1038, 19, 1039, 1040, 1041, 1042, 1043, 1044, 20, 21, 22, 1045, 1046]
noncomputable def ls2 : List Nat := up ls1 [(3, 1047), (12, 1048), (24, 5)] ++ [23, 1049, 1050, 1051, 1052, 1053, 1054, 24, 25, 26, 1055, 1056, 27, 1057, 1058, 1059, 1060, 1061, 1062, 28, 29, 30, 1063, 1064, 31, 1065, 1066, 1067, 1068, 1069, 1070, 32, 33, 34, 1071, 1072, 35, 1073, 1074, 1075, 1076, 1077, 1078, 36, 37, 38, 1079, 1080, 39, 1081, 1082, 40, 41, 42, 1083, 43, 44, 1084, 45, 46, 47, 1085, 48, 49, 1086, 50, 51, 52, 1087, 53, 54, 1088, 55, 56, 57, 1089, 1090, 58, 59, 60, 1091, 61, 62, 1092, 63, 64, 65, 1093, 66, 67, 1094, 68, 69, 70, 1095, 71, 72, 1096, 73, 74, 75, 1097, 76, 77, 1098, 78, 79]
noncomputable def ls3 : List Nat := up ls2 [(3, 1099), (12, 1100)] ++ [80, 1101, 81, 82, 1102, 83, 84, 85, 1103, 1104, 86, 87, 88, 1105, 89, 90, 1106, 91, 92, 93, 1107, 1108, 94, 95, 96, 1109, 97, 98, 1110, 99, 100, 101, 1111, 1112, 102, 103, 104, 1113, 105, 106, 1114, 107, 108, 109, 1115, 110, 111, 1116, 112, 113, 114, 1117, 1118, 115, 116, 117, 1119, 118, 119, 1120, 120, 121, 122, 1121, 123, 124, 1122, 125, 126, 1123, 1124, 1125, 1126, 1127, 1128, 1129, 127, 1130, 128, 129, 1131, 130, 131, 132, 1132, 133, 134, 1133, 135, 136, 137, 1134, 138, 139, 1135, 140, 141, 142, 1136, 143, 144, 1137, 145, 146, 147, 1138, 148, 149, 1139, 150, 151, 152, 1140, 153, 154, 1141, 155, 156, 157, 1142, 158, 159, 1143, 160, 161, 162, 163, 164, 165, 166, 1144, 1145, 167, 1146, 168, 169, 1147, 170, 171, 172, 1148, 1149, 173, 174, 175, 1150, 176, 177, 1151, 178, 179, 180, 1152, 1153, 181, 182, 183, 1154, 1155, 184, 185, 186, 1156, 187, 188, 1157, 189, 190, 191, 1158, 192, 193, 1159, 194, 195, 196, 1160, 197, 198, 1161, 199, 200, 201, 1162, 202, 203, 1163, 204, 205, 206, 1164, 207, 208, 1165, 209, 210, 211, 1166, 1167, 212, 213, 214, 1168, 215, 216, 1169, 217, 218]
noncomputable def ls4 : List Nat := up ls3 [(3, 1), (12, 1170)] ++ [219, 1171, 220, 221, 1172, 222, 223, 224, 1173, 225, 226, 1174, 227, 228, 229, 1175, 230, 231, 1176, 232, 233, 234, 1177, 235, 236, 1178, 237, 238, 239, 1179, 240, 241, 1180, 242, 243, 244, 1181, 1182, 245, 246, 247, 1183, 1184, 248, 249, 250, 1185, 1186, 251, 252, 253, 1187, 254, 255, 1188, 256, 257, 258, 1189, 1190, 259, 260]
noncomputable def sa (P : Params) : BT := ofL 400 (lsa.map (ob P))
noncomputable def sb (P : Params) : BT := ofL 400 (lsa.map (ob P))
noncomputable def s1 (P : Params) : BT := ofL 400 (ls1.map (ob P))
noncomputable def s2 (P : Params) : BT := ofL 400 (ls2.map (ob P))
noncomputable def s3 (P : Params) : BT := ofL 400 (ls3.map (ob P))
noncomputable def s4 (P : Params) : BT := ofL 400 (ls4.map (ob P))
noncomputable def last (P : Params) : Heap := ⟨⟨ls4.map (ob P)⟩, life⟩
noncomputable def env : Env := { scope := PySem.Challenge.pw_uf010025_07.main.scope, locals := mainNs, globals := mainNs, cells := [], code := Value.ref 13, frame := some 14 }
noncomputable def sts1 : List Stmt := ((behindTheImports PySem.Challenge.pw_uf010025_07).drop 0).take 6
noncomputable def sts2 : List Stmt := ((behindTheImports PySem.Challenge.pw_uf010025_07).drop 6).take 20
noncomputable def sts3 : List Stmt := ((behindTheImports PySem.Challenge.pw_uf010025_07).drop 26).take 30
noncomputable def sts4 : List Stmt := ((behindTheImports PySem.Challenge.pw_uf010025_07).drop 56).take 10
noncomputable def code : Code := .body (sts1 ++ (sts2 ++ (sts3 ++ (sts4 ++ ([]))))) env
noncomputable def fr : List Frame := [topFrame { line := 0, col := 0, endLine := 0, endCol := 0 }]
theorem pre (w : World) (os : OsState) : topGo treeTable PySem.Challenge.pw_uf010025_07 w 11 (some (Value.ref 6)) 12 ⟨boot_heap w.params, ⟨[]⟩, boot_drawn, boot_toks, os⟩ (topStub PySem.Challenge.pw_uf010025_07) = some (SharedT.abs ⟨sa w.params, 15, life, ⟨[]⟩, drawn, 187, os⟩, ⟨denote treeTable code, code, ({ line := 0, col := 0, endLine := 0, endCol := 0 }), fr⟩) := by kernel_rfl
theorem block (w : World) (os : OsState) : segRunT treeTable PySem.Challenge.pw_uf010025_07 w 11 (some (Value.ref 6)) 1 1 ⟨sa w.params, 15, life, ⟨[]⟩, drawn, 187, os⟩ (blockOf (sts1 ++ (sts2 ++ (sts3 ++ (sts4 ++ ([]))))) env code ({ line := 0, col := 0, endLine := 0, endCol := 0 }) fr) = some (.next, ⟨sb w.params, 15, life, ⟨[]⟩, drawn, 187, os⟩, code, ({ line := 0, col := 0, endLine := 0, endCol := 0 })) := by kernel_rfl
theorem seg1 (w : World) (os : OsState) : segRunT treeTable PySem.Challenge.pw_uf010025_07 w 11 (some (Value.ref 6)) 1 1048 ⟨sb w.params, 15, life, ⟨[]⟩, drawn, 187, os⟩ (piecesOf sts1 env code ({ line := 0, col := 0, endLine := 0, endCol := 0 }) fr) = some (.next, ⟨s1 w.params, 76, life, ⟨[]⟩, drawn, 271, os⟩, code, ({ line := 10, col := 0, endLine := 11, endCol := 8 })) := by kernel_rfl
theorem seg2 (w : World) (os : OsState) : segRunT treeTable PySem.Challenge.pw_uf010025_07 w 11 (some (Value.ref 6)) 1 1184 ⟨s1 w.params, 76, life, ⟨[]⟩, drawn, 271, os⟩ (piecesOf sts2 env code ({ line := 10, col := 0, endLine := 11, endCol := 8 }) fr) = some (.next, ⟨s2 w.params, 183, life, ⟨[]⟩, drawn, 423, os⟩, code, ({ line := 66, col := 0, endLine := 67, endCol := 74 })) := by kernel_rfl
theorem seg3 (w : World) (os : OsState) : segRunT treeTable PySem.Challenge.pw_uf010025_07 w 11 (some (Value.ref 6)) 1 1182 ⟨s2 w.params, 183, life, ⟨[]⟩, drawn, 423, os⟩ (piecesOf sts3 env code ({ line := 66, col := 0, endLine := 67, endCol := 74 }) fr) = some (.next, ⟨s3 w.params, 391, life, ⟨[]⟩, drawn, 735, os⟩, code, ({ line := 339, col := 0, endLine := 349, endCol := 60 })) := by kernel_rfl
theorem seg4 (w : World) (os : OsState) : segRunT treeTable PySem.Challenge.pw_uf010025_07 w 11 (some (Value.ref 6)) 1 306 ⟨s3 w.params, 391, life, ⟨[]⟩, drawn, 735, os⟩ (piecesOf sts4 env code ({ line := 339, col := 0, endLine := 349, endCol := 60 }) fr) = some (.next, ⟨s4 w.params, 453, life, ⟨[]⟩, drawn, 828, os⟩, code, ({ line := 427, col := 0, endLine := 463, endCol := 15 })) := by kernel_rfl
theorem fin (w : World) (os : OsState) : topRun treeTable PySem.Challenge.pw_uf010025_07 w 11 (some (Value.ref 6)) 2 (SharedT.abs ⟨s4 w.params, 453, life, ⟨[]⟩, drawn, 828, os⟩) (restOf [] env code ({ line := 427, col := 0, endLine := 463, endCol := 15 }) fr) = some ⟨last w.params, ⟨[]⟩, drawn, 828, os⟩ := by kernel_rfl
theorem run (w : World) (os : OsState) : topRun treeTable PySem.Challenge.pw_uf010025_07 w 11 (some (Value.ref 6)) (12 + (1 + (1048 + (1184 + (1182 + (306 + (2))))))) ⟨boot_heap w.params, ⟨[]⟩, boot_drawn, boot_toks, os⟩ (topStub PySem.Challenge.pw_uf010025_07) = some ⟨last w.params, ⟨[]⟩, drawn, 828, os⟩ :=
  go_top (pre w os) (piece_block (segRun_of (block w os)) (piece_app (segRun_of (seg1 w os)) (piece_app (segRun_of (seg2 w os)) (piece_app (segRun_of (seg3 w os)) (piece_app (segRun_of (seg4 w os)) (fin w os))))))
theorem le : Nat.ble (12 + (1 + (1048 + (1184 + (1182 + (306 + (2))))))) 12000 = true := by kernel_rfl
theorem op : opening PySem.Challenge.pw_uf010025_07 = plainProg PySem.Challenge.pw_uf010025_07.main.scope.names := by kernel_rfl
theorem fence (s : Shared) : fenceModules? PySem.Challenge.pw_uf010025_07 s = some s := by kernel_rfl
theorem size (w : World) : ((boot_heap w.params).isNs mainGlobals && (Array.mk ([] : List GenState)).size == 0, (boot_heap w.params).objs.size, (boot_heap w.params).nsMap mainGlobals "__annotations__") = (true, 11, some (Value.ref 6)) := by kernel_rfl
noncomputable def q07 : Program := view PySem.Challenge.pw_uf010025_07 [1, 2, 3, 4, 5, 6, 7, 8, 9, 11, 12, 13, 14, 15, 16, 17, 19, 20, 21, 23, 24, 25, 26, 27, 28, 29, 30, 32, 33, 34, 35, 36, 38, 39, 40, 41, 42, 44, 45, 46, 47, 48, 49, 50, 51, 52, 53, 54, 55, 56, 57, 58, 59, 60, 61, 62, 63, 64, 65]
theorem look1 (w : World) (os : OsState) : (staticsOk (importedModules PySem.Challenge.pw_uf010025_07.main.body) (boot_heap w.params) (last w.params) && namesBound PySem.Challenge.pw_uf010025_07 (last w.params) && gensDone ⟨last w.params, ⟨[]⟩, drawn, 828, os⟩ && laidKept (boot_heap w.params) (last w.params)) = true := by kernel_rfl
theorem look2 (w : World) (os : OsState) : openSeen q07 [] (importedModules PySem.Challenge.pw_uf010025_07.main.body) (fun s => xlAt q07 [] s && recOk (RowW.records (OpenRow.toRowW (OpenLaw.row PySem.Challenge.rw_uf010025_07))) s) true ⟨last w.params, ⟨[]⟩, drawn, 828, os⟩ = openGood q07 [] := by kernel_rfl
noncomputable def hk : Hook := kHook K asL (fun _ => by kernel_rfl)
noncomputable def dk := (defOf q07 (OpenLaw.row PySem.Challenge.rw_uf010025_07).name).get (by kernel_rfl)
noncomputable def xt (s : Shared) : Bool := xlAt q07 [] s && recOk (RowW.records (OpenRow.toRowW (OpenLaw.row PySem.Challenge.rw_uf010025_07))) s
noncomputable def top := fun k1 hw hc => (holds_open (r := (OpenLaw.row PySem.Challenge.rw_uf010025_07)) (q := q07) (loose := []) (Xt := xt) (XP := XL q07 []) (Yf := Hook.obs hk) (Ya := Hook.val hk) (YP := Hook.says hk) (d := dk.1) (kwd := dk.2) (N := 12000) (LeftO.of_pieces (p := PySem.Challenge.pw_uf010025_07) (boot_open op rfl fence) size run le (fun w => funext fun os => looks_pair (look1 w os) (looks_pair (look2 w os) (by kernel_rfl)))) (Hook.of hk) (Hook.keeps hk) (fun s e => xl_of s (Bool.and_eq_true_iff.mp e).1) XL.keeps (by kernel_rfl) (by kernel_rfl) (by kernel_rfl) (fun s e => recFacts_of (Bool.and_eq_true_iff.mp e).2) (by rfl) k1 (by decide +kernel) ⟨rfl, rfl, rfl, rfl, rfl, by decide +kernel⟩ hw hc : (OpenLaw.row PySem.Challenge.rw_uf010025_07).Holds)
end Tp
local macro_rules
  | `(tactic| k_head) => do
    let hw := Lean.mkIdent `hw
    let hc := Lean.mkIdent `hc
    `(tactic| refine Tp.top (by first | assumption | decide +kernel) ?$hw ?$hc)
local macro_rules
  | `(tactic| o_law) => `(tactic| refine holds_law (by decide +kernel) fun said => ?_)
open_top hd07 for PySem.Challenge.rw_uf010025_07
end
open PySem
def auS(a:Array Lean.Syntax):Lean.Syntax:= .node .none `Lean.Parser.Tactic.tacticSeq #[.node .none `Lean.Parser.Tactic.tacticSeq1Indented #[.node .none `null a]]
def auX:Lean.Syntax:= .node .none `Lean.Parser.Tactic.withUnfoldingAll #[.atom .none "with_unfolding_all",auS #[.node .none `Lean.Parser.Tactic.exact #[.atom .none "exact",.ident .none "rfl".toRawSubstring `rfl []]]]
def auR:Lean.Syntax:=auS #[auX]
def auF:Lean.Syntax:=auS #[.node .none `Lean.Parser.Tactic.intro #[.atom .none "intro",.node .none `null #[.node .none `Lean.Parser.Term.hole #[.atom .none "_"]]],.atom .none ";",auX]
section
set_option genSizeOf false in
inductive V where
 |none
 |bool (b:Bool)
 |int (i:Int)
 |str (x:Str)
 |tup (vs:List V)
 |lst (vs:List V)
 |dct (es:List (V×V))
 |rng (lo hi st:Int)
 |slc (l u s:V)
 |ref (a:Addr)
 |type (n:String)
 |bi (n:String)
set_option genSizeOf false in
inductive AO where
 |list (vs:List V)
 |dict (es:List (V×V))
 |inst (c dx:Addr) (fs:List (Str×V))
noncomputable abbrev Gh:=Addr->Option Obj
noncomputable abbrev Sto:=List (Addr×Obj×AO)
noncomputable abbrev Loc:=List (Option V)
noncomputable abbrev y3U(vs:Array Value)(n:Nat):Obj:={cls:= .type "tuple",data:= .seq vs n}
noncomputable abbrev z0r(vs:Array Value)(n:Nat):Obj:={cls:= .type "list",data:= .seq vs n}
noncomputable abbrev z1T(es:Array DictEntry)(n:Nat):Obj:={cls:= .type "dict",data:= .dict es n}
noncomputable abbrev y0V(c dx:Addr):Obj:={cls:= .ref c,dict:=some dx}
noncomputable def KH(w:World):V->Int->Prop
 | .int i,h=>h=hashInt i
 | .str x,h=>h=hashStr w x
 |_,_=>False
mutual
inductive VR(w:World)(D:Gh):Value->V->Prop
 |none:VR w D .none .none
 |bool (b:Bool):VR w D (.bool b) (.bool b)
 |int (i:Int) (t:Tok):VR w D (.int i t) (.int i)
 |str (x:Str) (t:Tok):VR w D (.str x t) (.str x)
 |ref (a:Addr):VR w D (.ref a) (.ref a)
 |type (n:String):VR w D (.type n) (.type n)
 |bi (n:String):VR w D (.builtin n) (.bi n)
 |tup {a:Addr} {o:Obj} {vs:List Value} {n:Nat} {Vs:List V}:D a=some o->o.cls= .type "tuple"->o.data= .seq vs.toArray n->VRs w D vs Vs->VR w D (.ref a) (.tup Vs)
 |lst {a:Addr} {vs:List Value} {n:Nat} {Vs:List V}:D a=some (z0r vs.toArray n)->VRs w D vs Vs->VR w D (.ref a) (.lst Vs)
 |rng {a:Addr} {x y z:Int} {t u v:Tok}:D a=some {cls:= .type "range",dict:=none,data:= .fields #[.int x t,.int y u,.int z v],slots:= #[]}->VR w D (.ref a) (.rng x y z)
 |slc {a:Addr} {l u st:Value} {L U S:V}:D a=some {cls:= .type "slice",data:= .fields #[l,u,st]}->VR w D l L->VR w D u U->VR w D st S->VR w D (.ref a) (.slc L U S)
 |dct {a:Addr} {es:List DictEntry} {n:Nat} {Es:List (V×V)}:D a=some (z1T es.toArray n)->VRd w D es Es->VR w D (.ref a) (.dct Es)
inductive VRs(w:World)(D:Gh):List Value->List V->Prop
 |nil:VRs w D [] []
 |cons {v:Value} {x:V} {vs:List Value} {xs:List V}:VR w D v x->VRs w D vs xs->VRs w D (v::vs) (x::xs)
inductive VRd(w:World)(D:Gh):List DictEntry->List (V×V)->Prop
 |nil:VRd w D [] []
 |cons {e:DictEntry} {k x:V} {es:List DictEntry} {xs:List (V×V)}:KH w k e.hash->VR w D e.key k->VR w D e.val x->VRd w D es xs->VRd w D (e::es) ((k,x)::xs)
end
section
variable {w:World} {D:Gh}
noncomputable def VR.I(w:World)(D:Gh)(v:Value):V->Prop
 | .none=>v= .none
 | .bool b=>v= .bool b
 | .int n=>∃t,v= .int n t
 | .str n=>∃t,v= .str n t
 | .ref a=>v= .ref a
 | .type n=>v= .type n
 | .bi n=>v= .builtin n
 | .tup xs=>∃a o vs n,v= .ref a/\D a=some o/\o.cls= .type "tuple"/\o.data= .seq (List.toArray vs) n/\VRs w D vs xs
 | .lst xs=>∃a vs n,v= .ref a/\D a=some (z0r (List.toArray vs) n)/\VRs w D vs xs
 | .rng x y z=>∃a t u r,v= .ref a/\D a=some {cls:= .type "range",dict:=Option.none,data:= .fields #[.int x t,.int y u,.int z r],slots:= #[]}
 | .slc L U S=>∃a l u st,v= .ref a/\D a=some {cls:= .type "slice",data:= .fields #[l,u,st]}/\VR w D l L/\VR w D u U/\VR w D st S
 | .dct xs=>∃a es n,v= .ref a/\D a=some (z1T (List.toArray es) n)/\VRd w D es xs
theorem VR.inv{v:Value}{x:V}(h:VR w D v x):VR.I w D v x:=
 h.casesOn (motive_1:=λv x _=>VR.I w D v x) rfl (λ_=>rfl) (λ_ t=>⟨t,rfl⟩) (λ_ t=>⟨t,rfl⟩) (λ_=>rfl) (λ_=>rfl) (λ_=>rfl) (λe c q r=>⟨_,_,_,_,rfl,e,c,q,r⟩) (λe r=>⟨_,_,_,rfl,e,r⟩) (λe=>⟨_,_,_,_,rfl,e⟩) (λe a b c=>⟨_,_,_,_,rfl,e,a,b,c⟩) (λe r=>⟨_,_,_,rfl,e,r⟩)
noncomputable def VRs.I(w:World)(D:Gh)(vs:List Value):List V->Prop
 |[]=>vs=[]
 |X::xs=>∃y r,vs=y::r/\VR w D y X/\VRs w D r xs
theorem VRs.inv{vs:List Value}{xs:List V}(h:VRs w D vs xs):VRs.I w D vs xs:=
 h.casesOn (motive_2:=λv x _=>VRs.I w D v x) rfl (λa b=>⟨_,_,rfl,a,b⟩)
noncomputable def VRd.I(w:World)(D:Gh)(es:List DictEntry):List (V×V)->Prop
 |[]=>es=[]
 |p::xs=>∃e r,es=e::r/\KH w p.1 e.hash/\VR w D e.key p.1/\VR w D e.val p.2/\VRd w D r xs
theorem VRd.inv{es:List DictEntry}{xs:List (V×V)}(h:VRd w D es xs):VRd.I w D es xs:=
 h.casesOn (motive_3:=λv x _=>VRd.I w D v x) rfl (λk a b c=>⟨_,_,rfl,k,a,b,c⟩)
variable {v:Value}
theorem VR.noneI(h:VR w D v .none):v= .none:=h.inv
theorem VR.boolI{b:Bool}(h:VR w D v (.bool b)):v= .bool b:=h.inv
theorem VR.biI{n:String}(h:VR w D v (.bi n)):v= .builtin n:=h.inv
theorem VR.typeI{n:String}(h:VR w D v (.type n)):v= .type n:=h.inv
theorem VR.refI{a:Addr}(h:VR w D v (.ref a)):v= .ref a:=h.inv
theorem VR.intI{n:Int}(h:VR w D v (.int n)):∃t,v= .int n t:=h.inv
theorem VR.strI{n:Str}(h:VR w D v (.str n)):∃t,v= .str n t:=h.inv
theorem VRs.nilI{vs:List Value}(h:VRs w D vs []):vs=[]:=h.inv
theorem VRs.consI{vs:List Value}{X:V}{xs:List V}(h:VRs w D vs (X::xs)):∃y r,vs=y::r/\VR w D y X/\VRs w D r xs:=h.inv
theorem VR.tupI{xs:List V}(h:VR w D v (.tup xs)):∃a o vs n,v= .ref a/\D a=some o/\o.cls= .type "tuple"/\o.data= .seq (List.toArray vs) n/\VRs w D vs xs:=h.inv
theorem VR.lstI{xs:List V}(h:VR w D v (.lst xs)):∃a vs n,v= .ref a/\D a=some (z0r (List.toArray vs) n)/\VRs w D vs xs:=h.inv
theorem VRd.nilI{es:List DictEntry}(h:VRd w D es []):es=[]:=h.inv
theorem VRd.consI{es:List DictEntry}{p:V×V}{xs:List (V×V)}(h:VRd w D es (p::xs)):∃e r,es=e::r/\KH w p.1 e.hash/\VR w D e.key p.1/\VR w D e.val p.2/\VRd w D r xs:=h.inv
theorem VR.dctI{xs:List (V×V)}(h:VR w D v (.dct xs)):∃a es n,v= .ref a/\D a=some (z1T (List.toArray es) n)/\VRd w D es xs:=h.inv
theorem VR.rngI{x y z:Int}(h:VR w D v (.rng x y z)):∃a t u r,v= .ref a/\D a=some {cls:= .type "range",dict:=Option.none,data:= .fields #[.int x t,.int y u,.int z r],slots:= #[]}:=h.inv
theorem VR.slcI{L U S:V}(h:VR w D v (.slc L U S)):∃a l u st,v= .ref a/\D a=some {cls:= .type "slice",data:= .fields #[l,u,st]}/\VR w D l L/\VR w D u U/\VR w D st S:=h.inv
end
theorem z0p{α β:Type}{f:α->β}{l:List α}{y:β}{P:β->Prop}(h:y∈l.map f)(k:∀x,x∈l->P (f x)):P y:=by obtain⟨x,hx,rfl⟩:=List.mem_map.mp h;exact k x hx
theorem z1I{α β:Type}{f:α->β}{o:Option α}{y:β}{P:β->Prop}(h:o.map f=some y)(k:∀x,o=some x->P (f x)):P y:=by obtain⟨x,hx,rfl⟩:=Option.map_eq_some_iff.mp h;exact k x hx
theorem ff{P:Prop}(h:false=true):P:=nomatch h
theorem tf{P:Prop}(h:true=false):P:=nomatch h
section
variable {w:World} {D:Gh} {v:Value} {vs:List Value} {P:Value->Prop} {Ps:List Value->Prop}
theorem VR.noneE(h:VR w D v .none)(k:P .none):P v:=h.noneI▸k
theorem VR.boolE{b:Bool}(h:VR w D v (.bool b))(k:P (.bool b)):P v:=h.boolI▸k
theorem VR.biE{n:String}(h:VR w D v (.bi n))(k:P (.builtin n)):P v:=h.biI▸k
theorem VR.typeE{n:String}(h:VR w D v (.type n))(k:P (.type n)):P v:=h.typeI▸k
theorem VR.refE{a:Addr}(h:VR w D v (.ref a))(k:P (.ref a)):P v:=h.refI▸k
theorem VR.intE{n:Int}(h:VR w D v (.int n))(k:∀t,P (.int n t)):P v:=by obtain⟨t,e⟩:=h.intI;rw[e];exact k t
theorem VR.strE{n:Str}(h:VR w D v (.str n))(k:∀t,P (.str n t)):P v:=by obtain⟨t,e⟩:=h.strI;rw[e];exact k t
theorem VRs.nilE(h:VRs w D vs [])(k:Ps []):Ps vs:=h.nilI▸k
theorem VRs.consE{X:V}{xs:List V}(h:VRs w D vs (X::xs))(k:∀y r,VR w D y X->VRs w D r xs->Ps (y::r)):Ps vs:=by obtain⟨y,r,e,a,b⟩:=h.consI;rw[e];exact k y r a b
end
noncomputable def Sub(D D':Gh):Prop:=∀a o,D a=some o->D' a=some o
theorem Sub.refl(D:Gh):Sub D D:=λ_ _ e=>e
theorem Sub.trans{D D' D'':Gh}(h:Sub D D')(h':Sub D' D''):Sub D D'':=λa o e=>h' a o (h a o e)
section
variable {w:World} {D D':Gh}
theorem VR.mono(h:Sub D D'){v:Value}{x:V}(r:VR w D v x):VR w D' v x:=
 VR.rec (motive_1:=λv x _=>VR w D' v x) (motive_2:=λv x _=>VRs w D' v x) (motive_3:=λv x _=>VRd w D' v x)
  .none .bool .int .str .ref .type .bi (λe c q _ ih=> .tup (h _ _ e) c q ih) (λe _ ih=> .lst (h _ _ e) ih) (λe=> .rng (h _ _ e)) (λe _ _ _ a b c=> .slc (h _ _ e) a b c) (λe _ ih=> .dct (h _ _ e) ih)
  .nil (λ_ _ a b=> .cons a b) .nil (λk _ _ _ a b c=> .cons k a b c) r
theorem VRs.mono(h:Sub D D'):∀{x:List V} {v:List Value},VRs w D v x->VRs w D' v x:=λ{x}=>by
 induction x with
 |nil=>intro v r;rw[VRs.nilI r];exact .nil
 |cons X xs ih=>intro v r;obtain⟨_,_,rfl,a,b⟩:=VRs.consI r;exact .cons (a.mono h) (ih b)
theorem VRd.mono(h:Sub D D'){v:List DictEntry}{x:List (V×V)}(r:VRd w D v x):VRd w D' v x:=
 VRd.rec (motive_1:=λv x _=>VR w D' v x) (motive_2:=λv x _=>VRs w D' v x) (motive_3:=λv x _=>VRd w D' v x)
  .none .bool .int .str .ref .type .bi (λe c q _ ih=> .tup (h _ _ e) c q ih) (λe _ ih=> .lst (h _ _ e) ih) (λe=> .rng (h _ _ e)) (λe _ _ _ a b c=> .slc (h _ _ e) a b c) (λe _ ih=> .dct (h _ _ e) ih)
  .nil (λ_ _ a b=> .cons a b) .nil (λk _ _ _ a b c=> .cons k a b c) r
theorem VRs.length:∀{x:List V} {v:List Value},VRs w D v x->v.length=x.length:=λ{x}=>by
 induction x with
 |nil=>intro v r;rw[VRs.nilI r];rfl
 |cons X xs ih=>intro v r;obtain⟨_,_,rfl,a,b⟩:=VRs.consI r;exact congrArg (·+1) (ih b)
theorem VRs.append{v v':List Value}{x x':List V}(r:VRs w D v x)(h':VRs w D v' x'):VRs w D (v++v') (x++x'):=by
 induction x generalizing v with
 |nil=>rw[VRs.nilI r];exact h'
 |cons X xs ih=>obtain⟨_,_,rfl,a,b⟩:=VRs.consI r;exact .cons a (ih b)
theorem VRs.get:∀{x:List V} {v:List Value},VRs w D v x->∀{i:Nat} {X:V},x[i]? =some X->∃u,v[i]? =some u/\VR w D u X:=λ{x}=>by
 induction x with
 |nil=>intro v r i X h;cases h
 |cons Y xs ih=>
  intro v r i X h
  obtain⟨u,_,rfl,a,b⟩:=VRs.consI r
  cases i with
  |zero=>cases h;exact⟨u,rfl,a⟩
  |succ i=>exact ih b h
theorem VRs.get':∀{x:List V} {v:List Value},VRs w D v x->∀{i:Nat} {u:Value},v[i]? =some u->∃X,x[i]? =some X/\VR w D u X:=λ{x}=>by
 induction x with
 |nil=>intro v r i u h;rw[VRs.nilI r] at h;cases h
 |cons Y xs ih=>
  intro v r i u h
  obtain⟨_,_,rfl,a,b⟩:=VRs.consI r
  cases i with
  |zero=>cases h;exact⟨Y,rfl,a⟩
  |succ i=>exact ih b h
end
noncomputable def z0V(a:Addr):AO->List Addr
 | .inst _ dx _=>[a,dx]
 |_=>[a]
noncomputable def foot:Sto->List Addr
 |[]=>[]
 |(a,_,o)::r=>z0V a o++foot r
theorem z19{σ:Sto}{a:Addr}{ob:Obj}{o:AO}(h:(a,ob,o)∈σ):∀b∈z0V a o,b∈foot σ:=by
 induction σ with
 |nil=>cases h
 |cons p r ih=>
  intro b hb
  obtain⟨c,q,z⟩:=p
  rcases List.mem_cons.mp h with e|h
  ·cases e;exact List.mem_append_left _ hb
  ·exact List.mem_append_right _ (ih h b hb)
theorem z0J(a:Addr)(o:AO):a∈z0V a o:=by cases o<;>simp[z0V]
theorem z4d{σ:Sto}{a:Addr}{ob:Obj}{o:AO}(h:(a,ob,o)∈σ):a∈foot σ:=z19 h a (z0J a o)
noncomputable def FR(w:World)(D:Gh):List DictEntry->List (Str×V)->Prop
 |[],[]=>True
 |e::es,(n,x)::fs=>(∃t,e.key= .str n t)/\e.hash=hashStr w n/\VR w D e.val x/\FR w D es fs
 |_,_=>False
theorem FR.mono{w:World}{D D':Gh}(h:Sub D D'):∀{es:List DictEntry} {fs:List (Str×V)},FR w D es fs->FR w D' es fs
 |[],[],_=>trivial
 |e::es,(n,x)::fs,⟨a,b,c,d⟩=>⟨a,b,VR.mono h c,FR.mono h d⟩
 |[],_::_,h=>h.elim
 |_::_,[],h=>h.elim
noncomputable def HR(w:World)(D:Gh)(o:Obj):AO->Prop
 | .list xs=>∃vs n,o=z0r vs n/\VRs w D vs.toList xs
 | .dict xs=>∃es n,o=z1T es n/\VRd w D es.toList xs
 | .inst _ _ fs=>∃es n,o=z1T es n/\FR w D es.toList fs
theorem HR.mono{w:World}{D D':Gh}{o:Obj}(hs:Sub D D'):∀{x:AO},HR w D o x->HR w D' o x
 | .list _,⟨vs,n,e,r⟩=>⟨vs,n,e,r.mono hs⟩
 | .dict _,⟨vs,n,e,r⟩=>⟨vs,n,e,r.mono hs⟩
 | .inst _ _ _,⟨vs,n,e,r⟩=>⟨vs,n,e,FR.mono hs r⟩
noncomputable def PR(h:Heap)(a:Addr)(o:Obj):AO->Prop
 | .inst c dx _=>h.get? a=some (y0V c dx)/\h.get? dx=some o
 |_=>h.get? a=some o
theorem PR.at{h h':Heap}{a:Addr}{o:Obj}:∀{x:AO},(∀b∈z0V a x,∀ob,h.get? b=some ob->h'.get? b=some ob)->PR h a o x->PR h' a o x
 | .list _,k,e=>k a (by simp[z0V]) _ e
 | .dict _,k,e=>k a (by simp[z0V]) _ e
 | .inst _ _ _,k,⟨e,e'⟩=>⟨k _ (by simp[z0V]) _ e,k _ (by simp[z0V]) _ e'⟩
theorem PR.lives{h:Heap}{a:Addr}{o:Obj}:∀{x:AO},PR h a o x->∀b∈z0V a x,∃ob,h.get? b=some ob
 | .list _,e,b,hb=>by simp[z0V] at hb;subst hb;exact⟨_,e⟩
 | .dict _,e,b,hb=>by simp[z0V] at hb;subst hb;exact⟨_,e⟩
 | .inst _ _ _,⟨e,e'⟩,b,hb=>by
  simp[z0V] at hb
  rcases hb with rfl|rfl
  ·exact⟨_,e⟩
  ·exact⟨_,e'⟩
structure Cx where
 prog:Program
 w:World
 base:Heap
 s₀:Shared
 mg:Str->Option Value
 mb:Str->Option Value
 hg:base.Ns mainGlobals mg
 hb:base.Ns builtinsNs mb
 lim:base.NoLimit
noncomputable abbrev Cx.M(C:Cx):Model:=model C.prog C.w
structure RelC(C:Cx)(G D:Gh)(σ:Sto)(s:Shared):Prop where
 same:∃h tk,s={C.s₀ with heap:=h,toks:=tk}
 g:∀a o,G a=some o->s.heap.get? a=some o
 d:∀a o,D a=some o->s.heap.get? a=some o
 base:∀a o,C.base.get? a=some o->G a=some o
 nd:(foot σ).Nodup
 offG:∀a∈foot σ,G a=none
 offD:∀a∈foot σ,D a=none
 pl:∀p∈σ,PR s.heap p.1 p.2.1 p.2.2
 sto:∀p∈σ,HR C.w D p.2.1 p.2.2
structure DX(G D D':Gh):Prop where
 sub:Sub D D'
 off:∀a,D a=none->G a≠none->D' a=none
theorem DX.refl(G D:Gh):DX G D D:=⟨Sub.refl D,λ_ h _=>h⟩
theorem DX.trans{G D D' D'':Gh}(h:DX G D D')(h':DX G D' D''):DX G D D'':=⟨h.sub.trans h'.sub,λa e g=>h'.off a (h.off a e g) g⟩
theorem DX.less{G G' D D':Gh}(h:DX G' D D')(hg:∀a,G a≠none->G' a≠none):DX G D D':=⟨h.sub,λa e g=>h.off a e (hg a g)⟩
structure AOk(A:Around)(d:Nat):Prop where
 h:A.handled=none
 depth:A.depth+d<1000
 units:A.units+8*d<9000
inductive PostC(C:Cx)(G D:Gh)(Q:V->Sto->Prop)(v:Value)(s':Shared):Prop
 |mk (x:V) (D':Gh) (σ':Sto):DX G D D'->VR C.w D' v x->RelC C G D' σ' s'->Q x σ'->PostC C G D Q v s'
noncomputable def CW(C:Cx)(d:Nat)(f:Value)(xs:List V)(σ:Sto)(Q:V->Sto->Prop):Prop:=
 ∀A G D s vs,AOk A d->RelC C G D σ s->VRs C.w D vs xs->
  codeAny C.M A (.call f ⟨vs,[]⟩) (λr s'=>match r with| .ok (.ret v)=>PostC C G D Q v s'|_=>False) s
noncomputable def z0f(C:Cx)(x:Str)(X:V):Prop:=∃v,VR C.w (λ_=> .none) v X/\(C.mg x=some v∨(C.mg x= .none/\C.mb x=some v))
structure FmOk(C:Cx)(env:Env)(vars:List Str)(gl:List (Str×V))(own:Bool):Prop where
 fn:env.scope.kind= .function
 nd:vars.Nodup
 vk:∀x∈vars,(x==("__debug__":Str))=false/\(env.kindOf x=some .local∨(env.kindOf x=some .cell/\∃c,env.cells.lookup x=some c))
 ap:env.cells.Pairwise λx y=>x.2≠y.2
 gk:∀p∈gl,(p.1==("__debug__":Str))=false/\env.kindOf p.1=some .globalImplicit/\z0f C p.1 p.2
 gg:env.globals=mainGlobals
 gb:env.builtins=builtinsNs
structure RelF(C:Cx)(env:Env)(vars:List Str)(gl:List (Str×V))(own:Bool)(G D:Gh)(m:Loc)(σ:Sto)(s:Shared):Prop extends RelC C G D σ s where
 ok:FmOk C env vars gl own
 offL:G env.locals=none/\D env.locals=none/\env.locals∉foot σ
 ns:∃mm,s.heap.Ns env.locals mm/\∀(i:Nat) x X,vars[i]? =some x->env.kindOf x=some .local->m[i]? =some (some X)->∃v,mm x=some v/\VR C.w D v X
 cl:∀(i:Nat) x c,vars[i]? =some x->env.kindOf x=some .cell->env.cells.lookup x=some c->
  c≠env.locals/\(∃ov,s.heap.IsCell c ov/\∀X,m[i]? =some (some X)->∃v,ov=some v/\VR C.w D v X)/\
  (if own then G c=none/\D c=none/\c∉foot σ else∃o,G c=some o)
noncomputable def z2U(env:Env)(vars:List Str)(a:Addr):Prop:=a=env.locals∨∃(i:Nat) (x:Str),vars[i]? =some x/\env.kindOf x=some .cell/\env.cells.lookup x=some a
open Classical in
noncomputable def z3x(env:Env)(vars:List Str)(G:Gh)(s:Shared):Gh:=λa=>if z2U env vars a then s.heap.get? a else G a
section
variable {C:Cx} {env:Env} {vars:List Str} {gl:List (Str×V)} {own:Bool} {G D D':Gh} {m:Loc} {σ σ':Sto} {s s':Shared}
theorem z1r{a:Addr}(h:z2U env vars a):z3x env vars G s a=s.heap.get? a:=by unfold z3x;rw[if_pos h]
theorem z18{a:Addr}(h:¬z2U env vars a):z3x env vars G s a=G a:=by unfold z3x;rw[if_neg h]
theorem RelF.over(R:RelF C env vars gl own G D m σ s){a:Addr}{o:Obj}(h:G a=some o):z3x env vars G s a=some o:=by
 by_cases hm:z2U env vars a
 ·rw[z1r hm];exact R.g a o h
 ·rw[z18 hm];exact h
theorem RelF.mineFoot(R:RelF C env vars gl own G D m σ s){a:Addr}(h:z2U env vars a):a∉foot σ:=by
 rcases h with rfl|⟨i,x,h1,h2,h3⟩
 ·exact R.offL.2.2
 ·have:=(R.cl i x a h1 h2 h3).2.2
  cases own with
  |true=>exact this.2.2
  |false=>
   obtain⟨o,ho⟩:=this
   intro hf
   rw[R.offG a hf] at ho;cases ho
theorem RelF.mineLives(R:RelF C env vars gl own G D m σ s){a:Addr}(h:z2U env vars a):∃o,s.heap.get? a=some o:=by
 rcases h with rfl|⟨i,x,h1,h2,h3⟩
 ·obtain⟨mm,⟨o,_,_,ho,_⟩,_⟩:=R.ns;exact⟨o,ho⟩
 ·obtain⟨_,⟨ov,⟨o,ho,_⟩,_⟩,_⟩:=R.cl i x a h1 h2 h3;exact⟨o,ho⟩
theorem RelF.lifted(R:RelF C env vars gl own G D m σ s):RelC C (z3x env vars G s) D σ s where
 same:=R.same
 g:=λa o h=>by
  by_cases hm:z2U env vars a
  ·rw[z1r hm] at h;exact h
  ·rw[z18 hm] at h;exact R.g a o h
 d:=R.d
 base:=λa o h=>R.over (R.base a o h)
 nd:=R.nd
 offG:=λa h=>by
  by_cases hm:z2U env vars a
  ·exact absurd h (R.mineFoot hm)
  ·rw[z18 hm];exact R.offG a h
 offD:=R.offD
 pl:=R.pl
 sto:=R.sto
theorem RelF.dx(R:RelF C env vars gl own G D m σ s)(h:DX (z3x env vars G s) D D'):DX G D D':=
 h.less λa g=>by
  cases e:G a with
  |none=>exact absurd e g
  |some o=>rw[R.over e];exact nofun
theorem RelF.mineD(R:RelF C env vars gl own G D m σ s)(h:DX (z3x env vars G s) D D'){a:Addr}(hm:z2U env vars a)(hd:D a=none):D' a=none:=
 h.off a hd (by rw[z1r hm];obtain⟨o,ho⟩:=R.mineLives hm;rw[ho];exact nofun)
theorem RelF.back(R:RelF C env vars gl own G D m σ s)(R':RelC C (z3x env vars G s) D' σ' s')(h:DX (z3x env vars G s) D D'):RelF C env vars gl own G D' m σ' s' where
 same:=R'.same
 g:=λa o e=>R'.g a o (R.over e)
 d:=R'.d
 base:=R.base
 nd:=R'.nd
 offG:=λa hf=>by
  cases e:G a with
  |none=>rfl
  |some o=>have:=R'.offG a hf;rw[R.over e] at this;cases this
 offD:=R'.offD
 pl:=R'.pl
 sto:=R'.sto
 ok:=R.ok
 offL:=⟨R.offL.1,R.mineD h (Or.inl rfl) R.offL.2.1,λhf=>by
  have:=R'.offG _ hf
  rw[z1r (Or.inl rfl)] at this
  obtain⟨o,ho⟩:=R.mineLives (Or.inl rfl)
  rw[ho] at this;cases this⟩
 ns:=by
  obtain⟨mm,⟨o,es,ep,ho,r⟩,hv⟩:=R.ns
  refine⟨mm,⟨o,es,ep,R'.g _ _ (by rw[z1r (Or.inl rfl)];exact ho),r⟩,λi x X h1 h2 h3=> ?_⟩
  obtain⟨v,e,q⟩:=hv i x X h1 h2 h3
  exact⟨v,e,q.mono h.sub⟩
 cl:=λi x c h1 h2 h3=>by
  have hm:z2U env vars c:=Or.inr ⟨i,x,h1,h2,h3⟩
  obtain⟨hne,⟨ov,⟨o,ho,hd⟩,hx⟩,hw⟩:=R.cl i x c h1 h2 h3
  refine⟨hne,⟨ov,⟨o,R'.g _ _ (by rw[z1r hm];exact ho),hd⟩,λX e=> ?_⟩,?_⟩
  ·obtain⟨v,e1,q⟩:=hx X e
   exact⟨v,e1,q.mono h.sub⟩
  ·cases own with
   |true=>
    refine⟨hw.1,R.mineD h hm hw.2.1,λhf=> ?_⟩
    have:=R'.offG _ hf
    rw[z1r hm,ho] at this;cases this
   |false=>exact hw
end
inductive PostE(C:Cx)(env:Env)(vars:List Str)(gl:List (Str×V))(own:Bool)(G D:Gh)(m:Loc)(Q:V->Sto->Prop)(v:Value)(s':Shared):Prop
 |mk (x:V) (D':Gh) (σ':Sto):DX G D D'->VR C.w D' v x->RelF C env vars gl own G D' m σ' s'->Q x σ'->PostE C env vars gl own G D m Q v s'
noncomputable def AT(C:Cx)(env:Env)(vars:List Str)(gl:List (Str×V))(own:Bool)(d:Nat)(t:Sem Value)(m:Loc)(σ:Sto)(Q:V->Sto->Prop):Prop:=
 ∀A G D s,AOk A d->RelF C env vars gl own G D m σ s->wpAny C.M A t (PostE C env vars gl own G D m Q) (λ_ _=>False) s
section
variable {C:Cx} {env:Env} {vars:List Str} {gl:List (Str×V)} {own:Bool} {d:Nat} {m:Loc} {σ:Sto} {Q Q':V->Sto->Prop}
theorem AT.mono{t:Sem Value}(h:AT C env vars gl own d t m σ Q)(hQ:∀x σ',Q x σ'->Q' x σ'):AT C env vars gl own d t m σ Q':=
 λA G D s hA R=>wpAny_mono (h A G D s hA R) (λ_ _ hpp=>by obtain⟨x,D',σ',a,b,c,e⟩:=hpp;exact⟨x,D',σ',a,b,c,hQ _ _ e⟩) λ_ _ e=>e
end
end
section
inductive Lk:List Str->Loc->Str->V->Prop
 |head {x:Str} {ns:List Str} {X:V} {m:Loc}:Lk (x::ns) (some X::m) x X
 |tail {x y:Str} {ns:List Str} {X:V} {o:Option V} {m:Loc}:Lk ns m x X->Lk (y::ns) (o::m) x X
theorem Lk.get{ns:List Str}{m:Loc}{x:Str}{X:V}(h:Lk ns m x X):∃i:Nat,ns[i]? =some x/\m[i]? =some (some X):=by
 induction h with
 |head=>exact⟨0,rfl,rfl⟩
 |tail _ ih=>obtain⟨i,a,b⟩:=ih;exact⟨i+1,by simpa using a,by simpa using b⟩
inductive Put:List Str->Loc->Str->V->Loc->Prop
 |head {x:Str} {ns:List Str} {X:V} {o:Option V} {m:Loc}:Put (x::ns) (o::m) x X (some X::m)
 |tail {x y:Str} {ns:List Str} {X:V} {o:Option V} {m m':Loc}:Put ns m x X m'->Put (y::ns) (o::m) x X (o::m')
theorem Put.get{ns:List Str}{m m':Loc}{x:Str}{X:V}(h:Put ns m x X m'):∃i:Nat,ns[i]? =some x/\m'=m.set i (some X):=by
 induction h with
 |head=>exact⟨0,rfl,rfl⟩
 |tail _ ih=>obtain⟨i,a,b⟩:=ih;exact⟨i+1,by simpa using a,by simp[b]⟩
section
variable {C:Cx} {env:Env} {vars:List Str} {gl:List (Str×V)} {own:Bool} {d:Nat} {m:Loc} {σ:Sto} {Q Q':V->Sto->Prop}
variable {A:Around} {G D D₁:Gh} {s:Shared}
theorem AT.run{t:Sem Value}(h:AT C env vars gl own d t m σ Q)(hA:AOk A d)(R:RelF C env vars gl own G D m σ s){K:Value->Shared->Prop}
  (k:∀v s' x D' σ',DX G D D'->VR C.w D' v x->RelF C env vars gl own G D' m σ' s'->Q x σ'->K v s'):wpAny C.M A t K (λ_ _=>False) s:=
 wpAny_mono (h A G D s hA R) (λv s' hpp=>by obtain⟨x,D',σ',a,b,c,e⟩:=hpp;exact k v s' x D' σ' a b c e) λ_ _ e=>e
theorem PostE.weak{v:Value}{s':Shared}(h:DX G D D₁)(p:PostE C env vars gl own G D₁ m Q v s'):PostE C env vars gl own G D m Q v s':=
 by obtain⟨x,D',σ',a,b,c,e⟩:=p;exact⟨x,D',σ',h.trans a,b,c,e⟩
theorem z02{t:Sem Value}(h:DX G D D₁)(p:wpAny C.M A t (PostE C env vars gl own G D₁ m Q) (λ_ _=>False) s):wpAny C.M A t (PostE C env vars gl own G D m Q) (λ_ _=>False) s:=
 wpAny_mono p (λ_ _ q=>q.weak h) λ_ _ e=>e
theorem RelC.tok(R:RelC C G D σ s)(t:Nat):RelC C G D σ {s with toks:=t}:=
 ⟨let⟨h,_,e⟩:=R.same;⟨h,t,by rw[e]⟩,R.g,R.d,R.base,R.nd,R.offG,R.offD,R.pl,R.sto⟩
theorem RelF.tok(R:RelF C env vars gl own G D m σ s)(t:Nat):RelF C env vars gl own G D m σ {s with toks:=t}:=
 {R.toRelC.tok t with ok:=R.ok,offL:=R.offL,ns:=R.ns,cl:=R.cl}
theorem PostE.now{v:Value}{x:V}(R:RelF C env vars gl own G D m σ s)(hv:VR C.w D v x)(q:Q x σ):PostE C env vars gl own G D m Q v s:=⟨x,D,σ,DX.refl _ _,hv,R,q⟩
theorem PostC.now{v:Value}{x:V}(R:RelC C G D σ s)(hv:VR C.w D v x)(q:Q x σ):PostC C G D Q v s:=⟨x,D,σ,DX.refl _ _,hv,R,q⟩
theorem z78{x:Str}{p:Pos}{X:V}(h:Lk vars m x X)(q:Q X σ):AT C env vars gl own d (eval (.Name x p) env) m σ Q:=λA G D s hA R=>by
 obtain⟨i,h1,h2⟩:=h.get
 have hv:=R.ok.vk x (List.mem_of_getElem? h1)
 rcases hv.2 with hl|⟨hc,c,hcc⟩
 ·obtain⟨mm,hn,hmm⟩:=R.ns
  obtain⟨v,e,r⟩:=hmm i x X h1 hl h2
  exact wpAny_Name (wpAny_loadName_local R.ok.fn hl hn e (PostE.now R r q)) hv.1
 ·obtain⟨_,⟨ov,hcell,hx⟩,_⟩:=R.cl i x c h1 hc hcc
  obtain⟨v,rfl,r⟩:=hx X h2
  exact wpAny_Name (wpAny_loadName_cell R.ok.fn hc hcc hcell (PostE.now R r q)) hv.1
theorem VR.any{w:World}{v:Value}{x:V}(h:VR w (λ_=>Option.none) v x)(D:Gh):VR w D v x:=h.mono λ_ _ e=>by cases e
theorem z1J{x:Str}{p:Pos}{X:V}(h:(x,X)∈gl)(q:Q X σ):AT C env vars gl own d (eval (.Name x p) env) m σ Q:=λA G D s hA R=>by
 obtain⟨h1,h2,v,hv,h3⟩:=R.ok.gk _ h
 have keep:∀b o,C.base.get? b=some o->s.heap.get? b=some o:=λb o e=>R.g b o (R.base b o e)
 have ng:s.heap.Ns env.globals C.mg:=by rw[R.ok.gg];exact C.hg.keeps keep
 have nb:s.heap.Ns env.builtins C.mb:=by rw[R.ok.gb];exact C.hb.keeps keep
 have fin:PostE C env vars gl own G D m Q v s:=PostE.now R (hv.any D) q
 refine Calls.Name_function_global R.ok.fn h2 ?_ h1
 rcases h3 with h3|⟨h3,h4⟩
 ·exact Calls.loadGlobal_global ng h3 fin
 ·exact Calls.loadGlobal_builtin ng h3 nb h4 fin
theorem z0O{i:Int}{k:Nat}{p:Pos}(q:Q (.int i) σ):AT C env vars gl own d (eval (.Constant (.int i) k p) env) m σ Q:=λA G D s hA R=>
 wpAny_Constant_int (PostE.now (R.tok _) (.int i _) q)
theorem y2d{x:Str}{k:Nat}{p:Pos}(q:Q (.str x) σ):AT C env vars gl own d (eval (.Constant (.str x) k p) env) m σ Q:=λA G D s hA R=>
 wpAny_Constant_str (PostE.now (R.tok _) (.str x _) q)
theorem z9n{b:Bool}{k:Nat}{p:Pos}(q:Q (.bool b) σ):AT C env vars gl own d (eval (.Constant (.bool b) k p) env) m σ Q:=λA G D s hA R=>
 wpAny_Constant_bool (PostE.now R (.bool b) q)
theorem z6Q{k:Nat}{p:Pos}(q:Q .none σ):AT C env vars gl own d (eval (.Constant .none k p) env) m σ Q:=λA G D s hA R=>
 wpAny_Constant_none (PostE.now R .none q)
end
noncomputable def AC1(C:Cx)(d:Nat)(f:Value->Sem Value)(x:V)(σ:Sto)(Q:V->Sto->Prop):Prop:=
 ∀A G D s v,AOk A d->RelC C G D σ s->VR C.w D v x->wpAny C.M A (f v) (PostC C G D Q) (λ_ _=>False) s
noncomputable def AC2(C:Cx)(d:Nat)(f:Value->Value->Sem Value)(x y:V)(σ:Sto)(Q:V->Sto->Prop):Prop:=
 ∀A G D s v u,AOk A d->RelC C G D σ s->VR C.w D v x->VR C.w D u y->wpAny C.M A (f v u) (PostC C G D Q) (λ_ _=>False) s
noncomputable def TR(C:Cx)(d:Nat)(x:V)(σ:Sto)(b:Bool):Prop:=
 ∀A G D s v,AOk A d->RelC C G D σ s->VR C.w D v x->∀(K:Bool->Shared->Prop),(∀tk,K b {s with toks:=tk})->wpAny C.M A (truthy v) K (λ_ _=>False) s
section
variable {C:Cx} {env:Env} {vars:List Str} {gl:List (Str×V)} {own:Bool} {d:Nat} {m:Loc} {σ:Sto} {Q Q':V->Sto->Prop}
variable {A:Around} {G D D₁:Gh} {s:Shared}
theorem AC1.inF{f:Value->Sem Value}{x:V}(h:AC1 C d f x σ Q){v:Value}(hA:AOk A d)(R:RelF C env vars gl own G D m σ s)(hv:VR C.w D v x):
  wpAny C.M A (f v) (PostE C env vars gl own G D m Q) (λ_ _=>False) s:=
 wpAny_mono (h A _ D s v hA R.lifted hv) (λ_ _ hpp=>by obtain⟨x,D',σ',a,b,c,e⟩:=hpp;exact⟨x,D',σ',R.dx a,b,R.back c a,e⟩) λ_ _ e=>e
theorem AC2.inF{f:Value->Value->Sem Value}{x y:V}(h:AC2 C d f x y σ Q){v u:Value}(hA:AOk A d)(R:RelF C env vars gl own G D m σ s)(hv:VR C.w D v x)(hu:VR C.w D u y):
  wpAny C.M A (f v u) (PostE C env vars gl own G D m Q) (λ_ _=>False) s:=
 wpAny_mono (h A _ D s v u hA R.lifted hv hu) (λ_ _ hpp=>by obtain⟨x,D',σ',a,b,c,e⟩:=hpp;exact⟨x,D',σ',R.dx a,b,R.back c a,e⟩) λ_ _ e=>e
theorem z1L{l r:Expr}{op:Operator}{p:Pos}(h:AT C env vars gl own d (eval l env) m σ λX σ₁=>AT C env vars gl own d (eval r env) m σ₁ λY σ₂=>AC2 C d (binaryOp op) X Y σ₂ Q):
  AT C env vars gl own d (eval (.BinOp l op r p) env) m σ Q:=λA G D s hA R=>
 wpAny_BinOp (h.run hA R λv s₁ X D₁ σ₁ a b c e=>wpAny_mono (wpAny_mono (e A G D₁ s₁ hA c) (λu s₂ hpp=>by obtain⟨Y,D₂,σ₂,a',b',c',e'⟩:=hpp;exact z02 (a.trans a') (e'.inF hA c' (b.mono a'.sub) b')) λ_ _ x=>x) (λ_ _ x=>x) λ_ _ x=>x)
theorem z6o{l r:Expr}{op:CmpOp}{p:Pos}(h:AT C env vars gl own d (eval l env) m σ λX σ₁=>AT C env vars gl own d (eval r env) m σ₁ λY σ₂=>AC2 C d (compareOp op) X Y σ₂ Q)
  (hm:autoParam (behindInMarks op r=false) auR):
  AT C env vars gl own d (eval (.Compare l [op] [r] p) env) m σ Q:=λA G D s hA R=>
 wpAny_Compare1 (h.run hA R λv s₁ X D₁ σ₁ a b c e=>wpAny_mono (e A G D₁ s₁ hA c) (λu s₂ hpp=>by obtain⟨Y,D₂,σ₂,a',b',c',e'⟩:=hpp;exact z02 (a.trans a') (e'.inF hA c' (b.mono a'.sub) b')) λ_ _ x=>x) hm
theorem z7N{x:Expr}{op:UnaryOp}{p:Pos}(h:AT C env vars gl own d (eval x env) m σ λX σ₁=>AC1 C d (unaryOp op) X σ₁ Q):AT C env vars gl own d (eval (.UnaryOp op x p) env) m σ Q:=λA G D s hA R=>
 wpAny_UnaryOp (h.run hA R λv s₁ X D₁ σ₁ a b c e=>z02 a (e.inF hA c b))
theorem z27{X:V}{b:Bool}(t:TR C d X σ b)(q:Q (.bool (!b)) σ):AC1 C d (unaryOp .Not) X σ Q:=λA G D s v hA R hv=>
 not_value (t A G D s v hA R hv _ λtk=>PostC.now (R.tok tk) (.bool _) q)
inductive PostB(C:Cx)(env:Env)(vars:List Str)(gl:List (Str×V))(own:Bool)(G D:Gh)(m:Loc)(Q:Bool->Sto->Prop)(b:Bool)(s':Shared):Prop
 |mk (D':Gh) (σ':Sto):DX G D D'->RelF C env vars gl own G D' m σ' s'->Q b σ'->PostB C env vars gl own G D m Q b s'
noncomputable def AB(C:Cx)(env:Env)(vars:List Str)(gl:List (Str×V))(own:Bool)(d:Nat)(t:Sem Bool)(m:Loc)(σ:Sto)(Q:Bool->Sto->Prop):Prop:=
 ∀A G D s,AOk A d->RelF C env vars gl own G D m σ s->wpAny C.M A t (PostB C env vars gl own G D m Q) (λ_ _=>False) s
variable {P:Bool->Sto->Prop}
theorem PostB.weak{b:Bool}{s':Shared}(h:DX G D D₁)(p:PostB C env vars gl own G D₁ m P b s'):PostB C env vars gl own G D m P b s':=
 by obtain⟨D',σ',a,c,e⟩:=p;exact⟨D',σ',h.trans a,c,e⟩
theorem z8g{t:Sem Bool}(h:DX G D D₁)(p:wpAny C.M A t (PostB C env vars gl own G D₁ m P) (λ_ _=>False) s):wpAny C.M A t (PostB C env vars gl own G D m P) (λ_ _=>False) s:=
 wpAny_mono p (λ_ _ q=>q.weak h) λ_ _ e=>e
theorem AB.run{t:Sem Bool}(h:AB C env vars gl own d t m σ P)(hA:AOk A d)(R:RelF C env vars gl own G D m σ s){K:Bool->Shared->Prop}
  (k:∀b s' D' σ',DX G D D'->RelF C env vars gl own G D' m σ' s'->P b σ'->K b s'):wpAny C.M A t K (λ_ _=>False) s:=
 wpAny_mono (h A G D s hA R) (λv s' hpp=>by obtain⟨D',σ',a,c,e⟩:=hpp;exact k v s' D' σ' a c e) λ_ _ e=>e
theorem TR.inF{x:V}{b:Bool}(t:TR C d x σ b){v:Value}(hA:AOk A d)(R:RelF C env vars gl own G D m σ s)(hv:VR C.w D v x){K:Bool->Shared->Prop}(k:∀tk,K b {s with toks:=tk}):
  wpAny C.M A (truthy v) K (λ_ _=>False) s:=t A _ D s v hA R.lifted hv K k
noncomputable def TRX(C:Cx)(d:Nat)(x:V)(σ:Sto)(P:Bool->Sto->Prop):Prop:=∃b,TR C d x σ b/\P b σ
theorem y0X{e:Expr}(h:AT C env vars gl own d (eval e env) m σ λX σ₁=>TRX C d X σ₁ P)
  (he:∀whole,isTrue e env whole=(do let v <-whole;standAt e.pos;holding [v] (truthy v)):=by intro;with_unfolding_all exact rfl):AB C env vars gl own d (isTrue e env (eval e env)) m σ P:=λA G D s hA R=>
 wpAny_isTrue_value (h.run hA R λv s₁ X D₁ σ₁ a b c hpp=>by obtain⟨t,ht,hp⟩:=hpp;exact ht.inF hA c b λtk=>⟨D₁,σ₁,a,c.tok tk,hp⟩) (he _)
theorem y4I{x:Expr}{p:Pos}{whole:Sem Value}(h:AB C env vars gl own d (isTrue x env (eval x env)) m σ λb σ₁=>P (!b) σ₁):AB C env vars gl own d (isTrue (.UnaryOp .Not x p) env whole) m σ P:=λA G D s hA R=>
 wpAny_isTrue_Not (h.run hA R λb s₁ D₁ σ₁ a c e=>⟨D₁,σ₁,a,c,e⟩)
theorem z1S{l r:Expr}{op:CmpOp}{p:Pos}{whole:Sem Value}(h:AT C env vars gl own d (eval l env) m σ λX σ₁=>AT C env vars gl own d (eval r env) m σ₁ λY σ₂=>AC2 C d (compareOp op) X Y σ₂ λZ σ₃=>TRX C d Z σ₃ P)
  (hm:autoParam (behindInMarks op r=false) auR):AB C env vars gl own d (isTrue (.Compare l [op] [r] p) env whole) m σ P:=λA G D s hA R=>
 wpAny_isTrue_Compare1 (h.run hA R λv s₁ X D₁ σ₁ a b c e=>wpAny_mono (e A G D₁ s₁ hA c) (λu s₂ hpp=>by obtain⟨Y,D₂,σ₂,a',b',c',e'⟩:=hpp;exact wpAny_mono (e'.inF hA c' (b.mono a'.sub) b') (λz s₃ hpp=>by obtain⟨Z,D₃,σ₃,a'',b'',c'',t,ht,hp⟩:=hpp;exact ht.inF hA c'' b'' λtk=>⟨D₃,σ₃,(a.trans a').trans a'',c''.tok tk,hp⟩) λ_ _ x=>x) λ_ _ x=>x) hm
theorem z9I{op:BoolOp}{vs:List Expr}{p:Pos}{whole:Sem Value}(h:AB C env vars gl own d (allTrue op vs env) m σ P):AB C env vars gl own d (isTrue (.BoolOp op vs p) env whole) m σ P:=λA G D s hA R=>
 wpAny_isTrue_BoolOp (h A G D s hA R)
theorem z9V(q:P true σ):AB C env vars gl own d (allTrue .And [] env) m σ P:=λA G D s hA R=>wpAny_allTrue_And_nil ⟨D,σ,DX.refl _ _,R,q⟩
theorem y11(q:P false σ):AB C env vars gl own d (allTrue .Or [] env) m σ P:=λA G D s hA R=>wpAny_allTrue_Or_nil ⟨D,σ,DX.refl _ _,R,q⟩
theorem y4C{x:Expr}{rest:List Expr}(h:AB C env vars gl own d (isTrue x env (eval x env)) m σ λb σ₁=>(b=true->AB C env vars gl own d (allTrue .And rest env) m σ₁ P)/\(b=false->P false σ₁)):
  AB C env vars gl own d (allTrue .And (x::rest) env) m σ P:=λA G D s hA R=>
 wpAny_allTrue_And_cons (h.run hA R λb s₁ D₁ σ₁ a c e=>by
  cases b with
  |true=>exact z8g a (e.1 rfl A G D₁ s₁ hA c)
  |false=>exact⟨D₁,σ₁,a,c,e.2 rfl⟩)
theorem y5o{x:Expr}{rest:List Expr}(h:AB C env vars gl own d (isTrue x env (eval x env)) m σ λb σ₁=>(b=true->P true σ₁)/\(b=false->AB C env vars gl own d (allTrue .Or rest env) m σ₁ P)):
  AB C env vars gl own d (allTrue .Or (x::rest) env) m σ P:=λA G D s hA R=>
 wpAny_allTrue_Or_cons (h.run hA R λb s₁ D₁ σ₁ a c e=>by
  cases b with
  |false=>exact z8g a (e.2 rfl A G D₁ s₁ hA c)
  |true=>exact⟨D₁,σ₁,a,c,e.1 rfl⟩)
theorem y02{t b o:Expr}{p:Pos}(h:AB C env vars gl own d (isTrue t env (eval t env)) m σ λc σ₁=>(c=true->AT C env vars gl own d (eval b env) m σ₁ Q)/\(c=false->AT C env vars gl own d (eval o env) m σ₁ Q)):
  AT C env vars gl own d (eval (.IfExp t b o p) env) m σ Q:=λA G D s hA R=>
 wpAny_IfExp (h.run hA R λb s₁ D₁ σ₁ a c e=>by
  cases b with
  |true=>exact z02 a (e.1 rfl A G D₁ s₁ hA c)
  |false=>exact z02 a (e.2 rfl A G D₁ s₁ hA c))
theorem y4p{x y:Sem Value}{r:List (Sem Value)}{p:Pos}(h:AT C env vars gl own d x m σ λX σ₁=>∃b,TR C d X σ₁ b/\(b=true->AT C env vars gl own d (boolOp p .And (y::r)) m σ₁ Q)/\(b=false->Q X σ₁)):
  AT C env vars gl own d (boolOp p .And (x::y::r)) m σ Q:=λA G D s hA R=>by
 show wpAny C.M A (do
  let v <-x
  standAt p
  let t <-holding [v] (truthy v)
  match BoolOp.And,t with
  | .And,false| .Or,true=>pure v
  |_,_=>boolOp p .And (y::r)) _ _ s
 refine wpAny_bind (h.run hA R λv s₁ X D₁ σ₁ a b c hpp=> ?_)
 obtain⟨t,ht,h1,h2⟩:=hpp
 refine wpAny_bind (wpAny_standAt (wpAny_bind (wpAny_holding (ht.inF hA c b λtk=> ?_))))
 cases t with
 |false=>exact wpAny_pure ⟨X,D₁,σ₁,a,b,c.tok tk,h2 rfl⟩
 |true=>exact z02 a (h1 rfl A G D₁ _ hA (c.tok tk))
theorem y48{x y:Sem Value}{r:List (Sem Value)}{p:Pos}(h:AT C env vars gl own d x m σ λX σ₁=>∃b,TR C d X σ₁ b/\(b=true->Q X σ₁)/\(b=false->AT C env vars gl own d (boolOp p .Or (y::r)) m σ₁ Q)):
  AT C env vars gl own d (boolOp p .Or (x::y::r)) m σ Q:=λA G D s hA R=>by
 show wpAny C.M A (do
  let v <-x
  standAt p
  let t <-holding [v] (truthy v)
  match BoolOp.Or,t with
  | .And,false| .Or,true=>pure v
  |_,_=>boolOp p .Or (y::r)) _ _ s
 refine wpAny_bind (h.run hA R λv s₁ X D₁ σ₁ a b c hpp=> ?_)
 obtain⟨t,ht,h1,h2⟩:=hpp
 refine wpAny_bind (wpAny_standAt (wpAny_bind (wpAny_holding (ht.inF hA c b λtk=> ?_))))
 cases t with
 |true=>exact wpAny_pure ⟨X,D₁,σ₁,a,b,c.tok tk,h1 rfl⟩
 |false=>exact z02 a (h2 rfl A G D₁ _ hA (c.tok tk))
theorem z97{op:BoolOp}{vs:List Expr}{p:Pos}(h:AT C env vars gl own d (boolOp p op (evalEach vs env)) m σ Q):AT C env vars gl own d (eval (.BoolOp op vs p) env) m σ Q:=λA G D s hA R=>by
 rw[arm_eval_BoolOp]
 exact h A G D s hA R
end
end
section
section
variable {C:Cx} {env:Env} {vars:List Str} {gl:List (Str×V)} {own:Bool} {d:Nat} {m:Loc} {σ σ':Sto}
variable {A:Around} {G D D₁:Gh} {s:Shared}
theorem RelC.footLives(R:RelC C G D σ s){a:Addr}(h:a∈foot σ):∃o,s.heap.get? a=some o:=by
 have key:∀(τ:Sto),(∀p∈τ,PR s.heap p.1 p.2.1 p.2.2)->a∈foot τ->∃o,s.heap.get? a=some o:=by
  intro τ
  induction τ with
  |nil=>intro _ h;simp[foot] at h
  |cons p r ih=>
   obtain⟨b,o,x⟩:=p
   intro hp h
   rcases List.mem_append.mp h with h|h
   ·exact(hp _ (.head _)).lives a h
   ·exact ih (λq hq=>hp q (.tail _ hq)) h
 exact key σ R.pl h
theorem RelC.footLt(R:RelC C G D σ s){a:Addr}(h:a∈foot σ):a<s.heap.objs.size:=let⟨_,e⟩:=R.footLives h;Heap.lt_size e
theorem RelC.new_notFoot(R:RelC C G D σ s):s.heap.objs.size∉foot σ:=λh=>Nat.lt_irrefl _ (R.footLt h)
theorem RelC.new_G(R:RelC C G D σ s):G s.heap.objs.size=none:=by
 cases e:G s.heap.objs.size with
 |none=>rfl
 |some o=>exact absurd (Heap.lt_size (R.g _ _ e)) (Nat.lt_irrefl _)
theorem RelC.new_D(R:RelC C G D σ s):D s.heap.objs.size=none:=by
 cases e:D s.heap.objs.size with
 |none=>rfl
 |some o=>exact absurd (Heap.lt_size (R.d _ _ e)) (Nat.lt_irrefl _)
theorem RelC.keep(R:RelC C G D σ s){h':Heap}(t:Nat)(k:∀b o,s.heap.get? b=some o->h'.get? b=some o):RelC C G D σ {s with heap:=h',toks:=t} where
 same:=let⟨h,_,e⟩:=R.same;⟨h',t,by rw[e]⟩
 g:=λa o e=>k _ _ (R.g a o e)
 d:=λa o e=>k _ _ (R.d a o e)
 base:=R.base
 nd:=R.nd
 offG:=R.offG
 offD:=R.offD
 pl:=λp hp=>(R.pl p hp).at λb _ ob e=>k _ _ e
 sto:=R.sto
theorem RelC.keepBut(R:RelC C G D σ s){h':Heap}(t:Nat)(wr:List Addr)(hw:∀a∈wr,G a=none/\D a=none/\a∉foot σ)(k:∀b o,b∉wr->s.heap.get? b=some o->h'.get? b=some o):
  RelC C G D σ {s with heap:=h',toks:=t} where
 same:=let⟨h,_,e⟩:=R.same;⟨h',t,by rw[e]⟩
 g:=λa o e=>k _ _ (λm=>by rw[(hw a m).1] at e;cases e) (R.g a o e)
 d:=λa o e=>k _ _ (λm=>by rw[(hw a m).2.1] at e;cases e) (R.d a o e)
 base:=R.base
 nd:=R.nd
 offG:=R.offG
 offD:=R.offD
 pl:=λp hp=>(R.pl p hp).at λb hb ob e=>k _ _ (λm=>(hw b m).2.2 (z19 (ob:=p.2.1) hp b hb)) e
 sto:=R.sto
theorem RelC.push(R:RelC C G D σ s)(o:Obj):RelC C G D σ {s with heap:=s.heap.push o}:=by
 have:=R.keep (h':=s.heap.push o) s.toks λb x e=>Heap.get?_push_of_some _ e
 exact this
noncomputable def z2d(D:Gh)(a:Addr)(o:Obj):Gh:=λb=>if b=a then some o else D b
theorem z0P(D:Gh)(a:Addr)(o:Obj):z2d D a o a=some o:=by simp[z2d]
theorem z1m{D:Gh}{a b:Addr}(o:Obj)(h:b≠a):z2d D a o b=D b:=by simp[z2d,h]
theorem z39{D:Gh}{a:Addr}(o:Obj)(h:D a=none):Sub D (z2d D a o):=λb x e=>by
 rw[z1m];exact e
 rintro rfl;rw[h] at e;cases e
theorem RelC.newF(R:RelC C G D σ s)(o:Obj)(hf:autoParam (o.isFreed=false) auR):RelC C G (z2d D s.heap.objs.size o) σ {s with heap:=s.heap.push o}/\DX G D (z2d D s.heap.objs.size o):=by
 have R':=R.push o
 refine⟨⟨R'.same,R'.g,λa x e=> ?_,R'.base,R'.nd,R'.offG,λa ha=> ?_,R'.pl,λp hp=>(R'.sto p hp).mono (z39 o R.new_D)⟩,z39 o R.new_D,λa e g=> ?_⟩
 ·by_cases h:a=s.heap.objs.size
  ·subst h;rw[z0P] at e;cases e;exact Heap.get?_push_size _ hf
  ·rw[z1m o h] at e;exact R'.d a x e
 ·rw[z1m];exact R.offD a ha
  rintro rfl;exact R.new_notFoot ha
 ·rw[z1m];exact e
  rintro rfl;exact g R.new_G
theorem RelC.newM(R:RelC C G D σ s)(o:Obj)(x:AO)(hr:HR C.w D o x)(hx:z0V s.heap.objs.size x=[s.heap.objs.size])(hp:∀h a,PR h a o x=(h.get? a=some o))(hf:autoParam (o.isFreed=false) auR):
  RelC C G D ((s.heap.objs.size,o,x)::σ) {s with heap:=s.heap.push o}:=by
 have R':=R.push o
 refine⟨R'.same,R'.g,R'.d,R'.base,?_,λa ha=> ?_,λa ha=> ?_,λp hp'=> ?_,λp hp'=> ?_⟩
 ·show(z0V _ _++foot σ).Nodup
  rw[hx]
  exact List.nodup_cons.mpr ⟨R.new_notFoot,R.nd⟩
 ·have:a∈z0V s.heap.objs.size x++foot σ:=ha
  rw[hx] at this
  rcases List.mem_cons.mp this with rfl|h
  ·exact R.new_G
  ·exact R.offG a h
 ·have:a∈z0V s.heap.objs.size x++foot σ:=ha
  rw[hx] at this
  rcases List.mem_cons.mp this with rfl|h
  ·exact R.new_D
  ·exact R.offD a h
 ·rcases List.mem_cons.mp hp' with rfl|h
  ·show PR _ _ _ _
   rw[hp];exact Heap.get?_push_size _ hf
  ·exact R'.pl p h
 ·rcases List.mem_cons.mp hp' with rfl|h
  ·exact hr
  ·exact R'.sto p h
inductive Upd(a:Addr)(o:Obj)(x:AO)(o':Obj)(x':AO):Sto->Sto->Prop
 |head {r:Sto}:Upd a o x o' x' ((a,o,x)::r) ((a,o',x')::r)
 |tail {p:Addr×Obj×AO} {r r':Sto}:Upd a o x o' x' r r'->Upd a o x o' x' (p::r) (p::r')
theorem z0F(σ τ:Sto):foot (σ++τ)=foot σ++foot τ:=by
 induction σ with
 |nil=>rfl
 |cons p r ih=>obtain⟨a,o,x⟩:=p;show z0V a x++foot (r++τ)=z0V a x++foot r++foot τ;rw[ih,List.append_assoc]
theorem Upd.app{a:Addr}{o o':Obj}{x x':AO}{r r':Sto}(τ:Sto)(h:Upd a o x o' x' r r'):Upd a o x o' x' (τ++r) (τ++r'):=by
 induction τ with
 |nil=>exact h
 |cons p t ih=>exact .tail ih
theorem Upd.split{a:Addr}{o o':Obj}{x x':AO}{r r':Sto}(h:Upd a o x o' x' r r'):∃u v,r=u++(a,o,x)::v/\r'=u++(a,o',x')::v:=by
 induction h with
 |head=>exact⟨[],_,rfl,rfl⟩
 |tail _ ih=>obtain⟨u,v,rfl,rfl⟩:=ih;exact⟨_::u,v,rfl,rfl⟩
theorem Upd.mem{a:Addr}{o o':Obj}{x x':AO}{r r':Sto}(h:Upd a o x o' x' r r'):(a,o,x)∈r:=by
 obtain⟨u,v,rfl,rfl⟩:=h.split;simp
theorem RelC.upd(R:RelC C G D σ s){a b:Addr}{o o':Obj}{x x':AO}(U:Upd a o x o' x' σ σ'){h':Heap}(t:Nat)(hb:b∈z0V a x)(hs:Heap.SameBut b s.heap h')(hx:z0V a x'=z0V a x)
  (hp:PR h' a o' x') (hr:HR C.w D o' x'):RelC C G D σ' {s with heap:=h',toks:=t}:=by
 obtain⟨u,v,rfl,rfl⟩:=U.split
 have hmem:(a,o,x)∈u++(a,o,x)::v:=by simp
 have hbf:b∈foot (u++(a,o,x)::v):=z19 hmem b hb
 have ft:foot (u++(a,o',x')::v)=foot (u++(a,o,x)::v):=by rw[z0F,z0F];show foot u++(z0V a x'++foot v)=foot u++(z0V a x++foot v);rw[hx]
 have nd:=R.nd
 rw[z0F] at nd
 have nd':(foot u++(z0V a x++foot v)).Nodup:=nd
 have off:∀q,q∈u∨q∈v->b∉z0V q.1 q.2.2:=by
  intro q hq hbq
  have h1:=List.nodup_append.mp nd'
  rcases hq with hq|hq
  ·exact h1.2.2 b (z19 (a:=q.1) (ob:=q.2.1) (o:=q.2.2) hq b hbq) b (List.mem_append_left _ hb) rfl
  ·exact(List.nodup_append.mp h1.2.1).2.2 b hb b (z19 (a:=q.1) (ob:=q.2.1) (o:=q.2.2) hq b hbq) rfl
 refine⟨let⟨h,_,e⟩:=R.same;⟨h',t,by rw[e]⟩,λc oc e=> ?_,λc oc e=> ?_,R.base,by rw[ft];exact R.nd,λc hc=>R.offG c (by rw[ft] at hc;exact hc),λc hc=>R.offD c (by rw[ft] at hc;exact hc),λq hq=> ?_,λq hq=> ?_⟩
 ·exact hs.extBut c oc (by rintro rfl;rw[R.offG _ hbf] at e;cases e) (R.g c oc e)
 ·exact hs.extBut c oc (by rintro rfl;rw[R.offD _ hbf] at e;cases e) (R.d c oc e)
 ·have keep:(q∈u∨q∈v)->PR h' q.1 q.2.1 q.2.2:=λhq'=>(R.pl q (by rcases hq' with h|h<;>simp[h])).at λc hc ob e=>hs.extBut c ob (by rintro rfl;exact off q hq' hc) e
  rcases List.mem_append.mp hq with h|h
  ·exact keep (.inl h)
  ·rcases List.mem_cons.mp h with rfl|h
   ·exact hp
   ·exact keep (.inr h)
 ·rcases List.mem_append.mp hq with h|h
  ·exact R.sto q (by simp[h])
  ·rcases List.mem_cons.mp h with rfl|h
   ·exact hr
   ·exact R.sto q (by simp[h])
theorem RelC.drop(R:RelC C G D σ s){τ:Sto}(hs:τ.Sublist σ):RelC C G D τ s:=by
 have fs:(foot τ).Sublist (foot σ):=by
  have key:∀{a b:Sto},a.Sublist b->(foot a).Sublist (foot b):=by
   intro a b h
   induction h with
   |slnil=>exact .slnil
   |cons p _ ih=>obtain⟨c,o,x⟩:=p;exact ih.trans (List.sublist_append_right _ _)
   |cons_cons p _ ih=>obtain⟨c,o,x⟩:=p;exact List.Sublist.append (List.Sublist.refl _) ih
  exact key hs
 exact⟨R.same,R.g,R.d,R.base,fs.nodup R.nd,λa h=>R.offG a (fs.subset h),λa h=>R.offD a (fs.subset h),λp h=>R.pl p (hs.subset h),λp h=>R.sto p (hs.subset h)⟩
theorem RelC.freezeL(R:RelC C G D σ s){a:Addr}{o:Obj}{xs:List V}{u v:Sto}(e:σ=u++(a,o,.list xs)::v):
  RelC C G (z2d D a o) (u++v) s/\DX G D (z2d D a o)/\VR C.w (z2d D a o) (.ref a) (.lst xs):=by
 have hmem:(a,o,AO.list xs)∈σ:=by rw[e];simp
 have haf:a∈foot σ:=z4d hmem
 have hD:=R.offD a haf
 have hsub:=z39 o hD
 have R':=R.drop (τ:=u++v) (by rw[e];exact List.Sublist.append (List.Sublist.refl _) (List.sublist_cons_self _ _))
 have hno:a∉foot (u++v):=by
  have nd:=R.nd
  rw[e,z0F] at nd
  have nd':(foot u++(a::foot v)).Nodup:=nd
  rw[z0F]
  intro h
  have h1:=List.nodup_append.mp nd'
  rcases List.mem_append.mp h with h|h
  ·exact h1.2.2 a h a (.head _) rfl
  ·exact(List.nodup_cons.mp h1.2.1).1 h
 have hpl:s.heap.get? a=some o:=R.pl _ hmem
 obtain⟨vs,n,ho,hr⟩:=R.sto _ hmem
 refine⟨⟨R'.same,R'.g,λb x eb=> ?_,R'.base,R'.nd,R'.offG,λb hb=> ?_,R'.pl,λp hp=>(R'.sto p hp).mono hsub⟩,⟨hsub,λb eb g=> ?_⟩,?_⟩
 ·by_cases h:b=a
  ·subst h;rw[z0P] at eb;cases eb;exact hpl
  ·rw[z1m o h] at eb;exact R'.d b x eb
 ·rw[z1m];exact R'.offD b hb
  rintro rfl;exact hno hb
 ·rw[z1m];exact eb
  rintro rfl;exact g (R.offG _ haf)
 ·have ho':o=z0r vs n:=ho
  refine VR.lst (vs:=vs.toList) (n:=n) ?_ (hr.mono hsub)
  rw[z0P,ho']
end
end
section
section
variable {C:Cx} {env:Env} {vars:List Str} {gl:List (Str×V)} {own:Bool} {d:Nat} {m m':Loc} {σ σ':Sto}
variable {A:Around} {G D D₁:Gh} {s:Shared}
theorem y2X{m:Loc}{i j:Nat}{X Y:V}(h:(m.set i (some X))[j]? =some (some Y)):(j=i/\Y=X)∨(j≠i/\m[j]? =some (some Y)):=by
 rw[List.getElem?_set] at h
 by_cases e:i=j
 ·subst e
  rw[if_pos rfl] at h
  split at h
  ·simp at h;exact .inl ⟨rfl,h.symm⟩
  ·cases h
 ·rw[if_neg e] at h;exact .inr ⟨λq=>e q.symm,h⟩
theorem z6k{l:List Str}(hn:l.Nodup){i j:Nat}{x:Str}(h1:l[i]? =some x)(h2:l[j]? =some x):i=j:=by
 have hi:=(List.getElem?_eq_some_iff.mp h1)
 have hj:=(List.getElem?_eq_some_iff.mp h2)
 exact(List.getElem_inj (h₀:=hi.1) (h₁:=hj.1) hn).mp (hi.2.trans hj.2.symm)
theorem y04{l:List Str}{m:Loc}{i j:Nat}{x y:Str}{X Y:V}{Z:Str->V->Prop}(nd:l.Nodup)(h1:l[i]? =some x)(e1:l[j]? =some y)(e3:(m.set i (some X))[j]? =some (some Y))(hx:Z x X)(hy:y≠x->m[j]? =some (some Y)->Z y Y):Z y Y:=by
 rcases y2X e3 with⟨e,rfl⟩|⟨hne,e⟩
 ·rw[e,h1] at e1
  exact Option.some.inj e1▸hx
 ·exact hy (λq=>hne (z6k nd (q▸e1) h1)) e
theorem RelF.storeL{s':Shared}{i:Nat}{x:Str}{X:V}{v:Value}{mm:Str->Option Value}(R:RelF C env vars gl own G D m σ s)(RC:RelC C G D σ s')(h1:vars[i]? =some x)(hl:env.kindOf x=some .local)(hv:VR C.w D v X)(hn':s'.heap.Ns env.locals (λy=>if y=x then some v else mm y))
  (hmm:∀(i:Nat) x X,vars[i]? =some x->env.kindOf x=some .local->m[i]? =some (some X)->∃v,mm x=some v/\VR C.w D v X) (hs:Heap.SameBut env.locals s.heap s'.heap):RelF C env vars gl own G D (m.set i (some X)) σ s' where
 toRelC:=RC
 ok:=R.ok
 offL:=R.offL
 ns:=⟨_,hn',λj y Y e1 e2 e3=>y04 (Z:=λy Y=>∃u,(if y=x then some v else mm y)=some u/\VR C.w D u Y) R.ok.nd h1 e1 e3 ⟨v,if_pos rfl,hv⟩ λhne e3=>by rw[if_neg hne];exact hmm j y Y e1 e2 e3⟩
 cl:=λj y c e1 e2 e3=>by
  obtain⟨q1,⟨ov,q2,q3⟩,q4⟩:=R.cl j y c e1 e2 e3
  exact⟨q1,⟨ov,q2.sameBut hs q1,λY e=>y04 (Z:=λy Y=>env.kindOf y=some .cell->∃v,ov=some v/\VR C.w D v Y) R.ok.nd h1 e1 e (λe2=>nomatch hl.symm.trans e2) (λ_ e _=>q3 Y e) e2⟩,q4⟩
theorem RelF.storeC{s':Shared}{i:Nat}{x:Str}{X:V}{v:Value}{c:Addr}(R:RelF C env vars gl own G D m σ s)(RC:RelC C G D σ s')(h1:vars[i]? =some x)(hc:env.kindOf x=some .cell)(hcc:env.cells.lookup x=some c)(hv:VR C.w D v X)(hne:c≠env.locals)(hn':s'.heap.IsCell c (some v))
  (hs:Heap.SameBut c s.heap s'.heap):RelF C env vars gl own G D (m.set i (some X)) σ s' where
 toRelC:=RC
 ok:=R.ok
 offL:=R.offL
 ns:=by
  obtain⟨mm,hn,hmm⟩:=R.ns
  exact⟨mm,hn.sameBut hs (Ne.symm hne),λj y Y e1 e2 e3=>y04 (Z:=λy Y=>env.kindOf y=some .local->∃u,mm y=some u/\VR C.w D u Y) R.ok.nd h1 e1 e3 (λe2=>nomatch hc.symm.trans e2) (λ_ e3 e2=>hmm j y Y e1 e2 e3) e2⟩
 cl:=λj y c₂ e1 e2 e3=>by
  obtain⟨p1,⟨ov,p2,p3⟩,p4⟩:=R.cl j y c₂ e1 e2 e3
  by_cases hy:y=x
  ·subst hy
   obtain rfl:=Option.some.inj (hcc.symm.trans e3)
   exact⟨p1,⟨_,hn',λY e=>y04 (Z:=λ_ Y=>∃u,some v=some u/\VR C.w D u Y) R.ok.nd h1 e1 e ⟨v,rfl,hv⟩ λhne _=>absurd rfl hne⟩,p4⟩
  ·exact⟨p1,⟨ov,p2.sameBut hs λe=>hy (name_of_addr R.ok.ap (mem_of_lookup e3) (e▸mem_of_lookup hcc)),λY e=>y04 (Z:=λz Y=>z=y->∃u,ov=some u/\VR C.w D u Y) R.ok.nd h1 e1 e (λe=>absurd e.symm hy) (λ_ e _=>p3 Y e) rfl⟩,p4⟩
theorem RelF.store(R:RelF C env vars gl own G D m σ s){x:Str}{X:V}{v:Value}(hP:Put vars m x X m')(hv:VR C.w D v X)(hk:own=true∨env.kindOf x=some .local){K:Unit->Shared->Prop}
  (k:∀s',RelF C env vars gl own G D m' σ s'->K () s'):wpAny C.M A (storeName env x v) K (λ_ _=>False) s:=by
 obtain⟨i,h1,rfl⟩:=hP.get
 rcases(R.ok.vk x (List.mem_of_getElem? h1)).2 with hl|⟨hc,c,hcc⟩
 ·obtain⟨mm,hn,hmm⟩:=R.ns
  exact wpAny_storeName_local hl hn (λh' hn' hs'=>k _ (R.storeL (R.toRelC.keepBut _ [env.locals] (λa ha=>List.mem_singleton.mp ha▸R.offL) λb o hb e=>hs'.extBut b o (λq=>hb (List.mem_singleton.mpr q)) e) h1 hl hv hn' hmm hs')) (by rw[R.ok.fn];rfl)
 ·have hown:own=true:=hk.resolve_right (by rw[hc];exactλe=>nomatch e)
  subst hown
  obtain⟨q1,⟨ov,q2,q3⟩,q4⟩:=R.cl i x c h1 hc hcc
  exact wpAny_storeName_cell R.ok.fn hc hcc q2 λh' hc' hs'=>k _ (R.storeC (R.toRelC.keepBut s.toks [c] (λa ha=>List.mem_singleton.mp ha▸q4) λb o hb e=>hs'.extBut b o (λq=>hb (List.mem_singleton.mpr q)) e) h1 hc hcc hv q1 hc' hs')
inductive PostU(C:Cx)(env:Env)(vars:List Str)(gl:List (Str×V))(own:Bool)(G D:Gh)(K:Loc->Sto->Prop)(u:Unit)(s':Shared):Prop
 |mk (m':Loc) (D':Gh) (σ':Sto):DX G D D'->RelF C env vars gl own G D' m' σ' s'->K m' σ'->PostU C env vars gl own G D K u s'
noncomputable def AA(C:Cx)(env:Env)(vars:List Str)(gl:List (Str×V))(own:Bool)(d:Nat)(t:Value->Sem Unit)(x:V)(m:Loc)(σ:Sto)(K:Loc->Sto->Prop):Prop:=
 ∀A G D s v,AOk A d->RelF C env vars gl own G D m σ s->VR C.w D v x->wpAny C.M A (t v) (PostU C env vars gl own G D K) (λ_ _=>False) s
variable {K:Loc->Sto->Prop}
theorem PostU.weak{u:Unit}{s':Shared}(h:DX G D D₁)(p:PostU C env vars gl own G D₁ K u s'):PostU C env vars gl own G D K u s':=
 by obtain⟨m',D',σ',a,c,e⟩:=p;exact⟨m',D',σ',h.trans a,c,e⟩
theorem z0w{x:Str}{p:Pos}{X:V}(hP:Put vars m x X m')(k:K m' σ)(hk:own=true∨env.kindOf x=some .local:=by exact .inl rfl):AA C env vars gl own d (assign (.Name x p) env) X m σ K:=λA G D s v hA R hv=>by
 show wpAny C.M A (do standAt p;bindName env x v) _ _ s
 exact wpAny_bind (wpAny_standAt (wpAny_bindName (R.store hP hv hk λs' R'=>⟨m',D,σ,DX.refl _ _,R',k⟩)))
inductive Fl where
 |next
 |brk
 |cont
 |ret (x:V)
noncomputable def FlR(w:World)(D:Gh):Flow->Fl->Prop
 | .next,.next=>True
 | .brk,.brk=>True
 | .cont,.cont=>True
 | .ret v,.ret x=>VR w D v x
 |_,_=>False
inductive PostS(C:Cx)(env:Env)(vars:List Str)(gl:List (Str×V))(own:Bool)(G D:Gh)(Q:Fl->Loc->Sto->Prop)(f:Flow)(s':Shared):Prop
 |mk (fl:Fl) (m':Loc) (D':Gh) (σ':Sto):DX G D D'->FlR C.w D' f fl->RelF C env vars gl own G D' m' σ' s'->Q fl m' σ'->PostS C env vars gl own G D Q f s'
noncomputable def AS(C:Cx)(env:Env)(vars:List Str)(gl:List (Str×V))(own:Bool)(d:Nat)(t:Sem Flow)(m:Loc)(σ:Sto)(Q:Fl->Loc->Sto->Prop):Prop:=
 ∀A G D s,AOk A d->RelF C env vars gl own G D m σ s->wpAny C.M A t (PostS C env vars gl own G D Q) (λ_ _=>False) s
variable {Q:Fl->Loc->Sto->Prop}
theorem PostS.weak{u:Flow}{s':Shared}(h:DX G D D₁)(p:PostS C env vars gl own G D₁ Q u s'):PostS C env vars gl own G D Q u s':=
 by obtain⟨fl,m',D',σ',a,b,c,e⟩:=p;exact⟨fl,m',D',σ',h.trans a,b,c,e⟩
theorem z4b{t:Sem Flow}(h:DX G D D₁)(p:wpAny C.M A t (PostS C env vars gl own G D₁ Q) (λ_ _=>False) s):wpAny C.M A t (PostS C env vars gl own G D Q) (λ_ _=>False) s:=
 wpAny_mono p (λ_ _ q=>q.weak h) λ_ _ e=>e
theorem AS.run{t:Sem Flow}(h:AS C env vars gl own d t m σ Q)(hA:AOk A d)(R:RelF C env vars gl own G D m σ s){K:Flow->Shared->Prop}
  (k:∀f s' fl m' D' σ',DX G D D'->FlR C.w D' f fl->RelF C env vars gl own G D' m' σ' s'->Q fl m' σ'->K f s'):wpAny C.M A t K (λ_ _=>False) s:=
 wpAny_mono (h A G D s hA R) (λv s' hpp=>by obtain⟨fl,m',D',σ',a,b,c,e⟩:=hpp;exact k v s' fl m' D' σ' a b c e) λ_ _ e=>e
theorem AS.mono{t:Sem Flow}{Q':Fl->Loc->Sto->Prop}(h:AS C env vars gl own d t m σ Q)(hQ:∀f m σ,Q f m σ->Q' f m σ):AS C env vars gl own d t m σ Q':=λA G D s hA R=>
 h.run hA R λf s' fl m' D' σ' a b c e=>⟨fl,m',D',σ',a,b,c,hQ _ _ _ e⟩
theorem y47(q:Q .next m σ):AS C env vars gl own d (execs [] env) m σ Q:=λA G D s hA R=>wpAny_execs_nil ⟨.next,m,D,σ,DX.refl _ _,trivial,R,q⟩
noncomputable def y4W(C:Cx)(env:Env)(vars:List Str)(gl:List (Str×V))(own:Bool)(d:Nat)(rest:List Stmt)(Q:Fl->Loc->Sto->Prop):Fl->Loc->Sto->Prop
 | .next,m,σ=>AS C env vars gl own d (execs rest env) m σ Q
 |f,m,σ=>Q f m σ
theorem z8V{st:Stmt}{rest:List Stmt}(h:AS C env vars gl own d (exec st env) m σ (y4W C env vars gl own d rest Q)):AS C env vars gl own d (execs (st::rest) env) m σ Q:=λA G D s hA R=>by
 refine wpAny_execs_cons (h.run hA R λf s' fl m' D' σ' a b c e=> ?_)
 cases f<;>cases fl<;>first|exact b.elim|skip
 ·exact z4b a (e A G D' s' hA c)
 ·exact⟨.brk,m',D',σ',a,b,c,e⟩
 ·exact⟨.cont,m',D',σ',a,b,c,e⟩
 ·exact⟨.ret _,m',D',σ',a,b,c,e⟩
theorem z1K{x:Str}{p' p:Pos}{e:Expr}(h:AT C env vars gl own d (eval e env) m σ λX σ₁=>∃m',Put vars m x X m'/\Q .next m' σ₁)
  (hk:autoParam (own=true) auR) (hs:autoParam (swapsWith e (some (.Name x p')) p.line env=pure false) auR):AS C env vars gl own d (exec (.Assign [.Name x p'] e p) env) m σ Q:=λA G D s hA R=>
 wpAny_Assign_Name (h.run hA R λv s₁ X D₁ σ₁ a b c hpp=>by obtain⟨m',hP,q⟩:=hpp;exact c.store hP b (.inl hk) λs' R'=>⟨.next,m',D₁,σ₁,a,trivial,R',q⟩) hs
theorem y0N{e:Expr}{p:Pos}(h:AT C env vars gl own d (eval e env) m σ λX σ₁=>Q (.ret X) m σ₁):AS C env vars gl own d (exec (.Return (some e) p) env) m σ Q:=λA G D s hA R=>
 wpAny_Return_some (h.run hA R λv s₁ X D₁ σ₁ a b c q=>⟨.ret X,m,D₁,σ₁,a,b,c,q⟩)
theorem y5R{t:Expr}{b o:List Stmt}{p:Pos}(h:AB C env vars gl own d (isTrue t env (eval t env)) m σ λc σ₁=>(c=true->AS C env vars gl own d (execs b env) m σ₁ Q)/\(c=false->AS C env vars gl own d (execs o env) m σ₁ Q)):
  AS C env vars gl own d (exec (.If t b o p) env) m σ Q:=λA G D s hA R=>
 wpAny_If (h.run hA R λb s₁ D₁ σ₁ a c e=>by
  cases b with
  |true=>exact z4b a (e.1 rfl A G D₁ s₁ hA c)
  |false=>exact z4b a (e.2 rfl A G D₁ s₁ hA c))
theorem y4N{e:Expr}{p:Pos}(h:AT C env vars gl own d (eval e env) m σ λ_ σ₁=>Q .next m σ₁)
  (hs:autoParam (swapsWith e none p.line env=pure false) auR):AS C env vars gl own d (exec (.Expr e p) env) m σ Q:=λA G D s hA R=>by
 have hi:interactive env=false:=by unfold interactive;rw[R.ok.fn];rfl
 rw[exec_Expr env e p hi hs]
 refine wpAny_bind (wpAny_standAt (wpAny_bind (h.run hA R λv s₁ X D₁ σ₁ a b c q=> ?_)))
 have fin:PostS C env vars gl own G D Q .next s₁:=⟨.next,m,D₁,σ₁,a,trivial,c,q⟩
 exact wpAny_dropValue fin
inductive PostL(C:Cx)(env:Env)(vars:List Str)(gl:List (Str×V))(own:Bool)(G D:Gh)(m:Loc)(Q:List V->Sto->Prop)(v:List Value)(s':Shared):Prop
 |mk (x:List V) (D':Gh) (σ':Sto):DX G D D'->VRs C.w D' v x->RelF C env vars gl own G D' m σ' s'->Q x σ'->PostL C env vars gl own G D m Q v s'
noncomputable def AL(C:Cx)(env:Env)(vars:List Str)(gl:List (Str×V))(own:Bool)(d:Nat)(t:Sem (List Value))(m:Loc)(σ:Sto)(Q:List V->Sto->Prop):Prop:=
 ∀A G D s,AOk A d->RelF C env vars gl own G D m σ s->wpAny C.M A t (PostL C env vars gl own G D m Q) (λ_ _=>False) s
variable {L:List V->Sto->Prop}
theorem AL.run{t:Sem (List Value)}(h:AL C env vars gl own d t m σ L)(hA:AOk A d)(R:RelF C env vars gl own G D m σ s){K:List Value->Shared->Prop}
  (k:∀v s' x D' σ',DX G D D'->VRs C.w D' v x->RelF C env vars gl own G D' m σ' s'->L x σ'->K v s'):wpAny C.M A t K (λ_ _=>False) s:=
 wpAny_mono (h A G D s hA R) (λv s' hpp=>by obtain⟨x,D',σ',a,b,c,e⟩:=hpp;exact k v s' x D' σ' a b c e) λ_ _ e=>e
theorem z0v{p:Pos}(q:L [] σ):AL C env vars gl own d (spliced (backTo p (starEach [] env))) m σ L:=λA G D s hA R=>wpAny_items_nil ⟨[],D,σ,DX.refl _ _,.nil,R,q⟩
theorem z0q{p:Pos}{e:Expr}{rest:List Expr}(h:AT C env vars gl own d (eval e env) m σ λX σ₁=>AL C env vars gl own d (spliced (backTo p (starEach rest env))) m σ₁ λXs σ₂=>L (X::Xs) σ₂)
  (he:autoParam (starEach (e::rest) env=(false,eval e env)::starEach rest env) auR):AL C env vars gl own d (spliced (backTo p (starEach (e::rest) env))) m σ L:=λA G D s hA R=>
 wpAny_items_cons (h.run hA R λv s₁ X D₁ σ₁ a b c e=>e.run hA c λvs s₂ Xs D₂ σ₂ a' b' c' q=>⟨X::Xs,D₂,σ₂,a.trans a',.cons (b.mono a'.sub) b',c',q⟩) he
variable {P:V->Sto->Prop}
theorem RelF.newF(R:RelF C env vars gl own G D m σ s)(o:Obj)(hf:autoParam (o.isFreed=false) auR):
  RelF C env vars gl own G (z2d D s.heap.objs.size o) m σ {s with heap:=s.heap.push o}/\DX G D (z2d D s.heap.objs.size o):=by
 obtain⟨a,b⟩:=R.lifted.newF o hf
 exact⟨R.back a b,R.dx b⟩
theorem z2V{es:List Expr}{k:Nat}{p:Pos}(h:AL C env vars gl own d (spliced (backTo p (starEach es env))) m σ λXs σ₁=>Xs.length<=sizeLine/\P (.tup Xs) σ₁):
  AT C env vars gl own d (eval (.Tuple es k p) env) m σ P:=λA G D s hA R=>
 wpAny_Tuple (h.run hA R λvs s₁ Xs D₁ σ₁ a b c hpp=>by obtain⟨hl,q⟩:=hpp;exact⟨by rw[b.length];exact hl,by
  obtain⟨R',dx⟩:=c.newF (y3U vs.toArray 0)
  exact⟨.tup Xs,_,σ₁,a.trans dx,.tup (z0P ..) rfl rfl (b.mono dx.sub),R',q⟩⟩)
theorem z3C{es:List Expr}{p:Pos}(h:AL C env vars gl own d (spliced (backTo p (starEach es env))) m σ λXs σ₁=>Xs.length<=sizeLine/\P (.lst Xs) σ₁):
  AT C env vars gl own d (eval (.List es p) env) m σ P:=λA G D s hA R=>
 wpAny_List (h.run hA R λvs s₁ Xs D₁ σ₁ a b c hpp=>by obtain⟨hl,q⟩:=hpp;exact⟨by rw[b.length];exact hl,by
  obtain⟨R',dx⟩:=c.newF (z0r vs.toArray 0)
  exact⟨.lst Xs,_,σ₁,a.trans dx,.lst (z0P ..) (b.mono dx.sub),R',q⟩⟩)
theorem RelF.newL(R:RelF C env vars gl own G D m σ s){vs:List Value}{xs:List V}(h:VRs C.w D vs xs):
  RelF C env vars gl own G D m ((s.heap.objs.size,z0r vs.toArray 0,.list xs)::σ) {s with heap:=s.heap.push (z0r vs.toArray 0)}:=
 R.back (R.lifted.newM (z0r vs.toArray 0) (.list xs) ⟨vs.toArray,0,rfl,by simpa using h⟩ rfl (λ_ _=>rfl)) (DX.refl _ _)
noncomputable def SubR(C:Cx)(d:Nat)(x i:V)(σ:Sto)(P:V->Sto->Prop):Prop:=
 ∀A G D s o v,AOk A d->RelC C G D σ s->VR C.w D o x->VR C.w D v i->∃T id,s.TypeIs o T/\typeLookup (.type T) "__getitem__"=pure (some (.builtin id))/\wpAny C.M A (getItem o v) (PostC C G D P) (λ_ _=>False) s
set_option tactic.hygienic true in
theorem z5m(slice:Expr)(o i:Value):∃ops,subscripted slice false o i=operate ops (getItem o i):=by
 cases slice<;>first|exact⟨_,rfl⟩|(rename_i a b c p;cases c<;>exact⟨_,rfl⟩)
theorem z1i{e i:Expr}{p:Pos}(h:AT C env vars gl own d (eval e env) m σ λX σ₁=>AT C env vars gl own d (eval i env) m σ₁ λI σ₂=>SubR C d X I σ₂ P):
  AT C env vars gl own d (eval (.Subscript e i p) env) m σ P:=λA G D s hA R=>
 PyProof.Rows.Subscript_ (h.run hA R λv s₁ X D₁ σ₁ a b c e₁=>e₁.run hA c λu s₂ I D₂ σ₂ a' b' c' q=>by
  obtain⟨T,id,hT,hl,hw⟩:=q A _ D₂ s₂ v u hA c'.lifted (b.mono a'.sub) b'
  obtain⟨ops,ho⟩:=z5m i v u
  exact PyProof.Rows.tail_any hT hl (wpAny_mono hw (λ_ _ hpp=>by obtain⟨x,D',σ',a₂,b₂,c₂,q₂⟩:=hpp;exact⟨x,D',σ',(a.trans a').trans (c'.dx a₂),b₂,c'.back c₂ a₂,q₂⟩) λ_ _ x=>x) ho)
end
end
section
section
variable {C:Cx} {env:Env} {vars:List Str} {gl:List (Str×V)} {own:Bool} {d:Nat} {m m':Loc} {σ σ':Sto}
variable {A:Around} {G D D₁:Gh} {s:Shared} {P:V->Sto->Prop}
noncomputable def KW(C:Cx)(d:Nat)(f:V)(xs:List V)(σ:Sto)(P:V->Sto->Prop):Prop:=
 ∀A G D s v vs,AOk A d->RelC C G D σ s->VR C.w D v f->VRs C.w D vs xs->wpAny C.M A (call v vs) (PostC C G D P) (λ_ _=>False) s
theorem KW.mono{P':V->Sto->Prop}{f:V}{xs:List V}(h:KW C d f xs σ P)(hp:∀x σ,P x σ->P' x σ):KW C d f xs σ P':=λA G D s v vs hA R hv hs=>
 wpAny_mono (h A G D s v vs hA R hv hs) (λ_ _ hpp=>by obtain⟨x,D',σ',a,b,c,e⟩:=hpp;exact⟨x,D',σ',a,b,c,hp _ _ e⟩) λ_ _ e=>e
theorem z5j{a:Addr}{xs:List V}(h:CW C d (.ref a) xs σ P):KW C d (.ref a) xs σ P:=λA G D s v vs hA R hv hs=>by
 apply VR.refE hv
 exact wpAny_call (codeAny_mono (h A G D s vs hA R hs) λr s' q=>by
  cases r with
  |error e=>exact q.elim
  |ok f=>cases f<;>exact q)
noncomputable def z0g(C:Cx):V->Prop
 | .bi _=>True
 | .type _=>True
 | .ref a=>∃o fd,C.base.get? a=some o/\o.data= .func fd
 |_=>False
theorem z1n{F:V}(hF:z0g C F){f:Value}{pos:Pos}{first:List Value}{args:List (Bool×Sem Value)}{K:Value->Shared->Prop}{E:Value->Shared->Prop}(hf:VR C.w D f F)(hplain:args.any (·.1)=false)
  (h:wpAny C.M A (evalArgs f true args []) (λx s₁=>(∀b o,C.base.get? b=some o->s₁.heap.get? b=some o)/\wpAny C.M A (call f (first++x.pos) x.kw) K E s₁) E s):
  wpAny C.M A (callWith pos f first args []) K E s:=by
 cases hf with
 |bi n=>exact Calls.callWith_builtin hplain (wpAny_mono h (λ_ _ x=>x.2) λ_ _ x=>x)
 |type n=>exact callWith_type hplain (wpAny_mono h (λ_ _ x=>x.2) λ_ _ x=>x)
 |ref a=>
  obtain⟨o,fd,ho,hd⟩:=hF
  exact Calls.callWith_function (wpAny_mono h (λ_ _ x=>⟨⟨x.1 _ _ ho,hd⟩,x.2⟩) λ_ _ x=>x)
 |_=>exact hF.elim
theorem RelC.baseIn(R:RelC C G D σ s):∀b o,C.base.get? b=some o->s.heap.get? b=some o:=λb o e=>R.g b o (R.base b o e)
theorem KW.inF{f:V}{xs:List V}(h:KW C d f xs σ P){v:Value}{vs:List Value}(hA:AOk A d)(R:RelF C env vars gl own G D m σ s)(hv:VR C.w D v f)(hs:VRs C.w D vs xs):
  wpAny C.M A (call v vs) (PostE C env vars gl own G D m P) (λ_ _=>False) s:=
 wpAny_mono (h A _ D s v vs hA R.lifted hv hs) (λ_ _ hpp=>by obtain⟨x,D',σ',a,b,c,e⟩:=hpp;exact⟨x,D',σ',R.dx a,b,R.back c a,e⟩) λ_ _ e=>e
theorem y0C{x:Str}{np p:Pos}(h:AT C env vars gl own d (eval (.Name x np) env) m σ λF σ₁=>z0g C F/\KW C d F [] σ₁ P):
  AT C env vars gl own d (eval (.Call (.Name x np) [] [] p) env) m σ P:=λA G D s hA R=>
 wpAny_Call_ofName (h.run hA R λv s₁ F D₁ σ₁ a b c hpp=>by obtain⟨hF,hk⟩:=hpp;exact z1n hF b rfl (evalArgs_none ⟨c.toRelC.baseIn,z02 a (hk.inF hA c b .nil)⟩))
theorem z0H{x:Str}{np p:Pos}{e:Expr}{rest:List Expr}(h:AT C env vars gl own d (eval (.Name x np) env) m σ λF σ₁=>z0g C F/\AL C env vars gl own d (spliced (backTo p (starEach (e::rest) env))) m σ₁ λXs σ₂=>KW C d F Xs σ₂ P)
  (he:autoParam (starEach (e::rest) env=(false,eval e env)::starEach rest env) auR) (hplain:autoParam ((backTo p (starEach rest env)).any (·.1)=false) auR):
  AT C env vars gl own d (eval (.Call (.Name x np) (e::rest) [] p) env) m σ P:=λA G D s hA R=>
 wpAny_Call_ofName (h.run hA R λv s₁ F D₁ σ₁ a b c hpp=>by obtain⟨hF,hk⟩:=hpp;exact z1n hF b (by rw[he];exact hplain) (by
  rw[he] at hk⊢
  exact Calls.evalArgs_plain (AL.run hk hA c λvs s₂ Xs D₂ σ₂ a' b' c' q=>⟨c'.toRelC.baseIn,z02 (a.trans a') (q.inF hA c' (b.mono a'.sub) b')⟩)))
noncomputable def z99(Q:V->Sto->Prop):Fl->Loc->Sto->Prop
 | .ret x,_,σ=>Q x σ
 | .next,_,σ=>Q .none σ
 |_,_,_=>False
noncomputable def nodupB:List Str->Bool
 |[]=>true
 |x::r=> !r.contains x&&nodupB r
theorem nodupB_ok:∀{l:List Str},nodupB l=true->l.Nodup
 |[],_=> .nil
 |x::r,h=>by
  simp only[nodupB,Bool.and_eq_true,Bool.not_eq_true'] at h
  exact List.nodup_cons.mpr ⟨λhm=>by have:=List.contains_iff_mem.mpr hm;rw[this] at h;exact absurd h.1 (by decide),nodupB_ok h.2⟩
noncomputable def z6L(sc:Scope)(vars:List Str)(gl:List Str):Bool:=
 sc.kind== .function&& !sc.isCoroutine&& !sc.isGenerator&&nodupB vars&&
 vars.all (λx=> !(x==("__debug__":Str))&&(sc.names.lookup x==some .local||sc.names.lookup x==some .cell))&&
 gl.all λx=> !(x==("__debug__":Str))&&sc.names.lookup x==some .globalImplicit
theorem z1H{x:Str}:∀(names:List (Str×NameKind)) (n:Nat) (acc:List (Str×Addr)),names.lookup x=some .cell∨(∃c,acc.lookup x=some c)->∃c,(cellsFrom n names acc).lookup x=some c
 |[],_,_,h=>h.elim (λe=>by cases e) id
 |(y,k)::r,n,acc,h=>by
  unfold cellsFrom
  by_cases hk:(k== .cell)=true
  ·rw[if_pos hk]
   refine z1H r (n+1) ((y,n)::acc) ?_
   by_cases hy:(x==y)=true
   ·exact .inr ⟨n,by rw[List.lookup_cons,hy]⟩
   ·refine h.imp (λe=> ?_) λ⟨c,e⟩=>⟨c,?_⟩
    ·rw[List.lookup_cons] at e;simpa only[hy] using e
    ·rw[List.lookup_cons];simpa only[hy] using e
  ·rw[if_neg hk]
   refine z1H r n acc ?_
   by_cases hy:(x==y)=true
   ·refine .inr (h.elim (λe=> ?_) id)
    rw[List.lookup_cons,hy] at e
    exact absurd (by rw[Option.some.inj e];rfl) hk
   ·refine h.imp (λe=> ?_) id
    rw[List.lookup_cons] at e;simpa only[hy] using e
theorem z56{kf:Str->Option NameKind}{x:Str}:∀{b:List (Str×Value)} {mm:Str->Option Value},x∉b.map (·.1)->bindL kf b mm x=mm x
 |[],_,_=>rfl
 |(n,v)::r,mm,h=>by
  simp only[List.map_cons,List.mem_cons,not_or] at h
  unfold bindL
  rw[z56 h.2]
  split
  ·simp[h.1]
  ·rfl
theorem z5U{kf:Str->Option NameKind}{x:Str}:∀{b:List (Str×Value)} {mm:Str->Option Value},x∉b.map (·.1)->bindC kf b mm x=mm x
 |[],_,_=>rfl
 |(n,v)::r,mm,h=>by
  simp only[List.map_cons,List.mem_cons,not_or] at h
  unfold bindC
  rw[z5U h.2]
  split
  ·rfl
  ·simp[h.1]
theorem z7t{kf:Str->Option NameKind}{x:Str}{v:Value}:∀{b:List (Str×Value)} {mm:Str->Option Value},(b.map (·.1)).Nodup->(x,v)∈b->kf x=some .local->bindL kf b mm x=some v
 |(n,u)::r,mm,hn,hm,hk=>by
  have hn':=List.nodup_cons.mp hn
  unfold bindL
  rcases List.mem_cons.mp hm with e|hm
  ·cases e
   rw[z56 hn'.1,if_pos hk];simp
  ·exact z7t hn'.2 hm hk
theorem z7w{kf:Str->Option NameKind}{x:Str}{v:Value}:∀{b:List (Str×Value)} {mm:Str->Option Value},(b.map (·.1)).Nodup->(x,v)∈b->kf x≠some .local->bindC kf b mm x=some v
 |(n,u)::r,mm,hn,hm,hk=>by
  have hn':=List.nodup_cons.mp hn
  unfold bindC
  rcases List.mem_cons.mp hm with e|hm
  ·cases e
   rw[z5U hn'.1,if_neg hk];simp
  ·exact z7w hn'.2 hm hk
theorem AOk.deeper{A:Around}{d:Nat}{env:Env}(h:AOk A (d+1)):AOk (A.deeper env) d:=
 ⟨h.h,by have:=h.depth;show A.depth+1+d<1000;lia,by have:=h.units;show A.units+3+8*d<9000;lia⟩
structure FnIs(C:Cx)(a:Addr)(fd:FuncData)(body:List Stmt)(params:List Str):Prop where
 ob:∃o,C.base.get? a=some o/\o.data= .func fd
 body:fd.body= .stmts body
 clo:fd.closure=[]
 code:C.base.CodeRec fd.code fd.qualname
 gl:fd.globals=mainGlobals
 bi:fd.builtins=builtinsNs
 bind:∀vs:List Value,vs.length=params.length->bindArgs fd ⟨vs,[]⟩=pure (params.zip vs)
theorem z9e{α β:Type}:∀{l:List α} {r:List β} {i:Nat} {x:α} {y:β},l[i]? =some x->r[i]? =some y->(x,y)∈l.zip r
 |a::l,b::r,0,x,y,h1,h2=>by simp at h1 h2;subst h1 h2;simp
 |a::l,b::r,i+1,x,y,h1,h2=>by
  have:=z9e (l:=l) (r:=r) (i:=i) (by simpa using h1) (by simpa using h2)
  simp[this]
 |[],_,i,_,_,h1,_=>by simp at h1
 |_::_,[],i,_,_,_,h2=>by simp at h2
set_option tactic.hygienic true in
open Classical in
theorem y5z{a:Addr}{fd:FuncData}{body:List Stmt}{params others:List Str}{gl:List (Str×V)}{xs:List V}(F:FnIs C a fd body params)(hlen:xs.length=params.length)
  (hst:z6L fd.scope (params++others) (gl.map (·.1))=true) (hgl:∀p∈gl,z0f C p.1 p.2)
  (h:∀env,env.scope=fd.scope->AS C env (params++others) gl true d (execs body env) (xs.map some++others.map λ_=>none) σ (z99 P)):CW C (d+1) (.ref a) xs σ P:=by
 intro A G D s vs hA R hv
 obtain⟨o,ho,hd⟩:=F.ob
 have hvl:vs.length=params.length:=hv.length.trans hlen
 have keepB:=R.baseIn
 simp only[z6L,Bool.and_eq_true,Bool.not_eq_true',beq_iff_eq] at hst
 obtain⟨⟨⟨⟨⟨k1,k2⟩,k3⟩,k4⟩,k5⟩,k6⟩:=hst
 have nd:(params++others).Nodup:=nodupB_ok k4
 have vk:∀x∈params++others,(x==("__debug__":Str))=false/\(fd.scope.names.lookup x=some .local∨fd.scope.names.lookup x=some .cell):=λx hx=>by
  have:=List.all_eq_true.mp k5 x hx
  simp only[Bool.and_eq_true,Bool.not_eq_true',Bool.or_eq_true,beq_iff_eq] at this
  exact this
 have zn:(params.zip vs).map (·.1)=params:=by
  rw[List.map_fst_zip];lia
 refine codeAny_call_cells (fd:=fd) (by have:=hA.depth;show A.depth<1000;lia) (keepB _ _ ho) hd (C.lim.keeps keepB) (F.code.keeps keepB) F.body (F.bind vs hvl) F.clo (λx hx=> ?_) (λs₁ x=> ?_) k2 k3 k1
 ·have hm:x.1∈params:=zn▸List.mem_map_of_mem hx
  rcases(vk x.1 (List.mem_append_left _ hm)).2 with e|e
  ·exact .inl e
  ·obtain⟨c,hc⟩:=z1H (x:=x.1) fd.scope.names (s.heap.objs.size+1) [] (.inl e)
   exact .inr ⟨e,by rw[hc];rfl⟩
 ·generalize hE:callEnvC fd s.heap.objs.size a=E at x⊢
  have eL:E.locals=s.heap.objs.size:=by rw[<-hE];rfl
  have eK:∀y,E.kindOf y=fd.scope.names.lookup y:=λy=>by rw[<-hE];rfl
  have eC:E.cells=cellsFrom (s.heap.objs.size+1) fd.scope.names []:=by rw[<-hE];rfl
  obtain⟨h₁,tk,hs₁,kp⟩:=x.done
  let Gc:Gh:=λb=>if b∈foot σ then none else s.heap.get? b
  have gc1:∀b o,Gc b=some o->s.heap.get? b=some o/\b∉foot σ:=λb o e=>by
   have e':(if b∈foot σ then none else s.heap.get? b)=some o:=e
   split at e'
   ·cases e'
   ·rename_i hb;exact⟨e',hb⟩
  have gc2:∀b o,s.heap.get? b=some o->b∉foot σ->Gc b=some o:=λb o e hb=>by show(if b∈foot σ then none else s.heap.get? b)=some o;rw[if_neg hb];exact e
  have gG:∀b o,G b=some o->Gc b=some o:=λb o e=>gc2 b o (R.g b o e) λhb=>by rw[R.offG b hb] at e;cases e
  have new:∀c,s.heap.objs.size<=c->Gc c=none/\D c=none/\c∉foot σ:=λc hc=>⟨by
    cases e:Gc c with
    |none=>rfl
    |some o=>exact absurd (Heap.lt_size (gc1 c o e).1) (Nat.not_lt.mpr hc),by
    cases e:D c with
    |none=>rfl
    |some o=>exact absurd (Heap.lt_size (R.d c o e)) (Nat.not_lt.mpr hc),λhf=>absurd (R.footLt hf) (Nat.not_lt.mpr hc)⟩
  have hkeep:∀b o,s.heap.get? b=some o->s₁.heap.get? b=some o:=by rw[hs₁];exact kp
  have RC:RelC C Gc D σ s₁:=by
   refine⟨?_,λb o e=>hkeep b o (gc1 b o e).1,λb o e=>hkeep b o (R.d b o e),λb o e=>gG b o (R.base b o e),R.nd,λb hb=> ?_,R.offD,λp hp=>(R.pl p hp).at λb _ ob e=>hkeep _ _ e,R.sto⟩
   ·obtain⟨h₂,t₂,e⟩:=R.same
    exact⟨h₁,tk,by rw[hs₁,e]⟩
   ·show(if b∈foot σ then none else s.heap.get? b)=none;rw[if_pos hb]
  have ndz:((params.zip vs).map (·.1)).Nodup:=by rw[zn];exact(List.nodup_append.mp nd).1
  have locs:∀(i:Nat) y X,(params++others)[i]? =some y->(xs.map some++others.map λ_=>none)[i]? =some (some X)->∃v,(y,v)∈params.zip vs/\VR C.w D v X:=by
   intro i y X e1 e2
   rw[List.getElem?_append] at e1 e2
   rw[List.length_map] at e2
   by_cases hi:i<xs.length
   ·rw[if_pos hi] at e2
    rw[if_pos (by lia)] at e1
    rw[List.getElem?_map] at e2
    obtain⟨Y,hY,e3⟩:=Option.map_eq_some_iff.mp e2
    cases e3
    obtain⟨u,hu,ru⟩:=hv.get hY
    exact⟨u,z9e e1 hu,ru⟩
   ·rw[if_neg hi] at e2
    rw[List.getElem?_map] at e2
    obtain⟨Y,hY,e3⟩:=Option.map_eq_some_iff.mp e2
    cases e3
  have RF:RelF C E (params++others) gl true Gc D (xs.map some++others.map λ_=>none) σ s₁:=
   {RC with
    ok:=⟨by rw[<-hE];exact k1,nd,λy hy=>⟨(vk y hy).1,(vk y hy).2.imp (λe=>by rw[eK];exact e) λe=>⟨by rw[eK];exact e,by rw[eC];exact z1H _ _ _ (.inl e)⟩⟩,x.apart,
     λp hp=>by
      have:=List.all_eq_true.mp k6 p.1 (List.mem_map_of_mem hp)
      simp only[Bool.and_eq_true,Bool.not_eq_true',beq_iff_eq] at this
      exact⟨this.1,by rw[eK];exact this.2,hgl p hp⟩,
     by rw[<-hE];exact F.gl,by rw[<-hE];exact F.bi⟩
    offL:=by rw[eL];exact new _ (Nat.le_refl _)
    ns:=⟨_,x.toInCall.ns,λi y X e1 e2 e3=>by
     obtain⟨v,hv1,hv2⟩:=locs i y X e1 e3
     exact⟨v,z7t ndz hv1 e2,hv2⟩⟩
    cl:=λi y c e1 e2 e3=>by
     have hab:=x.above y c (mem_of_lookup e3)
     rw[eL] at hab
     refine⟨by rw[eL];exact Nat.ne_of_gt hab,⟨_,x.cell y c e3,λX e4=> ?_⟩,new c (Nat.le_of_lt hab)⟩
     obtain⟨v,hv1,hv2⟩:=locs i y X e1 e4
     exact⟨v,z7w ndz hv1 (by rw[e2];intro q;cases q),hv2⟩}
  refine wpAny_mono ((h E (by rw[<-hE];rfl)).run hA.deeper RF λf s' fl m' D' σ' a b c q=> ?_) (λ_ _ e=>e) (λ_ _ e=>e.elim)
  have dx:DX G D D':=a.less λb hb=>by
   cases e:G b with
   |none=>exact absurd e hb
   |some o=>rw[gG b o e];exact nofun
  have RC':RelC C G D' σ' s':=⟨c.same,λb o e=>c.g b o (gG b o e),c.d,R.base,c.nd,(λb hb=>by
    cases e:G b with
    |none=>rfl
    |some o=>have:=c.offG b hb;rw[gG b o e] at this;cases this),c.offD,c.pl,c.sto⟩
  cases f<;>cases fl<;>first|exact b.elim|exact q.elim|skip
  ·exact⟨.none,D',σ',dx,.none,RC',q⟩
  ·exact⟨_,D',σ',dx,b,RC',q⟩
end
end
section
noncomputable def y3G(w:World)(D:Gh)(h h':Heap)(v:Value)(X:V):Prop:=
 VR w D v X∨∃T o vals n Xs,v= .ref T/\X= .tup Xs/\VRs w D vals Xs/\h.objs.size<=T/\h'.get? T=some o/\o.cls= .type "tuple"/\o.data= .seq vals.toArray n
noncomputable def z4N(wr:List Addr)(h h':Heap):Prop:=∀b o,b∉wr->h.get? b=some o->h'.get? b=some o
structure IW(C:Cx)(A:Around)(tgt:Expr)(I:Addr)(fp wr:List Addr)(D:Gh)(xs:List V)(St:Nat->Heap->Prop):Prop where
 live:∀i h,St i h->∀a∈wr,∃o,h.get? a=some o
 sub:∀b∈wr,b∈fp
 old:∀b∈fp,b∉wr->∀h:Heap,St 0 h->h.get? b=none->False
 frame:∀i h h',St i h->(∀b∈fp,∀o,h.get? b=some o->h'.get? b=some o)->St i h'
 item:∀(i:Nat) X (s:Shared) (K:Option Value->Shared->Prop),xs[i]? =some X->St i s.heap->
  (∀v s₁,(∀Q':Unit->Shared->Prop,(∀h' tk,y3G C.w D s.heap h' v X->St (i+1) h'->z4N wr s.heap h'->Q' () {s with heap:=h',toks:=tk})->
   wpAny C.M A (letOwnedTupleGo tgt (.ref I) v) Q' (λ_ _=>False) s₁)->K (some v) s₁)->wpAny C.M A (pyNext (.ref I)) K (λ_ _=>False) s
 self:∀(i:Nat) (s:Shared) (K:Value->Shared->Prop),St i s.heap->K (.ref I) s->wpAny C.M A (pyIter (.ref I)) K (λ_ _=>False) s
 done:∀(s:Shared) (K:Option Value->Shared->Prop),St xs.length s.heap->(∀h' tk,z4N wr s.heap h'->K none {s with heap:=h',toks:=tk})->wpAny C.M A (pyNext (.ref I)) K (λ_ _=>False) s
section
variable {C:Cx} {env:Env} {vars:List Str} {gl:List (Str×V)} {own:Bool} {d:Nat} {m m':Loc} {σ σ':Sto}
variable {A:Around} {G D D₀ D₁:Gh} {s:Shared}
noncomputable def Off(env:Env)(vars:List Str)(G D:Gh)(σ:Sto)(wr:List Addr):Prop:=∀a∈wr,G a=none/\D a=none/\a∉foot σ/\¬z2U env vars a
theorem RelF.keepBut(R:RelF C env vars gl own G D m σ s){h':Heap}(t:Nat){wr:List Addr}(hw:Off env vars G D σ wr)(k:z4N wr s.heap h'):RelF C env vars gl own G D m σ {s with heap:=h',toks:=t}:=by
 have R':=R.lifted.keepBut (h':=h') t wr (λa ha=>⟨by rw[z18 (hw a ha).2.2.2];exact(hw a ha).1,(hw a ha).2.1,(hw a ha).2.2.1⟩) k
 exact R.back R' (DX.refl _ _)
theorem y1M{s':Shared}(R:RelF C env vars gl own G D m σ s)(R₁:RelF C env vars gl own G D m σ s'){T:Addr}{o:Obj}(nT:∀ob,s.heap.get? T≠some ob)(ho:s'.heap.get? T=some o):D T=none/\DX G D (z2d D T o)/\RelF C env vars gl own G (z2d D T o) m σ s':=by
 have no:∀{x:Option Obj},(∀ob,x=some ob->s.heap.get? T=some ob)->x=none:=λ{x} h=>Option.eq_none_iff_forall_not_mem.mpr λob e=>nT ob (h ob e)
 have hD:D T=none:=no (R.d T)
 have hf:∀b∈foot σ,b≠T:=λb h q=>by obtain⟨ob,e⟩:=R.toRelC.footLives h;exact nT ob (q▸e)
 have hl:z3x env vars G s' T=none:=by
  by_cases hm:z2U env vars T
  ·obtain⟨ob,e⟩:=R.mineLives hm;exact absurd e (nT ob)
  ·rw[z18 hm];exact no (R.g T)
 have hsub:=z39 o hD
 have RC:=R₁.lifted
 have dx:DX (z3x env vars G s') D (z2d D T o):=⟨hsub,λb eb g=>by rw[z1m];exact eb;rintro rfl;exact g hl⟩
 refine⟨hD,R₁.dx dx,R₁.back {RC with d:=λb ob e=> ?_,offD:=λb hb=> ?_,sto:=λp hp=>(RC.sto p hp).mono hsub} dx⟩
 ·by_cases hb:b=T
  ·rw[hb,z0P] at e;rw[hb];exact ho.trans e
  ·rw[z1m o hb] at e;exact RC.d b ob e
 ·rw[z1m o (hf b hb)];exact RC.offD b hb
theorem z9m(R:RelF C env vars gl own G D m σ s)(hs:Sub D₀ D){h':Heap}{t:Nat}{wr:List Addr}(hw:Off env vars G D σ wr)(k:z4N wr s.heap h'){v:Value}{X:V}(hi:y3G C.w D₀ s.heap h' v X):
  ∃D',DX G D D'/\RelF C env vars gl own G D' m σ {s with heap:=h',toks:=t}/\VR C.w D' v X/\∀w2:List Addr,(∀a∈w2,∃o,s.heap.get? a=some o)->Off env vars G D σ w2->Off env vars G D' σ w2:=by
 have R₁:=R.keepBut t hw k
 rcases hi with hv|⟨T,o,vals,n,Xs,rfl,rfl,hvs,hT,ho,hc,hd⟩
 ·exact⟨D,DX.refl _ _,R₁,hv.mono hs,λ_ _ h=>h⟩
 ·have nT:∀ob,s.heap.get? T≠some ob:=λob e=>absurd (Heap.lt_size e) (Nat.not_lt.mpr hT)
  obtain⟨hD,dx,R₂⟩:=y1M R R₁ nT ho
  refine⟨z2d D T o,dx,R₂,.tup (z0P ..) hc hd ((hvs.mono hs).mono dx.sub),λw2 hl2 hw2 a ha=>⟨(hw2 a ha).1,?_,(hw2 a ha).2.2⟩⟩
  obtain⟨ob,e⟩:=hl2 a ha
  rw[z1m o (show a≠T fromλq=>nT ob (q▸e))];exact(hw2 a ha).2.1
noncomputable def z5x(C:Cx)(env:Env)(vars:List Str)(gl:List (Str×V))(own:Bool)(d:Nat)(tgt:Expr)(body:List Stmt)(P:Sto->Prop)(Q:Fl->Loc->Sto->Prop):List V->Loc->Sto->Prop
 |[],m,σ=>Q .next m σ
 |X::xs,m,σ=>AA C env vars gl own d (assign tgt env) X m σ λm₁ σ₁=>AS C env vars gl own d (execs body env) m₁ σ₁ λfl m₂ σ₂=>match fl with
  | .next=>P σ₂/\z5x C env vars gl own d tgt body P Q xs m₂ σ₂
  | .cont=>P σ₂/\z5x C env vars gl own d tgt body P Q xs m₂ σ₂
  | .brk=>Q .next m₂ σ₂
  | .ret v=>Q (.ret v) m₂ σ₂
noncomputable def y0H(C:Cx)(D:Gh)(P:Sto->Prop)(h:Heap)(fp wr:List Addr):Prop:=
 ∀G' D' σ' (s':Shared),RelC C G' D' σ' s'->Sub D D'->P σ'->∀b∈fp,b∉wr->∀o,h.get? b=some o->s'.heap.get? b=some o
inductive Ready(C:Cx)(A:Around)(env:Env)(vars:List Str)(gl:List (Str×V))(own:Bool)(tgt:Expr)(G D:Gh)(m:Loc)(σ:Sto)(it:Value)(s:Shared)(xs:List V)(P:Sto->Prop):Prop
 |mk (I:Addr) (fp wr:List Addr) (St:Nat->Heap->Prop):it= .ref I->IW C A tgt I fp wr D xs St->St 0 s.heap->RelF C env vars gl own G D m σ s->Off env vars G D σ wr->P σ->y0H C D P s.heap fp wr->Ready C A env vars gl own tgt G D m σ it s xs P
inductive PostI(C:Cx)(A:Around)(env:Env)(vars:List Str)(gl:List (Str×V))(own:Bool)(tgt:Expr)(G D:Gh)(m:Loc)(Q:List V->(Sto->Prop)->Sto->Prop)(it:Value)(s₂:Shared):Prop
 |mk (D':Gh) (σ':Sto) (xs:List V) (P:Sto->Prop):DX G D D'->Ready C A env vars gl own tgt G D' m σ' it s₂ xs P->Q xs P σ'->PostI C A env vars gl own tgt G D m Q it s₂
noncomputable def AI(C:Cx)(env:Env)(vars:List Str)(gl:List (Str×V))(own:Bool)(d:Nat)(iter tgt:Expr)(m:Loc)(σ:Sto)(Q:List V->(Sto->Prop)->Sto->Prop):Prop:=
 ∀A G D s,AOk A d->RelF C env vars gl own G D m σ s->wpAny C.M A (eval iter env) (λx s₁=>wpAny C.M A (pyIter x) (PostI C A env vars gl own tgt G D m Q) (λ_ _=>False) s₁) (λ_ _=>False) s
open Classical in
noncomputable def z59(G:Gh)(wr:List Addr)(h:Heap):Gh:=λa=>if a∈wr then h.get? a else G a
theorem z1Z{wr:List Addr}{h:Heap}{a:Addr}(e:a∈wr):z59 G wr h a=h.get? a:=by unfold z59;rw[if_pos e]
theorem z1F{wr:List Addr}{h:Heap}{a:Addr}(e:a∉wr):z59 G wr h a=G a:=by unfold z59;rw[if_neg e]
theorem RelF.withW(R:RelF C env vars gl own G D m σ s){wr:List Addr}(hw:Off env vars G D σ wr):RelF C env vars gl own (z59 G wr s.heap) D m σ s where
 same:=R.same
 g:=λa o e=>by
  by_cases h:a∈wr
  ·rw[z1Z h] at e;exact e
  ·rw[z1F h] at e;exact R.g a o e
 d:=R.d
 base:=λa o e=>by
  by_cases h:a∈wr
  ·have:=R.base a o e;rw[(hw a h).1] at this;cases this
  ·rw[z1F h];exact R.base a o e
 nd:=R.nd
 offG:=λa ha=>by
  by_cases h:a∈wr
  ·exact absurd ha (hw a h).2.2.1
  ·rw[z1F h];exact R.offG a ha
 offD:=R.offD
 pl:=R.pl
 sto:=R.sto
 ok:=R.ok
 offL:=⟨by
  by_cases h:env.locals∈wr
  ·exact absurd (Or.inl rfl) (hw _ h).2.2.2
  ·rw[z1F h];exact R.offL.1,R.offL.2⟩
 ns:=R.ns
 cl:=λi x c h1 h2 h3=>by
  obtain⟨q1,q2,q3⟩:=R.cl i x c h1 h2 h3
  refine⟨q1,q2,?_⟩
  have hc:c∉wr:=λh=>(hw _ h).2.2.2 (Or.inr ⟨i,x,h1,h2,h3⟩)
  rw[z1F hc];exact q3
theorem RelF.lessW{wr:List Addr}{h:Heap}{σ₀:Sto}{D₀:Gh}(R:RelF C env vars gl own (Mine.z59 G wr h) D m σ s)(hw:Off env vars G D₀ σ₀ wr)(hb:∀a o,C.base.get? a=some o->G a=some o)(hdx:DX (Mine.z59 G wr h) D₀ D)
  (hlive:∀a∈wr,∃o,h.get? a=some o):RelF C env vars gl own G D m σ s/\DX G D₀ D/\Off env vars G D σ wr:=by
 have up:∀a o,G a=some o->Mine.z59 G wr h a=some o:=λa o e=>by
  by_cases h':a∈wr
  ·rw[(hw a h').1] at e;cases e
  ·rw[z1F h'];exact e
 have none_of:∀a,Mine.z59 G wr h a=none->G a=none:=λa e=>by
  cases q:G a with
  |none=>rfl
  |some o=>rw[up a o q] at e;cases e
 refine⟨⟨⟨R.same,λa o e=>R.g a o (up a o e),R.d,hb,R.nd,λa ha=>none_of a (R.offG a ha),R.offD,R.pl,R.sto⟩,R.ok,⟨none_of _ R.offL.1,R.offL.2⟩,R.ns,λi x c h1 h2 h3=> ?_⟩,hdx.less λa g=> ?_,λa ha=> ?_⟩
 ·obtain⟨q1,q2,q3⟩:=R.cl i x c h1 h2 h3
  refine⟨q1,q2,?_⟩
  have hc:c∉wr:=λh=>(hw _ h).2.2.2 (Or.inr ⟨i,x,h1,h2,h3⟩)
  rw[z1F hc] at q3;exact q3
 ·cases q:G a with
  |none=>exact absurd q g
  |some o=>rw[up a o q];exact nofun
 ·obtain⟨o,ho⟩:=hlive a ha
  have hg:Mine.z59 G wr h a=some o:=by rw[z1Z ha];exact ho
  refine⟨(hw a ha).1,hdx.off a (hw a ha).2.1 (by rw[hg];exact nofun),λhf=> ?_,(hw a ha).2.2.2⟩
  have:=R.offG a hf;rw[hg] at this;cases this
inductive LoopI(C:Cx)(env:Env)(vars:List Str)(gl:List (Str×V))(own:Bool)(d:Nat)(tgt:Expr)(body:List Stmt)(P:Sto->Prop)(Q:Fl->Loc->Sto->Prop)(G D₁:Gh)(St:Nat->Heap->Prop)(wr:List Addr)(xs:List V)(k:Nat)(s':Shared):Prop
 |mk (i:Nat) (m':Loc) (D':Gh) (σ':Sto):k=xs.length-i->i<=xs.length->DX G D₁ D'->St i s'.heap->RelF C env vars gl own G D' m' σ' s'->Off env vars G D' σ' wr->P σ'->z5x C env vars gl own d tgt body P Q (xs.drop i) m' σ'->LoopI C env vars gl own d tgt body P Q G D₁ St wr xs k s'
theorem IW.go{tgt:Expr}{I:Addr}{fp wr:List Addr}{D₀:Gh}{xs:List V}{St:Nat->Heap->Prop}(W:IW C A tgt I fp wr D₀ xs St){i:Nat}{h₀:Heap}{s₂ s₄:Shared}{P:Sto->Prop}{G₂ D₂ G₄ D₄:Gh}{σ₂ σ₄:Sto}(st₂:St i s₂.heap)(st₀:St 0 h₀)(stay:y0H C D₀ P h₀ fp wr)(R₂:RelC C G₂ D₂ σ₂ s₂)(h₂:Sub D₀ D₂)(p₂:P σ₂)(R₄:RelC C G₄ D₄ σ₄ s₄)(h₄:Sub D₀ D₄)(p₄:P σ₄)(hw:∀b o,b∈wr->s₂.heap.get? b=some o->s₄.heap.get? b=some o):St i s₄.heap:=by
 refine W.frame _ _ _ st₂ λb hb o e=> ?_
 by_cases hbw:b∈wr
 ·exact hw b o hbw e
 ·cases q:h₀.get? b with
  |none=>exact(W.old b hb hbw _ st₀ q).elim
  |some o0=>exact stay _ _ _ _ R₄ h₄ p₄ b hb hbw o (q.trans ((stay _ _ _ _ R₂ h₂ p₂ b hb hbw o0 q).symm.trans e))
theorem z4o{tgt iter:Expr}{body:List Stmt}{p:Pos}{Q:Fl->Loc->Sto->Prop}(h:AI C env vars gl own d iter tgt m σ λxs P σ₁=>z5x C env vars gl own d tgt body P Q xs m σ₁)
  (hs:autoParam (∀x,foldedSetIterable iter env x=pure x) auF):AS C env vars gl own d (exec (.For tgt iter body [] p) env) m σ Q:=λA G D s hA R=>by
 refine wpAny_For (wpAny_mono (h A G D s hA R) (λx s₁ h₁=>wpAny_mono h₁ (λit s₂ h₂=> ?_) λ_ _ e=>e) λ_ _ e=>e) hs
 obtain⟨D₁,σ₁,xs,P,dx₁,⟨I,fp,wr,St,rfl,W,st₀,R₁,off₁,hP₁,stay⟩,hL⟩:=h₂
 have hb:=R.base
 refine codeAny_forLoop_any (LoopI C env vars gl own d tgt body P Q G D₁ St wr xs) ?_ (xs.length-0) ⟨0,m,D₁,σ₁,rfl,Nat.zero_le _,DX.refl _ _,st₀,R₁,off₁,hP₁,hL⟩
 rintro k s' ⟨i,m',D',σ',rfl,hi,dx',st',R',off',hP',hL'⟩
 by_cases hlt:i<xs.length
 ·have hX:xs[i]? =some xs[i]:=List.getElem?_eq_getElem hlt
  rw[List.drop_eq_getElem_cons hlt] at hL'
  refine wpAny_mono (W.item i _ s' _ hX st' λv s₁ hgo=> ?_) (λ_ _ e=>e) λ_ _ e=>e.elim
  refine wpAny_mono (hgo _ λh' tk hitem st₂ kept=> ?_) (λ_ _ e=>e) λ_ _ e=>e.elim
  obtain⟨D₂,dx₂,R₂,hv,offS⟩:=z9m (t:=tk) R' dx'.sub off' kept hitem
  have off₂:=offS wr (W.live i _ st') off'
  have R₃:=R₂.withW off₂
  refine wpAny_mono (hL' A _ D₂ _ v hA R₃ hv) (λ_ s₃ q₃=> ?_) λ_ _ e=>e.elim
  obtain⟨m₃,D₃,σ₃,dx₃,R₄,hbody⟩:=q₃
  refine wpAny_mono (hbody.run hA R₄ λf s₄ fl m₄ D₄ σ₄ dx₄ hfl R₅ q=> ?_) (λ_ _ e=>e) λ_ _ e=>e.elim
  obtain⟨R₆,dx₆,off₆⟩:=R₅.lessW off₂ hb (dx₃.trans dx₄) (W.live _ _ st₂)
  have cont:(P σ₄/\z5x C env vars gl own d tgt body P Q (xs.drop (i+1)) m₄ σ₄)->∃k',k'<xs.length-i/\LoopI C env vars gl own d tgt body P Q G D₁ St wr xs k' s₄:=λh=>⟨xs.length-(i+1),Nat.sub_lt_sub_left hlt (Nat.lt_succ_self i),i+1,m₄,D₄,σ₄,rfl,hlt,(dx'.trans dx₂).trans dx₆,W.go st₂ st₀ stay R₂.toRelC (dx'.trans dx₂).sub hP' R₆.toRelC ((dx'.trans dx₂).trans dx₆).sub h.1 λb o hb e=>R₅.g b o ((z1Z hb).trans e),R₆,off₆,h.1,h.2⟩
  cases f<;>cases fl<;>first|exact hfl.elim|skip
  ·exact cont q
  ·exact⟨.next,m₄,D₄,σ₄,((dx₁.trans dx').trans dx₂).trans dx₆,trivial,R₆,q⟩
  ·exact cont q
  ·exact⟨.ret _,m₄,D₄,σ₄,((dx₁.trans dx').trans dx₂).trans dx₆,hfl,R₆,q⟩
 ·have hie:i=xs.length:=Nat.le_antisymm hi (Nat.not_lt.mp hlt)
  subst hie
  rw[List.drop_length] at hL'
  refine wpAny_mono (W.done s' _ st' λh' tk kept=> ?_) (λ_ _ e=>e) λ_ _ e=>e.elim
  exact wpAny_execs_nil ⟨.next,m',D',σ',dx₁.trans dx',trivial,R'.keepBut tk off' kept,hL'⟩
end
end
section
noncomputable def ownerNames:List String:=["enumerate","zip","dict_itemiterator","dict_reverseitemiterator","odict_iterator","itertools.zip_longest","itertools.pairwise"]
theorem z4Y{M:Model}{A:Around}{E:Value->Shared->Prop}{s:Shared}{tgt:Expr}{I:Addr}{v:Value}{o:Obj}{n:String}{Q:Unit->Shared->Prop}
  (ho:s.heap.get? I=some o) (hc:o.cls= .type n) (hn:ownerNames.contains n=false) (h:Q () s):wpAny M A (letOwnedTupleGo tgt (.ref I) v) Q E s:=by
 unfold letOwnedTupleGo
 have key:wpAny M A (match v with
   | .ref a=>(do
    let o <-load I
    match o.cls,o.data with
    | .type n,.fields vs=>
     if(ownerNames.contains n&&vs[0]? ==some (rawInt a))=true then do
      rule "for.unpacks-the-owned-tuple"
      updateField I 0 .none
     else pure ()
    |_,_=>pure ():Sem Unit)
   |_=>pure ()) Q E s:=by
  cases v with
  |ref a=>
   refine wpAny_bind (wpAny_load ho ?_)
   rw[hc]
   cases o.data<;>dsimp only<;>first|exact wpAny_pure h|(rw[hn];exact wpAny_pure h)
  |_=>exact wpAny_pure h
 cases tgt<;>first|exact wpAny_pure h|(cases v<;>first|exact wpAny_pure h|exact key)
section
variable {C:Cx} {env:Env} {vars:List Str} {gl:List (Str×V)} {own:Bool} {d:Nat} {m m':Loc} {σ σ':Sto}
variable {A:Around} {G D D₀ D₁:Gh} {s:Shared} {Q:List V->(Sto->Prop)->Sto->Prop}
theorem IW.ofWalks{tgt:Expr}{I:Addr}{fp wr:List Addr}{n:Nat}{Pw:Nat->Value->Prop}{St:Nat->Heap->Prop}{xs:List V}(W:Walks C.prog C.w A I fp wr n Pw St)(hn:n=xs.length)
  (hx:∀(i:Nat) v X,Pw i v->xs[i]? =some X->VR C.w D v X) (hl:∀i h,St i h->∀a∈wr,∃o,h.get? a=some o)
  (hold:∀b∈fp,b∉wr->∀h:Heap,St 0 h->h.get? b=none->False)
  (hc:∀i h,St i h->∃o n,h.get? I=some o/\o.cls= .type n/\ownerNames.contains n=false):IW C A tgt I fp wr D xs St where
 live:=hl
 sub:=W.sub
 old:=hold
 frame:=W.frame
 item:=λi X s K hX st h=>W.item i s K _ (by rw[hn];exact(List.getElem?_eq_some_iff.mp hX).1) st λv h' tk hP st' hk=>h v _ λQ' q=>by
  obtain⟨o,nm,ho,hcl,hno⟩:=hc _ _ st'
  exact z4Y ho hcl hno (q h' tk (.inl (hx i v X hP hX)) st' hk)
 self:=λi s K st h=>W.self i s K _ st h
 done:=λs K st h=>W.done s K _ (by rw[hn];exact st) λh' tk hk=>h h' tk hk
inductive Has(σ:Sto):V->AO->(Sto->Prop)->Prop
 |lst (xs:List V):Has σ (.lst xs) (.list xs) (λ_=>True)
 |dct (es:List (V×V)):Has σ (.dct es) (.dict es) (λ_=>True)
 |refL {a:Addr} {o:Obj} {xs:List V}:(a,o,AO.list xs)∈σ->Has σ (.ref a) (.list xs) (λσ'=>(a,o,AO.list xs)∈σ')
 |refD {a:Addr} {o:Obj} {es:List (V×V)}:(a,o,AO.dict es)∈σ->Has σ (.ref a) (.dict es) (λσ'=>(a,o,AO.dict es)∈σ')
theorem Has.run{x:V}{ao:AO}{P:Sto->Prop}(h:Has σ x ao P)(R:RelC C G D σ s){v:Value}(hv:VR C.w D v x):
  ∃a o,v= .ref a/\s.heap.get? a=some o/\HR C.w D o ao/\P σ/\∀G' D' σ' (s':Shared),RelC C G' D' σ' s'->Sub D D'->P σ'->s'.heap.get? a=some o:=by
 cases h with
 |lst xs=>obtain⟨_,_,_,rfl,e,r⟩:=VR.lstI hv;exact⟨_,_,rfl,R.d _ _ e,⟨_,_,rfl,by simpa using r⟩,trivial,λG' D' σ' s' R' hs _=>R'.d _ _ (hs _ _ e)⟩
 |dct xs=>obtain⟨_,_,_,rfl,e,r⟩:=VR.dctI hv;exact⟨_,_,rfl,R.d _ _ e,⟨_,_,rfl,by simpa using r⟩,trivial,λG' D' σ' s' R' hs _=>R'.d _ _ (hs _ _ e)⟩
 |refL hm=>apply VR.refE hv;exact⟨_,_,rfl,R.pl _ hm,R.sto _ hm,hm,λG' D' σ' s' R' hs hm'=>R'.pl _ hm'⟩
 |refD hm=>apply VR.refE hv;exact⟨_,_,rfl,R.pl _ hm,R.sto _ hm,hm,λG' D' σ' s' R' hs hm'=>R'.pl _ hm'⟩
theorem Has.isList{x:V}{xs:List V}{P:Sto->Prop}(h:Has σ x (.list xs) P)(R:RelC C G D σ s){v:Value}(hv:VR C.w D v x):
  ∃a vs n,v= .ref a/\s.heap.get? a=some (z0r vs n)/\VRs C.w D vs.toList xs:=by
 obtain⟨a,o,rfl,ho,⟨vs,n,rfl,hr⟩,_⟩:=h.run R hv
 exact⟨a,vs,n,rfl,ho,hr⟩
theorem Has.runLE{x:V}{xs:List V}{P:Sto->Prop}{Z:Value->Prop}(h:Has σ x (.list xs) P)(R:RelC C G D σ s){v:Value}(hv:VR C.w D v x)
  (k:∀a vs n,s.heap.get? a=some (z0r vs n)->VRs C.w D vs.toList xs->P σ->(∀G' D' σ' (s':Shared),RelC C G' D' σ' s'->Sub D D'->P σ'->s'.heap.get? a=some (z0r vs n))->Z (.ref a)):Z v:=by
 obtain⟨a,o,rfl,ho,⟨vs,n,rfl,hr⟩,hP,hst⟩:=h.run R hv
 exact k a vs n ho hr hP hst
theorem Has.isListE{x:V}{xs:List V}{P:Sto->Prop}{Z:Value->Prop}(h:Has σ x (.list xs) P)(R:RelC C G D σ s){v:Value}(hv:VR C.w D v x)(k:∀a vs n,s.heap.get? a=some (z0r vs n)->VRs C.w D vs.toList xs->Z (.ref a)):Z v:=by
 obtain⟨a,vs,n,rfl,ho,hr⟩:=h.isList R hv
 exact k a vs n ho hr
theorem Has.isDictE{x:V}{xs:List (V×V)}{P:Sto->Prop}{Z:Value->Prop}(h:Has σ x (.dict xs) P)(R:RelC C G D σ s){v:Value}(hv:VR C.w D v x)(k:∀a vs n,s.heap.get? a=some (z1T vs n)->Z (.ref a)):Z v:=by
 obtain⟨a,o,rfl,ho,⟨vs,n,rfl,hr⟩,_⟩:=h.run R hv
 exact k a vs n ho
theorem RelF.offNew(R:RelF C env vars gl own G D m σ s)(o:Obj):Off env vars G D σ [s.heap.objs.size]:=λa ha=>by
 simp at ha;subst ha
 refine⟨?_,R.toRelC.new_D,R.toRelC.new_notFoot,λhm=> ?_⟩
 ·exact R.toRelC.new_G
 ·obtain⟨o,e⟩:=R.mineLives hm;exact Nat.lt_irrefl _ (Heap.lt_size e)
theorem RelF.push(R:RelF C env vars gl own G D m σ s)(o:Obj):RelF C env vars gl own G D m σ {s with heap:=s.heap.push o}:=R.back (R.lifted.push o) (DX.refl _ _)
theorem IW.two{tgt:Expr}{I ax:Addr}{n:Nat}{Pw:Nat->Value->Prop}{St:Nat->Heap->Prop}{xs:List V}(W:Walks C.prog C.w A I [I,ax] [I] n Pw St)(hn:n=xs.length)(hx:∀(i:Nat) v X,Pw i v->xs[i]? =some X->VR C.w D v X)
  (hI:∀i h,St i h->∃o n,h.get? I=some o/\o.cls= .type n/\ownerNames.contains n=false) (ha:∀h:Heap,St 0 h->∃o,h.get? ax=some o):IW C A tgt I [I,ax] [I] D xs St:=
 IW.ofWalks W hn hx (λi h st a ha=>by rw[List.mem_singleton.mp ha];obtain⟨o,_,ho,_⟩:=hI i h st;exact⟨o,ho⟩) (λb hb hbw h st e=>by
  rcases List.mem_cons.mp hb with rfl|hb
  ·exact hbw (.head _)
  ·rw[List.mem_singleton.mp hb] at e;obtain⟨o,ho⟩:=ha h st;rw[ho] at e;cases e) hI
theorem z9z{P:Sto->Prop}{ax I:Addr}{o x:Obj}(ho:s.heap.get? ax=some o)(hst:∀G' D' σ' (s':Shared),RelC C G' D' σ' s'->Sub D D'->P σ'->s'.heap.get? ax=some o):
  ∀G' D' σ' (s':Shared),RelC C G' D' σ' s'->Sub D D'->P σ'->∀b∈[I,ax],b∉[I]->∀o',(s.heap.push x).get? b=some o'->s'.heap.get? b=some o':=λG' D' σ' s' R' hs hP b hb hbw o' e=>by
 rcases List.mem_cons.mp hb with rfl|hb
 ·exact absurd (.head _) hbw
 ·rw[List.mem_singleton.mp hb] at e⊢
  rw[Heap.get?_push_of_some _ ho] at e;cases e;exact hst G' D' σ' s' R' hs hP
theorem z1b{iter tgt:Expr}(h:AT C env vars gl own d (eval iter env) m σ λX σ₁=>∃xs P,Has σ₁ X (.list xs) P/\Q xs P σ₁):AI C env vars gl own d iter tgt m σ Q:=λA G D s hA R=>
 h.run hA R λv s₁ X D₁ σ₁ a b c hpp=>by
  obtain⟨xs,P,hH,q⟩:=hpp
  apply Has.runLE hH c.toRelC b;intro ax vs n ho hr hP hst
  have hl:s₁.heap.IsList ax vs:=⟨_,ho,rfl,n,rfl⟩
  have hne:ax≠s₁.heap.objs.size:=Nat.ne_of_lt (Heap.lt_size ho)
  refine wpAny_pyIter_list hl ⟨D₁,σ₁,xs,P,a,⟨s₁.heap.objs.size,_,_,_,rfl,IW.two (Walks.list hA.h s₁.heap.objs.size ax hne vs) (by rw[<-hr.length];simp) ?_ (λi h st=>by obtain⟨⟨o,ho,hc,_⟩,_⟩:=st;exact⟨o,_,ho,hc,by decide⟩) (λh st=>by obtain⟨_,o,ho,_⟩:=st;exact⟨o,ho⟩),⟨⟨_,Heap.get?_push_size _ rfl,rfl,rfl⟩,hl.push _⟩,c.push _,c.offNew (z0r #[] 0),hP,z9z ho hst⟩,q⟩
  ·intro i u X e hX
   obtain⟨u',e',r⟩:=hr.get hX
   rw[Array.getElem?_toList,e] at e';cases e';exact r
theorem z8q{iter tgt:Expr}(h:AT C env vars gl own d (eval iter env) m σ λX σ₁=>∃xs,X= .tup xs/\Q xs (λ_=>True) σ₁):AI C env vars gl own d iter tgt m σ Q:=λA G D s hA R=>
 h.run hA R λv s₁ X D₁ σ₁ a b c hpp=>by
  obtain⟨xs,hX,q⟩:=hpp
  subst hX
  obtain⟨ax,o,vs,n,rfl,e,hc,hd,hr⟩:=VR.tupI b
  ·skip
   have ho:=c.d _ _ e
   have ht:s₁.heap.IsTuple ax vs.toArray:=⟨_,ho,hc,n,hd⟩
   have hne:ax≠s₁.heap.objs.size:=Nat.ne_of_lt (Heap.lt_size ho)
   refine wpAny_pyIter_tuple ht ⟨D₁,σ₁,xs,λ_=>True,a,⟨s₁.heap.objs.size,_,_,_,rfl,IW.two (Walks.tuple hA.h s₁.heap.objs.size ax hne vs.toArray) (by rw[<-hr.length];simp) ?_ (λi h st=>by obtain⟨⟨o,ho,hc,_⟩,_⟩:=st;exact⟨o,_,ho,hc,by decide⟩) (λh st=>by obtain⟨_,o,ho,_⟩:=st;exact⟨o,ho⟩),⟨⟨_,Heap.get?_push_size _ rfl,rfl,rfl⟩,ht.at λo e=>Heap.get?_push_of_some _ e⟩,c.push _,c.offNew (z0r #[] 0),trivial,z9z ho (λG' D' σ' s' R' hs _=>R'.d _ _ (hs _ _ e))⟩,q⟩
   ·intro i u X e hX
    obtain⟨u',e',r⟩:=hr.get hX
    have e2:vs[i]? =some u:=by simpa using e
    rw[e2] at e';cases e';exact r
noncomputable def z1o(a c:Int)(n:Nat):List V:=(List.range n).map λ(i:Nat)=>V.int (a+(i:Int)*c)
theorem z2L{iter tgt:Expr}(h:AT C env vars gl own d (eval iter env) m σ λX σ₁=>∃(a b c:Int) (n:Nat),X= .rng a b c/\Builtin.Range.small a b c=true/\Builtin.Range.rangeSize a b c=(n:Int)/\Q (z1o a c n) (λ_=>True) σ₁):
  AI C env vars gl own d iter tgt m σ Q:=λA G D s hA R=>
 h.run hA R λv s₁ X D₁ σ₁ dx b c hpp=>by
  obtain⟨x,y,z,n,hX,hsm,hsz,q⟩:=hpp
  subst hX
  obtain⟨_,_,_,_,rfl,e⟩:=VR.rngI b
  ·skip
   have ho:=c.d _ _ e
   refine wpAny_pyIter_range ho hsm ⟨D₁,σ₁,_,λ_=>True,dx,⟨s₁.heap.objs.size,_,_,_,rfl,IW.ofWalks (Walks.range hA.h s₁.heap.objs.size x z n) (by simp[z1o]) ?_ ?_ ?_ ?_,?_,c.push _,c.offNew (z0r #[] 0),trivial,?_⟩,q⟩
   ·rintro i u X ⟨t,rfl⟩ hX
    have hlt:i<n:=by simpa[z1o] using(List.getElem?_eq_some_iff.mp hX).1
    simp[z1o,hlt] at hX
    subst hX
    exact .int _ _
   ·rintro i h st a ha;simp at ha;subst ha;exact⟨_,st⟩
   ·rintro b hb hbw h _ e;exact hbw hb
   ·rintro i h st;exact⟨_,_,st,rfl,by decide⟩
   ·show IsRangeIter _ _ _ _ _
    rw[hsz];simpa using Heap.get?_push_size _ rfl
   ·intro G' D' σ' s' R' hs hP' b hb hbw o' e'
    exact absurd hb hbw
end
end
section
noncomputable def z2P(env:Env):List (Str×NameKind)->List (Str×Addr)->List (Str×Addr)
 |[],acc=>acc
 |(n,k)::r,acc=>if k== .free then(match env.cells.lookup n with
   |some c=>z2P env r ((n,c)::acc)
   |none=>z2P env r acc) else z2P env r acc
theorem z5K{sc:Scope}{env:Env}(h:∀x∈sc.names,x.2= .free->∃c,env.cells.lookup x.1=some c):closureFor sc env=pure (z2P env sc.names []):=by
 have key:∀(names:List (Str×NameKind)) (acc:List (Str×Addr)) (f:Str×NameKind->List (Str×Addr)->Sem (ForInStep (List (Str×Addr)))),
   (∀n k a,f (n,k) a=if k== .free then(do let c <-cellOf env n;pure (.yield ((n,c)::a))) else pure (.yield a))->(∀x∈names,x.2= .free->∃c,env.cells.lookup x.1=some c)->
   forIn names acc f=pure (z2P env names acc):=by
  intro names
  induction names with
  |nil=>intro acc f _ _;rw[List.forIn_nil];rfl
  |cons p r ih=>
   obtain⟨n,k⟩:=p
   intro acc f hf hx
   rw[List.forIn_cons,hf]
   unfold z2P
   cases hk:(k==NameKind.free) with
   |false=>
    simp only[Bool.false_eq_true,if_false,pure_bind]
    exact ih acc f hf λx h=>hx x (.tail _ h)
   |true=>
    obtain⟨c,hc⟩:=hx (n,k) (.head _) (beq_iff_eq.mp hk)
    simp only[if_true,cellOf,hc,pure_bind]
    exact ih _ f hf λx h=>hx x (.tail _ h)
 unfold closureFor
 show(forIn sc.names ([]:List (Str×Addr)) _>>=λcs=>pure cs)=_
 rw[key sc.names [] _ (λn k a=>by cases hk:(k==NameKind.free)<;>simp[hk]) h]
 rfl
theorem z3J{env:Env}{n:Str}{c:Addr}:∀{names:List (Str×NameKind)} {acc:List (Str×Addr)},(n,c)∈z2P env names acc->(n,c)∈acc∨((n,NameKind.free)∈names/\env.cells.lookup n=some c)
 |[],_,h=> .inl h
 |(y,k)::r,acc,h=>by
  unfold z2P at h
  cases hk:(k==NameKind.free) with
  |false=>
   rw[hk] at h
   simp only[Bool.false_eq_true,if_false] at h
   exact(z3J h).imp id λq=>⟨.tail _ q.1,q.2⟩
  |true=>
   rw[hk] at h
   simp only[if_true] at h
   cases hc:env.cells.lookup y with
   |none=>rw[hc] at h;exact(z3J h).imp id λq=>⟨.tail _ q.1,q.2⟩
   |some c'=>
    rw[hc] at h
    rcases z3J h with q|q
    ·rcases List.mem_cons.mp q with e|q
     ·cases e;rw[<-beq_iff_eq.mp hk];exact .inr ⟨.head _,hc⟩
     ·exact .inl q
    ·exact .inr ⟨.tail _ q.1,q.2⟩
theorem z25{env:Env}:∀{names:List (Str×NameKind)} {acc:List (Str×Addr)},(names.map (·.1)).Nodup->(acc.map (·.1)).Nodup->(∀n∈acc.map (·.1),n∉names.map (·.1))->((z2P env names acc).map (·.1)).Nodup
 |[],_,_,h,_=>h
 |(y,k)::r,acc,h1,h2,h3=>by
  have h1':=List.nodup_cons.mp h1
  have h3':∀n∈acc.map (·.1),n∉r.map (·.1):=λn hn q=>h3 n hn (.tail _ q)
  have hy:y∉acc.map (·.1):=λq=>h3 y q (.head _)
  unfold z2P
  split
  ·split
   ·refine z25 h1'.2 (List.nodup_cons.mpr ⟨hy,h2⟩) λn hn=> ?_
    rcases List.mem_cons.mp hn with rfl|hn
    ·exact h1'.1
    ·exact h3' n hn
   ·exact z25 h1'.2 h2 h3'
  ·exact z25 h1'.2 h2 h3'
theorem z4F{l:List (Str×Addr)}(hn:(l.map (·.1)).Nodup){n:Str}{c:Addr}(h:(n,c)∈l):l.lookup n=some c:=by
 induction l with
 |nil=>cases h
 |cons p r ih=>
  obtain⟨y,b⟩:=p
  have hn':=List.nodup_cons.mp hn
  rcases List.mem_cons.mp h with e|h
  ·cases e;simp[List.lookup_cons]
  ·have hne:n≠y:=λe=>hn'.1 (e▸List.mem_map.mpr ⟨(n,c),h,rfl⟩)
   rw[List.lookup_cons]
   have hb:(n==y)=false:=beq_eq_false_iff_ne.mpr hne
   rw[hb];exact ih hn'.2 h
theorem z3L{env:Env}{n:Str}{c:Addr}:∀{names:List (Str×NameKind)} {acc:List (Str×Addr)},((n,NameKind.free)∈names/\env.cells.lookup n=some c)∨(n,c)∈acc->(n,c)∈z2P env names acc
 |[],_,h=>h.elim (λq=>by cases q.1) id
 |(y,k)::r,acc,h=>by
  unfold z2P
  cases hk:(k==NameKind.free) with
  |false=>
   simp only[Bool.false_eq_true,if_false]
   refine z3L (h.imp (λq=>⟨?_,q.2⟩) id)
   rcases List.mem_cons.mp q.1 with e|e
   ·cases e;exact absurd hk (by decide)
   ·exact e
  |true=>
   simp only[if_true]
   cases hc:env.cells.lookup y with
   |none=>
    refine z3L (h.imp (λq=>⟨?_,q.2⟩) id)
    rcases List.mem_cons.mp q.1 with e|e
    ·cases e;rw[hc] at q;cases q.2
    ·exact e
   |some c'=>
    refine z3L ?_
    rcases h with q|q
    ·rcases List.mem_cons.mp q.1 with e|e
     ·cases e;have q2:=q.2;rw[hc] at q2;cases q2;exact .inr (.head _)
     ·exact .inl ⟨e,q.2⟩
    ·exact .inr (.tail _ q)
theorem z2M{env:Env}(hf:env.scope.kind= .function):∀{names:List (Str×NameKind)} {x:Str} {k:NameKind},names.lookup x=some k->
  (names.map λ(n,k)=>if(k==NameKind.free&&env.scope.kind== .function&&env.kindOf n==some .cell) then(n,NameKind.cell) else(n,k)).lookup x=some (if k== .free&&env.kindOf x==some .cell then .cell else k)
 |[],_,_,h=>by simp at h
 |(n,k')::r,x,k,h=>by
  rw[List.lookup_cons] at h
  show List.lookup x ((if(k'==NameKind.free&&env.scope.kind== .function&&env.kindOf n==some .cell)=true then(n,NameKind.cell) else(n,k'))::_)=_
  cases hx:x==n with
  |true=>
   rw[hx] at h;cases h
   have e:=beq_iff_eq.mp hx;subst e
   rw[hf]
   by_cases hc:(k'==NameKind.free&&env.kindOf x==some .cell)=true
   ·have hc':(k'==NameKind.free&&(ScopeKind.function==ScopeKind.function)&&env.kindOf x==some .cell)=true:=by simpa using hc
    rw[if_pos hc',if_pos hc];simp
   ·have hc':¬(k'==NameKind.free&&(ScopeKind.function==ScopeKind.function)&&env.kindOf x==some .cell)=true:=by simpa using hc
    rw[if_neg hc',if_neg hc];simp
  |false=>
   rw[hx] at h
   have ih:=z2M hf h
   by_cases hc:(k'==NameKind.free&&env.scope.kind== .function&&env.kindOf n==some .cell)=true
   ·rw[if_pos hc,List.lookup_cons]
    show(match x==n with|true=>_|false=>_)=_
    rw[hx];exact ih
   ·rw[if_neg hc,List.lookup_cons]
    show(match x==n with|true=>_|false=>_)=_
    rw[hx];exact ih
noncomputable def z14(sc osc:Scope)(vars locals caps gl:List Str):Bool:=
 sc.kind== .function&&nodupB (sc.names.map (·.1))&&nodupB (locals++caps)&&
 sc.names.all (λp=> !(p.2== .cell)&&(!(p.2== .free)||caps.contains p.1))&&
 locals.all (λx=> !(x==("__debug__":Str))&&sc.names.lookup x==some .local)&&
 caps.all (λx=> !(x==("__debug__":Str))&&sc.names.lookup x==some .free&&osc.names.lookup x==some .cell&&vars.contains x)&&
 gl.all λx=> !(x==("__debug__":Str))&&sc.names.lookup x==some .globalImplicit
inductive Caps:List Str->Loc->List Str->Loc->Prop
 |nil {vars:List Str} {m:Loc}:Caps vars m [] []
 |cons {vars:List Str} {m:Loc} {x:Str} {X:V} {cs:List Str} {ms:Loc}:Lk vars m x X->Caps vars m cs ms->Caps vars m (x::cs) (some X::ms)
 |skip {vars:List Str} {m:Loc} {x:Str} {cs:List Str} {ms:Loc}:Caps vars m cs ms->Caps vars m (x::cs) (none::ms)
theorem Caps.get{vars:List Str}{m:Loc}{cs:List Str}{ms:Loc}(h:Caps vars m cs ms):∀{i:Nat} {x:Str} {X:V},cs[i]? =some x->ms[i]? =some (some X)->Lk vars m x X:=by
 induction h with
 |nil=>intro i x X h;simp at h
 |cons hl _ ih=>
  intro i x X h1 h2
  cases i with
  |zero=>simp at h1 h2;subst h1 h2;exact hl
  |succ i=>exact ih (by simpa using h1) (by simpa using h2)
 |skip _ ih=>
  intro i x X h1 h2
  cases i with
  |zero=>simp at h2
  |succ i=>exact ih (by simpa using h1) (by simpa using h2)
section
variable {C:Cx} {env:Env} {vars:List Str} {gl gl':List (Str×V)} {own:Bool} {d:Nat} {m m':Loc} {σ σ':Sto}
variable {A:Around} {G D D₀ D₁:Gh} {s:Shared}
noncomputable def ATs(C:Cx)(env:Env)(vars:List Str)(gl:List (Str×V))(own:Bool)(d:Nat):List Expr->Loc->Sto->(Bool->Sto->Prop)->Prop
 |[],m,σ,K=>K true σ
 |[c],m,σ,K=>AB C env vars gl own d (isTrue c env (eval c env)) m σ K
 |_,_,_,_=>False
noncomputable def z0S(C:Cx)(env:Env)(vars:List Str)(gl:List (Str×V))(d:Nat)(tgt elt:Expr)(ifs:List Expr)(P:Sto->Prop)(Q:List V->Sto->Prop):List V->List V->Loc->Sto->Prop
 |[],acc,m,σ=>Q acc σ
 |X::xs,acc,m,σ=>AA C env vars gl false d (assign tgt env) X m σ λm₁ σ₁=>ATs C env vars gl false d ifs m₁ σ₁ λb σ₂=>
  (b=true->AT C env vars gl false d (eval elt env) m₁ σ₂ λY σ₃=>P σ₃/\z0S C env vars gl d tgt elt ifs P Q xs (acc++[Y]) m₁ σ₃)/\
  (b=false->P σ₂/\z0S C env vars gl d tgt elt ifs P Q xs acc m₁ σ₂)
theorem ATs.run{ifs:List Expr}{K:Bool->Sto->Prop}(h:ATs C env vars gl own d ifs m σ K)(hA:AOk A d)(R:RelF C env vars gl own G D m σ s):
  wpAny C.M A (forIn ifs true λc r=>if r=true then do let ok <-isTrue c env (eval c env);pure (ForInStep.yield ok) else pure (ForInStep.yield r)) (PostB C env vars gl own G D m K) (λ_ _=>False) s:=by
 match ifs,h with
 |[],h=>exact wpAny_tests_nil ⟨D,σ,DX.refl _ _,R,h⟩
 |[c],h=>exact wpAny_tests_one (h A G D s hA R)
 |_::_::_,h=>exact h.elim
inductive CompI(C:Cx)(env:Env)(vars:List Str)(gl:List (Str×V))(d:Nat)(tgt elt:Expr)(ifs:List Expr)(P:Sto->Prop)(Q:List V->Sto->Prop)(G D:Gh)(St:Nat->Heap->Prop)(acc:Addr)(wr:List Addr)(xs:List V)(k:Nat)(s':Shared):Prop
 |mk (i:Nat) (m':Loc) (D':Gh) (σ':Sto) (ys:List V) (vs:Array Value) (n:Nat):k=xs.length+1-i->i<=xs.length->ys.length<=i->DX G D D'->St i s'.heap->RelF C env vars gl false G D' m' σ' s'->Off env vars G D' σ' (acc::wr)->P σ'->
  s'.heap.get? acc=some (z0r vs n)->VRs C.w D' vs.toList ys->z0S C env vars gl d tgt elt ifs P Q (xs.drop i) ys m' σ'->CompI C env vars gl d tgt elt ifs P Q G D St acc wr xs k s'
theorem y0d{elt tgt iter:Expr}{ifs:List Expr}{scope:Scope}{pos:Pos}{I acc:Addr}{fp wr:List Addr}{xs:List V}{St:Nat->Heap->Prop}{P:Sto->Prop}{Q:List V->Sto->Prop}
  {R':Result->Shared->Prop} (W:IW C A tgt I fp wr D₀ xs St) (hA:AOk A d) (hsz:xs.length<=sizeLine) (hst:St 0 s.heap) (R:RelF C env vars gl false G D m σ s) (hD:Sub D₀ D)
  (hoff:Off env vars G D σ (acc::wr)) (haw:acc∉wr) (haf:acc∉fp) (hacc:s.heap.get? acc=some (z0r #[] 0)) (hP:P σ) (hstay:y0H C D₀ P s.heap fp wr)
  (hL:z0S C env vars gl d tgt elt ifs P Q xs [] m σ)
  (hQ:∀s' D' σ' m' vs n ys,DX G D D'->RelF C env vars gl false G D' m' σ' s'->Off env vars G D' σ' [acc]->s'.heap.get? acc=some (z0r vs n)->VRs C.w D' vs.toList ys->Q ys σ'->R' (.ok .next) s'):
  codeAny C.M A (.compLoop (.ListComp elt [⟨tgt,iter,ifs,0⟩] scope pos) 0 (.ref I) (.ref acc) env) R' s:=by
 refine codeAny_loop rfl (CompI C env vars gl d tgt elt ifs P Q G D St acc wr xs) ?_ (xs.length+1-0)
  ⟨0,m,D,σ,[],#[],0,rfl,Nat.zero_le _,Nat.zero_le _,DX.refl _ _,hst,R,hoff,hP,hacc,.nil,hL⟩
 rintro k s' ⟨i,m',D',σ',ys,vs,n,rfl,hi,hys,dx',st',R₁,off',hP',hac',hvs',hL'⟩
 show wpAny _ A ((compTurn (.ListComp elt [⟨tgt,iter,ifs,0⟩] scope pos) 0 (.ref I) (.ref acc) env).onRaise (λx=>do noteFrame x env;theTreesLotGoes x)) _ _ s'
 refine wpAny_noted ?_
 rw[compTurn_list]
 refine wpAny_bind (wpAny_standAt (wpAny_bind ?_))
 have offw:Off env vars G D' σ' wr:=λa ha=>off' a (.tail _ ha)
 by_cases hlt:i<xs.length
 ·have hX:xs[i]? =some xs[i]:=List.getElem?_eq_getElem hlt
  rw[List.drop_eq_getElem_cons hlt] at hL'
  refine wpAny_mono (W.item i _ s' _ hX st' λv s₁ hgo=> ?_) (λ_ _ e=>e) λ_ _ e=>e.elim
  refine wpAny_bind (wpAny_mono (hgo _ λh' tk hitem st₂ kept=> ?_) (λ_ _ e=>e) λ_ _ e=>e.elim)
  obtain⟨D₂,dx₂,R₂,hv,offS⟩:=z9m (t:=tk) R₁ (hD.trans dx'.sub) offw kept hitem
  have hac₂:h'.get? acc=some (z0r vs n):=kept acc _ haw hac'
  have offa:Off env vars G D₂ σ' (acc::wr):=offS _ (λa ha=>by
   rcases List.mem_cons.mp ha with rfl|ha
   ·exact⟨_,hac'⟩
   ·exact W.live i _ st' a ha) off'
  have R₃:=R₂.withW offa
  have live₂:∀a∈acc::wr,∃o,h'.get? a=some o:=λa ha=>by
   rcases List.mem_cons.mp ha with rfl|ha
   ·exact⟨_,hac₂⟩
   ·exact W.live _ _ st₂ a ha
  have stOk:∀{G₅ D₅ σ₅ m₅} {s₅:Shared},RelF C env vars gl false (z59 G (acc::wr) h') D₅ m₅ σ₅ s₅->Sub D₀ D₅->P σ₅->RelC C G₅ D₅ σ₅ s₅->St (i+1) s₅.heap:=λR₅ hs₅ hP₅ RC₅=>W.go st₂ hst hstay R₂.toRelC ((hD.trans dx'.sub).trans dx₂.sub) hP' RC₅ hs₅ hP₅ λb o hb e=>R₅.g b o ((z1Z (.tail _ hb)).trans e)
  refine wpAny_bind (wpAny_mono (hL' A _ D₂ _ v hA R₃ hv) (λ_ s₃ q₃=> ?_) λ_ _ e=>e.elim)
  obtain⟨m₃,D₃,σ₃,dx₃,R₄,htests⟩:=q₃
  refine wpAny_bind (wpAny_mono (htests.run hA R₄) (λok s₄ q₄=> ?_) λ_ _ e=>e.elim)
  obtain⟨D₄,σ₄,dx₄,R₅,q₅⟩:=q₄
  cases ok with
  |false=>
   obtain⟨hP₅,hL₅⟩:=q₅.2 rfl
   obtain⟨R₆,dx₆,off₆⟩:=R₅.lessW offa R.base (dx₃.trans dx₄) live₂
   have hac₅:s₄.heap.get? acc=some (z0r vs n):=R₅.g acc _ (by rw[z1Z (.head _)];exact hac₂)
   have hsub:Sub D' D₄:=(dx₂.trans dx₆).sub
   exact wpAny_pure ⟨rfl,xs.length+1-(i+1),Nat.sub_lt_sub_left (Nat.lt_succ_of_lt hlt) (Nat.lt_succ_self i),i+1,m₃,D₄,σ₄,ys,vs,n,rfl,hlt,Nat.le_succ_of_le hys,(dx'.trans dx₂).trans dx₆,stOk R₅ ((hD.trans dx'.sub).trans hsub) hP₅ R₆.toRelC,R₆,off₆,hP₅,hac₅,hvs'.mono hsub,hL₅⟩
  |true=>
   refine wpAny_bind (wpAny_bind ((q₅.1 rfl).run hA R₅ λy s₅ Y D₅ σ₅ dx₅ hy R₆ q₆=> ?_) |> λh=>wpAny_mono h (λ_ _ e=>e) λ_ _ e=>e.elim)
   obtain⟨hP₆,hL₆⟩:=q₆
   obtain⟨R₇,dx₇,off₇⟩:=R₆.lessW offa R.base ((dx₃.trans dx₄).trans dx₅) live₂
   have hac₅:s₅.heap.get? acc=some (z0r vs n):=R₆.g acc _ (by rw[z1Z (.head _)];exact hac₂)
   have hsub:Sub D' D₅:=(dx₂.trans dx₇).sub
   have hvs₅:=hvs'.mono hsub
   have hvl:vs.size=ys.length:=by rw[<-hvs₅.length];simp
   refine wpAny_bind (wpAny_list_append_plain (hsz:=Nat.le_trans (Nat.le_of_eq hvl) (Nat.le_trans hys (Nat.le_trans hi hsz))) ⟨n,hac₅⟩ λh₆ hl₆ hs₆=> ?_)
   obtain⟨n₆,hl₆⟩:=hl₆
   have R₈:RelF C env vars gl false G D₅ m₃ σ₅ {s₅ with heap:=h₆}:=by
    have:=R₇.keepBut (h':=h₆) s₅.toks (wr:=[acc]) (λa ha=>by simp at ha;subst ha;exact off₇ a (.head _)) λb o hb e=>hs₆.extBut b o (by simpa using hb) e
    exact this
   have st₇:=stOk (s₅:=s₅) R₆ ((hD.trans dx'.sub).trans hsub) hP₆ R₇.toRelC
   refine wpAny_pure (wpAny_pure ⟨rfl,xs.length+1-(i+1),Nat.sub_lt_sub_left (Nat.lt_succ_of_lt hlt) (Nat.lt_succ_self i),i+1,m₃,D₅,σ₅,ys++[Y],vs.push y,n₆,rfl,hlt,by rw[List.length_append];exact Nat.succ_le_succ hys,(dx'.trans dx₂).trans dx₇,?_,R₈,off₇,hP₆,hl₆,?_,hL₆⟩)
   ·refine W.frame _ _ _ st₇ λb hb o e=>hs₆.extBut b o ?_ e
    rintro rfl
    exact haf hb
   ·rw[Array.toList_push]
    exact hvs₅.append (.cons hy .nil)
 ·have hie:i=xs.length:=Nat.le_antisymm hi (Nat.not_lt.mp hlt)
  subst hie
  rw[List.drop_length] at hL'
  refine wpAny_mono (W.done s' _ st' λh' tk kept=> ?_) (λ_ _ e=>e) λ_ _ e=>e.elim
  refine wpAny_pure (hQ _ D' σ' m' vs n ys dx' (R₁.keepBut tk offw kept) (λa ha=>off' a (by simp at ha;subst ha;exact .head _)) (kept acc _ haw hac') hvs' hL')
end
end
section
section
variable {C:Cx} {env:Env} {vars:List Str} {gl gl':List (Str×V)} {own:Bool} {d:Nat} {m m':Loc} {σ σ':Sto}
variable {A:Around} {G D D₀ D₁:Gh} {s:Shared}
theorem RelC.addL(R:RelC C G D σ s){a:Addr}{vs:Array Value}{n:Nat}{ys:List V}(h1:G a=none)(h2:D a=none)(h3:a∉foot σ)(ho:s.heap.get? a=some (z0r vs n))(hr:VRs C.w D vs.toList ys):
  RelC C G D ((a,z0r vs n,.list ys)::σ) s where
 same:=R.same
 g:=R.g
 d:=R.d
 base:=R.base
 nd:=List.nodup_cons.mpr ⟨h3,R.nd⟩
 offG:=λb hb=>by
  rcases List.mem_cons.mp hb with rfl|hb
  ·exact h1
  ·exact R.offG b hb
 offD:=λb hb=>by
  rcases List.mem_cons.mp hb with rfl|hb
  ·exact h2
  ·exact R.offD b hb
 pl:=λp hp=>by
  rcases List.mem_cons.mp hp with rfl|hp
  ·exact ho
  ·exact R.pl p hp
 sto:=λp hp=>by
  rcases List.mem_cons.mp hp with rfl|hp
  ·exact⟨vs,n,rfl,hr⟩
  ·exact R.sto p hp
inductive CompN(C:Cx)(env:Env)(vars:List Str)(gl':List (Str×V))(scope:Scope)(locals caps:List Str):Prop
 |mk:scope.kind= .function->(∀x∈scope.names,x.2≠ .cell)->closureFor scope env=pure (z2P env scope.names [])->(∀x∈scope.names,x.2= .local->scope.names.lookup x.1=some .local)->
  (∀E:Env,E.scope=relabel scope env->E.cells=z2P env scope.names []->E.globals=env.globals->E.builtins=env.builtins->(∀y k,scope.names.lookup y=some k->E.kindOf y=some (if k== .free&&env.kindOf y==some .cell then .cell else k))->
   FmOk C E (locals++caps) gl' false/\(∀x∈locals,E.kindOf x=some .local)/\(∀x∈caps,E.kindOf x=some .cell)/\∀x∈caps,∀c,E.cells.lookup x=some c->∃i:Nat,vars[i]? =some x/\env.kindOf x=some .cell/\env.cells.lookup x=some c)->CompN C env vars gl' scope locals caps
theorem z6i{α:Type}{x:Str×α}:∀{l:List (Str×α)},(l.map (·.1)).Nodup->x∈l->l.lookup x.1=some x.2
 |p::r,hn,hm=>by
  have hn':=List.nodup_cons.mp hn
  rcases List.mem_cons.mp hm with rfl|hm'
  ·rw[List.lookup_cons,beq_self_eq_true]
  ·rw[List.lookup_cons,beq_eq_false_iff_ne.mpr λq=>hn'.1 (List.mem_map.mpr ⟨x,hm',q⟩)];exact z6i hn'.2 hm'
theorem z8J{scope:Scope}{locals caps:List Str}(ok:FmOk C env vars gl own)(hok:z14 scope env.scope vars locals caps (gl'.map (·.1))=true)(hgl:∀p∈gl',z0f C p.1 p.2):CompN C env vars gl' scope locals caps:=by
 simp only[z14,Bool.and_eq_true,Bool.not_eq_true',beq_iff_eq,Bool.or_eq_true] at hok
 obtain⟨⟨⟨⟨⟨⟨k1,k2⟩,k3⟩,k4⟩,k5⟩,k6⟩,k7⟩:=hok
 have ndN:(scope.names.map (·.1)).Nodup:=nodupB_ok k2
 have hloc:∀x∈locals,(x==("__debug__":Str))=false/\scope.names.lookup x=some .local:=λx hx=>by
  have:=List.all_eq_true.mp k5 x hx
  simpa only[Bool.and_eq_true,Bool.not_eq_true',beq_iff_eq] using this
 have hcap:∀x∈caps,((x==("__debug__":Str))=false/\scope.names.lookup x=some .free)/\env.kindOf x=some .cell/\∃i c,vars[i]? =some x/\env.cells.lookup x=some c:=λx hx=>by
  have:=List.all_eq_true.mp k6 x hx
  simp only[Bool.and_eq_true,Bool.not_eq_true',beq_iff_eq,List.contains_iff_mem] at this
  have h3:env.kindOf x=some .cell:=this.1.2
  obtain⟨i,hi⟩:=List.mem_iff_getElem?.mp this.2
  rcases(ok.vk x this.2).2 with e|⟨_,c,hc⟩
  ·exact nomatch h3.symm.trans e
  ·exact⟨this.1.1,h3,i,c,hi,hc⟩
 have clNd:((z2P env scope.names []).map (·.1)).Nodup:=z25 ndN .nil (λn hn=>by cases hn)
 have clM:∀x c,(x,c)∈z2P env scope.names []->env.cells.lookup x=some c:=λx c e=>((z3J e).resolve_left λq=>nomatch q).2
 refine⟨k1,λx hx e=> ?_,z5K λx hx e=> ?_,λx hx e=>by rw[z6i ndN hx,e],λE eS eC eG eB eK=> ?_⟩
 ·have:=List.all_eq_true.mp k4 x hx
  simp[e] at this
 ·have:=List.all_eq_true.mp k4 x hx
  obtain⟨_,_,_,c,_,hc⟩:=hcap x.1 (by simpa[e] using this)
  exact⟨c,hc⟩
 have nl:∀x∈locals,E.kindOf x=some .local:=λx hx=>by rw[eK x _ (hloc x hx).2];rfl
 have nc:∀x∈caps,E.kindOf x=some .cell:=λx hx=>by rw[eK x _ (hcap x hx).1.2,(hcap x hx).2.1];rfl
 refine⟨⟨eS▸k1,nodupB_ok k3,λx hx=> ?_,?_,λp hp=> ?_,eG.trans ok.gg,eB.trans ok.gb⟩,nl,nc,λx hx c hc=> ?_⟩
 ·rcases List.mem_append.mp hx with hx|hx
  ·exact⟨(hloc x hx).1,.inl (nl x hx)⟩
  ·obtain⟨h1,_,_,c,_,hc⟩:=hcap x hx
   exact⟨h1.1,.inr ⟨nc x hx,c,by rw[eC];exact z4F clNd (z3L (.inl ⟨mem_of_lookup h1.2,hc⟩))⟩⟩
 ·rw[eC]
  exact(List.pairwise_map.mp clNd).imp_of_mem λ{x y} hx hy hne e=>hne (name_of_addr ok.ap (mem_of_lookup (clM _ _ hx)) (e▸mem_of_lookup (clM _ _ hy)))
 ·have:=List.all_eq_true.mp k7 p.1 (List.mem_map_of_mem hp)
  simp only[Bool.and_eq_true,Bool.not_eq_true',beq_iff_eq] at this
  exact⟨this.1,by rw[eK _ _ this.2];rfl,hgl p hp⟩
 ·obtain⟨_,h2,i,_,hi,_⟩:=hcap x hx
  exact⟨i,hi,h2,clM x c (mem_of_lookup (eC▸hc))⟩
section
variable {E:Env} {locals caps:List Str} {ms:Loc} {s₂ s':Shared}
theorem y1R(hcaps:Caps vars m caps ms){i:Nat}{x:Str}{X:V}(e1:(locals++caps)[i]? =some x)(e3:((locals.map λ_=>(none:Option V))++ms)[i]? =some (some X)):x∈caps/\Lk vars m x X:=by
 rw[List.getElem?_append] at e1 e3
 rw[List.length_map] at e3
 by_cases hi:i<locals.length
 ·rw[if_pos hi,List.getElem?_map] at e3
  exact nomatch (Option.map_eq_some_iff.mp e3).choose_spec.2
 ·rw[if_neg hi] at e1 e3
  exact⟨List.mem_of_getElem? e1,hcaps.get e1 e3⟩
theorem y3y(nl:∀x∈locals,E.kindOf x=some .local){i:Nat}{x:Str}(e1:(locals++caps)[i]? =some x)(e2:E.kindOf x=some .cell):x∈caps:=
 (List.mem_append.mp (List.mem_of_getElem? e1)).resolve_left λh=>nomatch (nl x h).symm.trans e2
theorem RelF.dead(R:RelF C env vars gl own G D m σ s₂){b:Addr}(h:s₂.heap.get? b=none):z3x env vars G s₂ b=none/\D b=none/\b∉foot σ/\¬z2U env vars b:=
 have no:∀{x:Option Obj},(∀o,x=some o->s₂.heap.get? b=some o)->x=none:=λ{x} k=>Option.eq_none_iff_forall_not_mem.mpr λo e=>nomatch h.symm.trans (k o e)
 ⟨no (R.lifted.g b),no (R.d b),λhf=>by obtain⟨o,e⟩:=R.toRelC.footLives hf;exact(nomatch h.symm.trans e),λhm=>by obtain⟨o,e⟩:=R.mineLives hm;exact nomatch h.symm.trans e⟩
theorem y06{mm:Str->Option Value}(R:RelF C env vars gl own G D m σ s₂)(ok:FmOk C E (locals++caps) gl' false)(hcaps:Caps vars m caps ms)(nl:∀x∈locals,E.kindOf x=some .local)(nc:∀x∈caps,E.kindOf x=some .cell)(ce:∀x∈caps,∀c,E.cells.lookup x=some c->∃i:Nat,vars[i]? =some x/\env.kindOf x=some .cell/\env.cells.lookup x=some c)
  (same:∃h tk,s'={C.s₀ with heap:=h,toks:=tk}) (kp:∀b o,s₂.heap.get? b=some o->s'.heap.get? b=some o) (dead:s₂.heap.get? E.locals=none) (hns:s'.heap.Ns E.locals mm):RelF C E (locals++caps) gl' false (z3x env vars G s₂) D ((locals.map λ_=>none)++ms) σ s' where
 toRelC:=⟨same,λb o e=>kp b o (R.lifted.g b o e),λb o e=>kp b o (R.d b o e),R.lifted.base,R.nd,R.lifted.offG,R.offD,λp hp=>(R.pl p hp).at λb _ ob e=>kp b ob e,R.sto⟩
 ok:=ok
 offL:=have h:=R.dead dead;⟨h.1,h.2.1,h.2.2.1⟩
 ns:=⟨mm,hns,λi x X e1 e2 e3=>nomatch (nc x (y1R hcaps e1 e3).1).symm.trans e2⟩
 cl:=λi x c e1 e2 e3=>by
  obtain⟨i0,g1,g2,hc⟩:=ce x (y3y nl e1 e2) c e3
  obtain⟨q1,⟨ov,q2,q3⟩,q4⟩:=R.cl i0 x c g1 g2 hc
  obtain⟨oc,hoc,_⟩:=id q2
  exact⟨λe=>(nomatch dead.symm.trans (show s₂.heap.get? E.locals=some oc from e▸hoc)),⟨ov,q2.keeps kp,λX e4=>by obtain⟨j,hj1,hj2⟩:=(y1R hcaps e1 e4).2.get;exact q3 X (z6k R.ok.nd hj1 g1▸hj2)⟩,oc,by rw[z1r (Or.inr ⟨i0,x,g1,g2,hc⟩)];exact hoc⟩
theorem y0R{acc:Addr}{wr:List Addr}(R:RelF C env vars gl own G D m σ s₂)(nl:∀x∈locals,E.kindOf x=some .local)(ce:∀x∈caps,∀c,E.cells.lookup x=some c->∃i:Nat,vars[i]? =some x/\env.kindOf x=some .cell/\env.cells.lookup x=some c)
  (hne:acc≠E.locals) (dead:s₂.heap.get? E.locals=none) (dead':s₂.heap.get? acc=none) (off:Off env vars G D σ wr) (live:∀a∈wr,∃o,s₂.heap.get? a=some o):Off E (locals++caps) (z3x env vars G s₂) D σ (acc::wr):=λa ha=>by
 have key:a≠E.locals->¬z2U env vars a->¬z2U E (locals++caps) a:=λh1 h2 h=>by
  rcases h with e|⟨i,x,e1,e2,e3⟩
  ·exact h1 e
  ·obtain⟨i0,g1,g2,hc⟩:=ce x (y3y nl e1 e2) a e3
   exact h2 (Or.inr ⟨i0,x,g1,g2,hc⟩)
 rcases List.mem_cons.mp ha with rfl|ha
 ·have h:=R.dead dead'
  exact⟨h.1,h.2.1,h.2.2.1,key hne h.2.2.2⟩
 ·have q:=off a ha
  refine⟨by rw[z18 q.2.2.2];exact q.1,q.2.1,q.2.2.1,key (λe=> ?_) q.2.2.2⟩
  obtain⟨o,h⟩:=live a ha
  exact nomatch dead.symm.trans (show s₂.heap.get? E.locals=some o from e▸h)
end
theorem y1r{E:Env}{elt tgt iter:Expr}{ifs:List Expr}{scope:Scope}{pos:Pos}{locals caps:List Str}{ms:Loc}{use:Option (Value->Sem Unit)}{K:Value->Shared->Prop}{Q:List V->Sto->Prop}{acc I:Addr}{fp wr:List Addr}{St:Nat->Heap->Prop}{xs:List V}{P:Sto->Prop}{s₂ s':Shared}{mm:Str->Option Value}
  (hA:AOk A d) (R:RelF C env vars gl own G D m σ s₂) (ok:FmOk C E (locals++caps) gl' false) (hcaps:Caps vars m caps ms) (nl:∀x∈locals,E.kindOf x=some .local) (nc:∀x∈caps,E.kindOf x=some .cell) (ce:∀x∈caps,∀c,E.cells.lookup x=some c->∃i:Nat,vars[i]? =some x/\env.kindOf x=some .cell/\env.cells.lookup x=some c)
  (same:∃h tk,s'={C.s₀ with heap:=h,toks:=tk}) (kp:∀b o,s₂.heap.get? b=some o->s'.heap.get? b=some o) (dead:s₂.heap.get? E.locals=none) (dead':s₂.heap.get? acc=none) (hne:acc≠E.locals) (hns:s'.heap.Ns E.locals mm) (hacc:s'.heap.get? acc=some (z0r #[] 0))
  (W:IW C A tgt I fp wr D xs St) (st₀:St 0 s₂.heap) (off:Off env vars G D σ wr) (hP:P σ) (stay:y0H C D P s₂.heap fp wr) (hsz:xs.length<=sizeLine) (hL:z0S C E (locals++caps) gl' d tgt elt ifs P Q xs [] ((locals.map λ_=>none)++ms) σ)
  (hK:∀s' D' σ' vs n ys mm,DX G D D'->RelF C env vars gl own G D' m ((acc,z0r vs n,.list ys)::σ') s'->Off env vars G D' ((acc,z0r vs n,.list ys)::σ') [E.locals]->s'.heap.Ns E.locals mm->Q ys σ'->compPost C.M A (λ_ _=>False) use K (.ref acc) E.locals (.ok .next) s'):
  codeAny C.M A (.compStart (.ListComp elt [⟨tgt,iter,ifs,0⟩] scope pos) 0 (.ref I) (.ref acc) E) (compPost C.M A (λ_ _=>False) use K (.ref acc) E.locals) s':=by
 have stA:St 0 s'.heap:=W.frame _ _ _ st₀ λb _ o e=>kp b o e
 have haw:acc∉wr:=λhw=>by obtain⟨o,e⟩:=W.live _ _ st₀ acc hw;exact nomatch dead'.symm.trans e
 have loop:codeAny C.M A (.compLoop (.ListComp elt [⟨tgt,iter,ifs,0⟩] scope pos) 0 (.ref I) (.ref acc) E) (compPost C.M A (λ_ _=>False) use K (.ref acc) E.locals) s':=by
  refine y0d W hA hsz stA (y06 R ok hcaps nl nc ce same kp dead hns) (Sub.refl _) (y0R R nl ce hne dead dead' off (W.live _ _ st₀)) haw (λhf=>W.old acc hf haw _ st₀ dead') hacc hP (λG' D' σ' s' R' hs' hP' b hb hbw o e=> ?_) hL λs' D' σ' m'' vs n ys dx' RF' off' ho' hvs' hq'=> ?_
  ·cases q:s₂.heap.get? b with
   |none=>exact(W.old b hb hbw _ st₀ q).elim
   |some o0=>exact stay G' D' σ' s' R' hs' hP' b hb hbw o (q.trans ((kp b o0 q).symm.trans e))
  ·have oa:=off' acc (.head _)
   have hl:=RF'.offL
   obtain⟨mm,hmm,_⟩:=RF'.ns
   refine hK s' D' σ' vs n ys mm (R.dx dx') (R.back (RF'.toRelC.addL oa.1 oa.2.1 oa.2.2.1 ho' hvs') dx') (λa ha=> ?_) hmm hq'
   rw[List.mem_singleton.mp ha]
   refine⟨Option.eq_none_iff_forall_not_mem.mpr λo e=>(nomatch hl.1.symm.trans (R.over e)),hl.2.1,λhf=> ?_,(R.dead dead).2.2.2⟩
   rcases List.mem_cons.mp hf with e|hf
   ·exact hne e.symm
   ·exact hl.2.2 hf
 exact codeAny_compStart_list loop (wpAny_mono (W.self 0 _ _ stA loop) (λ_ _ e=>e) λ_ _ e=>e.elim)
theorem z5l{elt tgt iter:Expr}{ifs:List Expr}{scope:Scope}{pos pos':Pos}{locals caps:List Str}{ms:Loc}{use:Option (Value->Sem Unit)}{K:Value->Shared->Prop}{Q:List V->Sto->Prop}
  (hA:AOk A d) (R:RelF C env vars gl own G D m σ s) (hok:z14 scope env.scope vars locals caps (gl'.map (·.1))=true) (hgl:∀p∈gl',z0f C p.1 p.2) (hcaps:Caps vars m caps ms)
  (h:AI C env vars gl own d iter tgt m σ λxs P σ₁=>xs.length<=sizeLine/\∀env',env'.scope=relabel scope env->z0S C env' (locals++caps) gl' d tgt elt ifs P Q xs [] ((locals.map λ_=>none)++ms) σ₁)
  (hs:∀x,foldedSetIterable iter env x=pure x)
  (hK:∀s' D' σ' a vs n ys L mm,DX G D D'->RelF C env vars gl own G D' m ((a,z0r vs n,.list ys)::σ') s'->Off env vars G D' ((a,z0r vs n,.list ys)::σ') [L]->s'.heap.Ns L mm->Q ys σ'->compPost C.M A (λ_ _=>False) use K (.ref a) L (.ok .next) s'):
  wpAny C.M A (comprehension (.ListComp elt [⟨tgt,iter,ifs,0⟩] scope pos) scope env pos' (newList []) false (eval iter env) use) K (λ_ _=>False) s:=by
 obtain⟨k1,hnc,hclos,hlk,hE⟩:=z8J R.ok hok hgl
 refine wpAny_comprehension_free (g:=⟨tgt,iter,ifs,0⟩) (gs:=[]) rfl hs hclos k1 hlk (wpAny_mono (h A G D s hA R) (λx s₁ h₁=>wpAny_mono h₁ (λit s₂ h₂=> ?_) λ_ _ e=>e) λ_ _ e=>e)
 obtain⟨D₁,σ₁,xs,P,dx₁,⟨I,fp,wr,St,rfl,W,st₀,R₁,off₁,hP₁,stay⟩,hsz,hL⟩:=h₂
 refine wpAny_newList (items:=[]) (wpAny_newFunctionEnv hnc (λy hy=>nomatch hy) (λh₁ hns hsb=> ?_) k1) (Nat.zero_le _)
 obtain⟨ok,nl,nc,ce⟩:=hE {(newEnv scope (s₂.heap.push (z0r #[] 0)).objs.size env.globals (z2P env scope.names []) env.qual none .none (some env) builtinsNs) with scope:=relabel scope env} rfl rfl rfl (R.ok.gb.symm▸rfl) λy k e=>z2M R.ok.fn e
 have hsz':(s₂.heap.push (z0r #[] 0)).objs.size=s₂.heap.objs.size+1:=Heap.size_push ..
 have dead:∀b,s₂.heap.objs.size<=b->s₂.heap.get? b=none:=λb hb=>Option.eq_none_iff_forall_not_mem.mpr λo e=>absurd (Heap.lt_size e) (Nat.not_lt.mpr hb)
 have kp:∀b o,b<=s₂.heap.objs.size->(s₂.heap.push (z0r #[] 0)).get? b=some o->h₁.get? b=some o:=λb o hb e=>hsb.extBut b o (show b≠(s₂.heap.push (z0r #[] 0)).objs.size from hsz'▸Nat.ne_of_lt (Nat.lt_succ_of_le hb)) (Heap.get?_push_of_some _ e)
 refine y1r hA R₁ ok hcaps nl nc ce (by obtain⟨h0,t0,e⟩:=R₁.same;exact⟨h₁,_,by rw[e]⟩) (λb o e=>kp b o (Nat.le_of_lt (Heap.lt_size e)) (Heap.get?_push_of_some _ e)) (dead _ (Nat.le_of_lt (hsz'▸Nat.lt_succ_self _))) (dead _ (Nat.le_refl _)) (show s₂.heap.objs.size≠(s₂.heap.push (z0r #[] 0)).objs.size from hsz'▸Nat.ne_of_lt (Nat.lt_succ_self _)) hns (kp _ _ (Nat.le_refl _) (Heap.get?_push_size _ rfl)) W st₀ off₁ hP₁ stay hsz (hL _ rfl) λs' D' σ' vs n ys mm dx RF off hn q=>hK s' D' σ' _ vs n ys _ mm (dx₁.trans dx) RF off hn q
end
end
section
section
variable {C:Cx} {env:Env} {vars:List Str} {gl gl':List (Str×V)} {own:Bool} {d:Nat} {m m':Loc} {σ σ':Sto}
variable {A:Around} {G D D₀ D₁:Gh} {s:Shared} {P:V->Sto->Prop}
theorem RelF.freeze{a:Addr}{o:Obj}{xs:List V}{u v:Sto}(R:RelF C env vars gl own G D m (u++(a,o,.list xs)::v) s):
  RelF C env vars gl own G (z2d D a o) m (u++v) s/\DX G D (z2d D a o)/\VR C.w (z2d D a o) (.ref a) (.lst xs):=by
 obtain⟨h1,h2,h3⟩:=R.lifted.freezeL rfl
 exact⟨R.back h1 h2,R.dx h2,h3⟩
theorem z77{elt tgt iter:Expr}{ifs:List Expr}{scope:Scope}{pos:Pos}(locals caps:List Str)(gl':List (Str×V)){ms:Loc}
  (hok:z14 scope env.scope vars locals caps (gl'.map (·.1))=true) (hgl:∀p∈gl',z0f C p.1 p.2) (hcaps:Caps vars m caps ms)
  (h:AI C env vars gl own d iter tgt m σ λxs Pp σ₁=>xs.length<=sizeLine/\∀env',env'.scope=relabel scope env->
   z0S C env' (locals++caps) gl' d tgt elt ifs Pp (λys σ₂=>P (.lst ys) σ₂) xs [] ((locals.map λ_=>none)++ms) σ₁)
  (hs:autoParam (∀x,foldedSetIterable iter env x=pure x) auF):
  AT C env vars gl own d (eval (.ListComp elt [⟨tgt,iter,ifs,0⟩] scope pos) env) m σ P:=λA G D s hA R=>by
 rw[eval_ListComp]
 refine z5l hA R hok hgl hcaps h hs λs' D' σ' a vs n ys L mm dx RO off hns q=> ?_
 refine⟨mm,hns,λh' hs'=> ?_⟩
 have R1:RelF C env vars gl own G D' m ((a,z0r vs n,.list ys)::σ') {s' with heap:=h'}:=by
  have:=RO.keepBut (h':=h') s'.toks off λb o hb e=>hs'.extBut b o (by simpa using hb) e
  exact this
 obtain⟨R2,dx2,hv⟩:=RelF.freeze (u:=[]) R1
 exact⟨.lst ys,_,σ',dx.trans dx2,hv,R2,q⟩
variable {Q:Fl->Loc->Sto->Prop}
theorem z5W{elt tgt iter:Expr}{ifs:List Expr}{scope:Scope}{pos p' p:Pos}{x:Str}{locals caps:List Str}{gl':List (Str×V)}{ms:Loc}{Z:List V->Sto->Prop}
  (hA:AOk A d) (R:RelF C env vars gl own G D m σ s) (hown:own=true)
  (hsw:swapsWith (.ListComp elt [⟨tgt,iter,ifs,0⟩] scope pos) (some (.Name x p')) p.line env=pure true)
  (hok:z14 scope env.scope vars locals caps (gl'.map (·.1))=true) (hgl:∀p∈gl',z0f C p.1 p.2) (hcaps:Caps vars m caps ms)
  (h:AI C env vars gl own d iter tgt m σ λxs Pp σ₁=>xs.length<=sizeLine/\∀env',env'.scope=relabel scope env->z0S C env' (locals++caps) gl' d tgt elt ifs Pp Z xs [] ((locals.map λ_=>none)++ms) σ₁)
  (hs:∀x,foldedSetIterable iter env x=pure x)
  (k:∀s' D' σ' a vs n ys,DX G D D'->RelF C env vars gl own G D' m ((a,z0r vs n,.list ys)::σ') s'->Z ys σ'->∃X m' D₂ σ₂,DX G D' D₂/\VR C.w D₂ (.ref a) X/\RelF C env vars gl own G D₂ m σ₂ s'/\Sub D' D₂/\(∀L,Off env vars G D' ((a,z0r vs n,.list ys)::σ') [L]->Off env vars G D₂ σ₂ [L])/\Put vars m x X m'/\Q .next m' σ₂):
  wpAny C.M A (exec (.Assign [.Name x p'] (.ListComp elt [⟨tgt,iter,ifs,0⟩] scope pos) p) env) (PostS C env vars gl own G D Q) (λ_ _=>False) s:=by
 rw[exec_Assign_Name_used _ _ _ _ hsw]
 refine wpAny_bind (wpAny_standAt (wpAny_bind ?_))
 show wpAny _ A (do let _ <-comprehension (.ListComp elt [⟨tgt,iter,ifs,0⟩] scope pos) scope env _ (newList []) false (eval iter env) (some (assign (.Name x p') env))) _ _ s
 refine wpAny_bind (wpAny_mono (z5l (K:=λ_ s'=>PostS C env vars gl own G D Q .next s') hA R hok hgl hcaps h hs λs' D' σ' a vs n ys L mm dx RO off hns q=> ?_) (λ_ s' hq=>wpAny_pure (wpAny_pure hq)) λ_ _ e=>e)
 obtain⟨X,m',D₂,σ₂,dx₂,hv,R₂,_,off₂,hP,q₂⟩:=k s' D' σ' a vs n ys dx RO q
 have offL:=off₂ L off
 have RW:=R₂.withW offL
 show wpAny C.M A (assign (.Name x p') env (.ref a)) _ _ s'
 refine wpAny_bind (wpAny_standAt (wpAny_bindName (RW.store hP hv (.inl hown) λs'' R''=> ?_)))
 obtain⟨oL,hoL⟩:∃o,s'.heap.get? L=some o:=let⟨o,_,_,ho,_⟩:=hns;⟨o,ho⟩
 have hL'':s''.heap.get? L=some oL:=R''.g L oL (by rw[z1Z (.head _)];exact hoL)
 obtain⟨R₃,_,off₃⟩:=R''.lessW offL R.base (DX.refl _ _) (λa ha=>by simp at ha;subst ha;exact⟨_,hoL⟩)
 refine⟨mm,hns.at' (λo e=>by rw[hoL] at e;cases e;exact hL''),λh' hs'=>⟨.next,m',D₂,σ₂,dx.trans dx₂,trivial,?_,q₂⟩⟩
 have:=R₃.keepBut (h':=h') s''.toks off₃ λb o hb e=>hs'.extBut b o (by simpa using hb) e
 exact this
theorem Off.freeze{a L:Addr}{o:Obj}{xs:List V}(h:Off env vars G D ((a,o,.list xs)::σ) [L]):Off env vars G (z2d D a o) σ [L]:=λb hb=>by
 have q:=h b hb
 have hne:b≠a:=λe=>q.2.2.1 (by rw[e];exact .head _)
 exact⟨q.1,by rw[z1m o hne];exact q.2.1,λhf=>q.2.2.1 (.tail _ hf),q.2.2.2⟩
theorem z5u{elt tgt iter:Expr}{ifs:List Expr}{scope:Scope}{pos p' p:Pos}{x:Str}(locals caps:List Str)(gl':List (Str×V)){ms:Loc}
  (hsw:swapsWith (.ListComp elt [⟨tgt,iter,ifs,0⟩] scope pos) (some (.Name x p')) p.line env=pure true)
  (hok:z14 scope env.scope vars locals caps (gl'.map (·.1))=true) (hgl:∀p∈gl',z0f C p.1 p.2) (hcaps:Caps vars m caps ms)
  (h:AI C env vars gl own d iter tgt m σ λxs Pp σ₁=>xs.length<=sizeLine/\∀env',env'.scope=relabel scope env->
   z0S C env' (locals++caps) gl' d tgt elt ifs Pp (λys σ₂=>∃m',Put vars m x (.lst ys) m'/\Q .next m' σ₂) xs [] ((locals.map λ_=>none)++ms) σ₁)
  (hown:autoParam (own=true) auR) (hs:autoParam (∀x,foldedSetIterable iter env x=pure x) auF):
  AS C env vars gl own d (exec (.Assign [.Name x p'] (.ListComp elt [⟨tgt,iter,ifs,0⟩] scope pos) p) env) m σ Q:=λA G D s hA R=>
 z5W hA R hown hsw hok hgl hcaps h hs λs' D' σ' a vs n ys dx RO hpp=>by
  obtain⟨m',hP,q⟩:=hpp
  obtain⟨R2,dx2,hv⟩:=RelF.freeze (u:=[]) RO
  exact⟨.lst ys,m',_,σ',dx2,hv,R2,dx2.sub,λL off=>off.freeze,hP,q⟩
theorem z5w{elt tgt iter:Expr}{ifs:List Expr}{scope:Scope}{pos p' p:Pos}{x:Str}(locals caps:List Str)(gl':List (Str×V)){ms:Loc}
  (hsw:swapsWith (.ListComp elt [⟨tgt,iter,ifs,0⟩] scope pos) (some (.Name x p')) p.line env=pure true)
  (hok:z14 scope env.scope vars locals caps (gl'.map (·.1))=true) (hgl:∀p∈gl',z0f C p.1 p.2) (hcaps:Caps vars m caps ms)
  (h:AI C env vars gl own d iter tgt m σ λxs Pp σ₁=>xs.length<=sizeLine/\∀env',env'.scope=relabel scope env->
   z0S C env' (locals++caps) gl' d tgt elt ifs Pp (λys σ₂=>∀a o,∃m',Put vars m x (.ref a) m'/\Q .next m' ((a,o,.list ys)::σ₂)) xs [] ((locals.map λ_=>none)++ms) σ₁)
  (hown:autoParam (own=true) auR) (hs:autoParam (∀x,foldedSetIterable iter env x=pure x) auF):
  AS C env vars gl own d (exec (.Assign [.Name x p'] (.ListComp elt [⟨tgt,iter,ifs,0⟩] scope pos) p) env) m σ Q:=λA G D s hA R=>
 z5W hA R hown hsw hok hgl hcaps h hs λs' D' σ' a vs n ys dx RO q=>by
  obtain⟨m',hP,q⟩:=q a (z0r vs n)
  exact⟨.ref a,m',D',_,DX.refl _ _,.ref a,RO,Sub.refl _,λL off=>off,hP,q⟩
end
end
section
section
variable {C:Cx} {d:Nat} {σ:Sto} {Q:V->Sto->Prop}
theorem z5X{a b:Int}(q:Q (.int (a+b)) σ):AC2 C d (binaryOp .Add) (.int a) (.int b) σ Q:=λA G D s v u hA R hv hu=>by
 apply VR.intE hv;intro _;apply VR.intE hu;intro _;exact P.add_int (PostC.now (R.tok _) (.int _ _) q)
theorem y5q{a b:Int}(q:Q (.int (a-b)) σ):AC2 C d (binaryOp .Sub) (.int a) (.int b) σ Q:=λA G D s v u hA R hv hu=>by
 apply VR.intE hv;intro _;apply VR.intE hu;intro _;exact P.sub_int (PostC.now (R.tok _) (.int _ _) q)
theorem z3Y{a b:Int}(q:Q (.int (a*b)) σ)(h:IntMulOk a b):AC2 C d (binaryOp .Mult) (.int a) (.int b) σ Q:=λA G D s v u hA R hv hu=>by
 apply VR.intE hv;intro _;apply VR.intE hu;intro _;exact P.mul_int (PostC.now (R.tok _) (.int _ _) q) h
theorem z58{a b:Int}(q:Q (.int (a.fdiv b)) σ)(h:b≠0)(hs:b.natAbs<1073741824):AC2 C d (binaryOp .FloorDiv) (.int a) (.int b) σ Q:=λA G D s v u hA R hv hu=>by
 apply VR.intE hv;intro _;apply VR.intE hu;intro _;exact PyProof.Rows.floordiv_int h (PostC.now (R.tok _) (.int _ _) q) (.inl (PyProof.noPylong_small hs))
theorem z57{a b:Int}(q:Q (.int (a.fmod b)) σ)(h:b≠0):AC2 C d (binaryOp .Mod) (.int a) (.int b) σ Q:=λA G D s v u hA R hv hu=>by
 apply VR.intE hv;intro _;apply VR.intE hu;intro _;exact PyProof.Rows.mod_int' h (PostC.now (R.tok _) (.int _ _) q)
theorem z4B{a:Int}(q:Q (.int (-a)) σ):AC1 C d (unaryOp .USub) (.int a) σ Q:=λA G D s v hA R hv=>by
 apply VR.intE hv;intro _;exact P.neg_int (PostC.now (R.tok _) (.int _ _) q)
theorem y45{a b:Int}(q:Q (.bool (decide (a<b))) σ):AC2 C d (compareOp .Lt) (.int a) (.int b) σ Q:=λA G D s v u hA R hv hu=>by
 apply VR.intE hv;intro _;apply VR.intE hu;intro _;exact P.lt_int (PostC.now R (.bool _) q)
theorem y5A{a b:Int}(q:Q (.bool (decide (a<=b))) σ):AC2 C d (compareOp .LtE) (.int a) (.int b) σ Q:=λA G D s v u hA R hv hu=>by
 apply VR.intE hv;intro _;apply VR.intE hu;intro _;exact P.le_int (PostC.now R (.bool _) q)
theorem y5J{a b:Int}(q:Q (.bool (decide (b<a))) σ):AC2 C d (compareOp .Gt) (.int a) (.int b) σ Q:=λA G D s v u hA R hv hu=>by
 apply VR.intE hv;intro _;apply VR.intE hu;intro _;exact P.gt_int (PostC.now R (.bool _) q)
theorem y5O{a b:Int}(q:Q (.bool (decide (b<=a))) σ):AC2 C d (compareOp .GtE) (.int a) (.int b) σ Q:=λA G D s v u hA R hv hu=>by
 apply VR.intE hv;intro _;apply VR.intE hu;intro _;exact P.ge_int (PostC.now R (.bool _) q)
theorem y5K{a b:Int}(q:Q (.bool (decide (a=b))) σ):AC2 C d (compareOp .Eq) (.int a) (.int b) σ Q:=λA G D s v u hA R hv hu=>by
 apply VR.intE hv;intro _;apply VR.intE hu;intro _
 refine P.eq_int (PostC.now R ?_ q)
 rw[show(a==b)=decide (a=b) from rfl];exact .bool _
theorem y0P{a b:Int}(q:Q (.bool (!decide (a=b))) σ):AC2 C d (compareOp .NotEq) (.int a) (.int b) σ Q:=λA G D s v u hA R hv hu=>by
 apply VR.intE hv;intro _;apply VR.intE hu;intro _
 refine P.ne_int (PostC.now R ?_ q)
 rw[show(a !=b)= !decide (a=b) from rfl];exact .bool _
theorem z1N{b:Bool}:TR C d (.bool b) σ b:=λA G D s v hA R hv K k=>by apply VR.boolE hv;exact wpAny_truthy_bool (k s.toks)
theorem z0i{b:Bool}{P:Bool->Sto->Prop}(p:P b σ):TRX C d (.bool b) σ P:=⟨b,z1N,p⟩
noncomputable def V.isNone:V->Bool
 | .none=>true
 |_=>false
theorem VR.isN{w:World}{D:Gh}{v:Value}{x:V}(hv:VR w D v x):(v==Value.none)=x.isNone:=
 hv.casesOn (motive_1:=λv x _=>(v==Value.none)=x.isNone) rfl (λ_=>rfl) (λ_ _=>rfl) (λ_ _=>rfl) (λ_=>rfl) (λ_=>rfl) (λ_=>rfl) (λ_ _ _ _=>rfl) (λ_ _=>rfl) (λ_=>rfl) (λ_ _ _ _=>rfl) (λ_ _=>rfl)
theorem y1p{x:V}(q:Q (.bool x.isNone) σ):AC2 C d (compareOp .Is) x .none σ Q:=λA G D s v u hA R hv hu=>by
 apply VR.noneE hu
 exact is_none (PostC.now R (hv.isN▸ .bool _) q)
theorem z8r{x:V}(q:Q (.bool (!x.isNone)) σ):AC2 C d (compareOp .IsNot) x .none σ Q:=λA G D s v u hA R hv hu=>by
 apply VR.noneE hu
 exact isNot_none (PostC.now R (hv.isN▸ .bool _) q)
theorem z88(a b:Bool):(Value.bool a==Value.bool b)=(a==b):=by cases b<;>cases a<;>rfl
theorem z8N{x y:Str}(q:Q (.str (x++y)) σ)(h:x.length+y.length<=sizeLine):AC2 C d (binaryOp .Add) (.str x) (.str y) σ Q:=λA G D s v u hA R hv hu=>by
 apply VR.strE hv;intro _;apply VR.strE hu;intro _;exact PyProof.Rows.add_str (λt' tk=>PostC.now (R.tok tk) (.str _ _) q) h
theorem y3B{x y:Str}(q:Q (.bool (x==y)) σ):AC2 C d (compareOp .Eq) (.str x) (.str y) σ Q:=λA G D s v u hA R hv hu=>by
 apply VR.strE hv;intro _;apply VR.strE hu;intro _;exact PyProof.Rows.eq_str (PostC.now R (.bool _) q)
theorem y4X{x y:Str}(q:Q (.bool (!(Builtin.Str.occurrences x y 0 x.length 1).isEmpty)) σ):AC2 C d (compareOp .In) (.str y) (.str x) σ Q:=λA G D s v u hA R hv hu=>by
 apply VR.strE hv;intro _;apply VR.strE hu;intro _;exact P.in_str (PostC.now R (.bool _) q)
end
end
section
noncomputable def NLq(P:V->Sto->Prop)(Xs:List V)(σ:Sto):Prop:=P (.lst Xs) σ∨∀a o,P (.ref a) ((a,o,.list Xs)::σ)
section
variable {C:Cx} {d:Nat} {σ:Sto} {Q:V->Sto->Prop} {G D:Gh} {s:Shared} {A:Around}
theorem RelC.mkL(R:RelC C G D σ s){vs:List Value}{Xs:List V}(h:VRs C.w D vs Xs)(q:NLq Q Xs σ):PostC C G D Q (.ref s.heap.objs.size) {s with heap:=s.heap.push (z0r vs.toArray 0)}:=by
 rcases q with q|q
 ·obtain⟨R',dx⟩:=R.newF (z0r vs.toArray 0)
  exact⟨.lst Xs,_,σ,dx,.lst (z0P ..) (h.mono dx.sub),R',q⟩
 ·exact⟨.ref _,D,_,DX.refl _ _,.ref _,R.newM (z0r vs.toArray 0) (.list Xs) ⟨vs.toArray,0,rfl,by simpa using h⟩ rfl (λ_ _=>rfl),q _ _⟩
mutual
inductive Dp(σ:Sto):V->PyData->Prop
 |none:Dp σ .none .none
 |bool (b:Bool):Dp σ (.bool b) (.bool b)
 |int (i:Int):Dp σ (.int i) (.int i)
 |str (x:Str):Dp σ (.str x) (.str x)
 |tup {xs:List V} {ds:List PyData}:Dps σ xs ds->Dp σ (.tup xs) (.tuple ds)
 |lst {xs:List V} {ds:List PyData}:Dps σ xs ds->Dp σ (.lst xs) (.list ds)
 |ref {a:Addr} {o:Obj} {xs:List V} {ds:List PyData}:(a,o,AO.list xs)∈σ->Dps σ xs ds->Dp σ (.ref a) (.list ds)
inductive Dps(σ:Sto):List V->List PyData->Prop
 |nil:Dps σ [] []
 |cons {x:V} {e:PyData} {xs:List V} {ds:List PyData}:Dp σ x e->Dps σ xs ds->Dps σ (x::xs) (e::ds)
end
theorem Dp.reads(R:RelC C G D σ s){x:V}{e:PyData}(p:Dp σ x e):∀{v:Value},VR C.w D v x->∃as,Reads s.heap v e as:=
 λ{v}=>Dp.rec (motive_1:=λx e _=>∀v,VR C.w D v x->∃as,Reads s.heap v e as) (motive_2:=λx e _=>∀v,VRs C.w D v x->∃as,ReadsAll s.heap v e as)
  (λv h=>by rw[h.noneI];exact⟨_,.none⟩) (λb v h=>by rw[h.boolI];exact⟨_,.bool b⟩) (λi v h=>by apply VR.intE h;intro _;exact⟨_,.int i _⟩) (λx v h=>by apply VR.strE h;intro _;exact⟨_,.str x _⟩)
  (λr ih v h=>by
   obtain⟨a,o,vs,n,rfl,e,hc,hd,hv⟩:=h.tupI
   obtain⟨as,q⟩:=ih vs hv
   exact⟨_,.tuple (R.d _ _ e) hc hd (by simpa using q)⟩)
  (λr ih v h=>by
   obtain⟨a,vs,n,rfl,e,hv⟩:=h.lstI
   obtain⟨as,q⟩:=ih vs hv
   exact⟨_,.list (R.d _ _ e) rfl rfl (by simpa using q)⟩)
  (λhm r ih v h=>by
   rw[h.refI]
   obtain⟨vs,n,e,hv⟩:=R.sto _ hm
   obtain⟨as,q⟩:=ih _ hv
   have e':=R.pl _ hm
   exact⟨_,.list e' (by rw[show _=z0r vs n from e]) (by rw[show _=z0r vs n from e]) q⟩)
  (λv h=>by rw[h.nilI];exact⟨_,.nil⟩)
  (λa b ia ib v h=>by
   apply VRs.consE h;intro _ _ h1 h2
   obtain⟨as,q⟩:=ia _ h1
   obtain⟨bs,q'⟩:=ib _ h2
   exact⟨_,.cons q q'⟩) p v
theorem AOk.line{A:Around}{d:Nat}(h:AOk A d):A.units+64<cLine:=Nat.lt_of_le_of_lt (Nat.add_le_add_right (Nat.le_of_lt (Nat.lt_of_le_of_lt (Nat.le_add_right _ _) h.units)) 64) (show 9000+64<9900 by decide)
theorem y3z{x y:V}{e f:PyData}(hx:Dp σ x e)(hy:Dp σ y f)(he:SeqAt.shaped e=true)(hf:SeqAt.shaped f=true)(q:Q (.bool (PyData.eqv e f)) σ):AC2 C d (compareOp .Eq) x y σ Q:=λA G D s v u hA R hv hu=>by
 obtain⟨_,r1⟩:=hx.reads R hv
 obtain⟨_,r2⟩:=hy.reads R hu
 exact SeqAt.compareEq_shaped r1 r2 he hf hA.line (PostC.now R (.bool _) q)
theorem y0U{x y:V}{e f:PyData}(hx:Dp σ x e)(hy:Dp σ y f)(he:SeqAt.shaped e=true)(hf:SeqAt.shaped f=true)(q:Q (.bool (!PyData.eqv e f)) σ):AC2 C d (compareOp .NotEq) x y σ Q:=λA G D s v u hA R hv hu=>by
 obtain⟨_,r1⟩:=hx.reads R hv
 obtain⟨_,r2⟩:=hy.reads R hu
 exact SeqAt.compareNe_shaped r1 r2 he hf hA.line (PostC.now R (.bool _) q)
theorem Has.isL{x:V}{xs:List V}{P:Sto->Prop}(h:Has σ x (.list xs) P)(R:RelC C G D σ s){v:Value}(hv:VR C.w D v x):
  ∃a vs,v= .ref a/\s.heap.IsList a vs/\VRs C.w D vs.toList xs:=by
 obtain⟨a,vs,n,rfl,ho,hr⟩:=h.isList R hv
 exact⟨a,vs,rfl,⟨_,ho,rfl,n,rfl⟩,hr⟩
theorem VR.isT{xs:List V}(R:RelC C G D σ s){v:Value}(hv:VR C.w D v (.tup xs)):∃a vs,v= .ref a/\PyProof.Rows.IsTup s.heap a vs/\s.heap.IsTuple a vs/\VRs C.w D vs.toList xs:=by
 cases hv with
 |tup e hc hd hr=>exact⟨_,_,rfl,⟨_,R.d _ _ e,hc,_,hd⟩,⟨_,R.d _ _ e,hc,_,hd⟩,by simpa using hr⟩
theorem Has.isLE{x:V}{xs:List V}{P:Sto->Prop}{Z:Value->Prop}(h:Has σ x (.list xs) P)(R:RelC C G D σ s){v:Value}(hv:VR C.w D v x)(k:∀a vs,s.heap.IsList a vs->VRs C.w D vs.toList xs->Z (.ref a)):Z v:=by
 obtain⟨a,vs,rfl,ho,hr⟩:=h.isL R hv
 exact k a vs ho hr
theorem VR.isTE{xs:List V}{Z:Value->Prop}(R:RelC C G D σ s){v:Value}(hv:VR C.w D v (.tup xs))(k:∀a vs,PyProof.Rows.IsTup s.heap a vs->s.heap.IsTuple a vs->VRs C.w D vs.toList xs->Z (.ref a)):Z v:=by
 obtain⟨a,vs,rfl,h1,h2,hr⟩:=VR.isT R hv
 exact k a vs h1 h2 hr
theorem z2h{x:V}{xs:List V}{P:Sto->Prop}(h:Has σ x (.list xs) P)(hl:xs.length<=sizeLine)(q:Q (.int xs.length) σ):KW C d (.bi "len") [x] σ Q:=λA G D s v vs hA R hv hs=>by
 apply VR.biE hv
 apply VRs.consE hs;intro _ _ h1 h2
 ·skip
  apply VRs.nilE h2
  apply Has.isLE h R h1;intro a ws hL hr
  have e:ws.size=xs.length:=by rw[<-hr.length];simp
  refine Calls.call_len_list hL (by rw[e];have:xs.length<=16777216:=hl;lia) ?_
  rw[e];exact PostC.now (R.tok _) (.int _ _) q
theorem z6D{xs:List V}(hl:xs.length<=sizeLine)(q:Q (.int xs.length) σ):KW C d (.bi "len") [.tup xs] σ Q:=λA G D s v vs hA R hv hs=>by
 apply VR.biE hv
 apply VRs.consE hs;intro _ _ h1 h2
 ·skip
  apply VRs.nilE h2
  apply VR.isTE R h1;intro a ws hT _ hr
  have e:ws.size=xs.length:=by rw[<-hr.length];simp
  refine PyProof.Rows.len_tuple hT (by rw[e];have:xs.length<=16777216:=hl;lia) ?_
  rw[e];exact PostC.now (R.tok _) (.int _ _) q
theorem y1i{x:Str}(hl:x.length<=sizeLine)(q:Q (.int x.length) σ):KW C d (.bi "len") [.str x] σ Q:=λA G D s v vs hA R hv hs=>by
 apply VR.biE hv
 apply VRs.consE hs;intro _ _ h1 h2
 ·skip
  apply VRs.nilE h2;apply VR.strE h1;intro _
  exact PyProof.Rows.len_str (by have:x.length<=16777216:=hl;lia) (PostC.now (R.tok _) (.int _ _) q)
theorem z2l{x:V}{xs:List V}{P:Sto->Prop}{k:Int}{X:V}(h:Has σ x (.list xs) P)(h0:0<=k)(hf:k<2^63)(hx:xs[k.toNat]? =some X)(q:Q X σ):SubR C d x (.int k) σ Q:=λA G D s o v hA R ho hv=>by
 apply VR.intE hv;intro _
 apply Has.isLE h R ho;intro a ws hL hr
 obtain⟨u,hu,ru⟩:=hr.get hx
 exact⟨"list",_,hL.typeIs,slot_list_getitem.lookup,wpAny_getItem_list hL h0 hf (by rw[<-Array.getElem?_toList];exact hu) (PostC.now R ru q)⟩
theorem z9d{x:V}{xs:List V}{P:Sto->Prop}{k:Int}{X:V}(h:Has σ x (.list xs) P)(h0:k<0)(h1: -(xs.length:Int)<=k)(hf: -(2^63)<=k)(hx:xs[(k+xs.length).toNat]? =some X)(q:Q X σ):SubR C d x (.int k) σ Q:=λA G D s o v hA R ho hv=>by
 apply VR.intE hv;intro _
 apply Has.isLE h R ho;intro a ws hL hr
 obtain⟨u,hu,ru⟩:=hr.get hx
 have e:ws.size=xs.length:=by rw[<-hr.length];simp
 exact⟨"list",_,hL.typeIs,slot_list_getitem.lookup,wpAny_getItem_list_neg hL h0 (by rw[e];exact h1) hf (by rw[<-Array.getElem?_toList,e];exact hu) (PostC.now R ru q)⟩
theorem z3f{xs:List V}{k:Int}{X:V}(h0:0<=k)(hf:k<2^63)(hx:xs[k.toNat]? =some X)(q:Q X σ):SubR C d (.tup xs) (.int k) σ Q:=λA G D s o v hA R ho hv=>by
 apply VR.intE hv;intro _
 apply VR.isTE R ho;intro a ws hT _ hr
 obtain⟨u,hu,ru⟩:=hr.get hx
 have e:ws.size=xs.length:=by rw[<-hr.length];simp
 have hk:k.toNat<xs.length:=(List.getElem?_eq_some_iff.mp hx).1
 have hj:seqIndex? k ws.size=some k.toNat:=by
  unfold seqIndex?
  rw[e]
  have h1:(k:Int)<(xs.length:Int):=by lia
  simp[show¬k<0 by lia,h0,h1]
 exact⟨"tuple",_,hT.typeIs,PyProof.Rows.slot_tuple_getitem.lookup,PyProof.Rows.getItem_tuple hT (by lia) hf hj (by rw[<-Array.getElem?_toList];exact hu) (PostC.now R ru q)⟩
theorem y5C{x:Str}{k:Int}{c:Nat}(h0:0<=k)(hf:k<2^63)(hx:x.cps[k.toNat]? =some c)(q:Q (.str ⟨#[c]⟩) σ):SubR C d (.str x) (.int k) σ Q:=λA G D s o v hA R ho hv=>by
 apply VR.intE hv;intro _;cases ho
 have hk:k.toNat<x.cps.size:=by
  rcases Nat.lt_or_ge k.toNat x.cps.size with h|h
  ·exact h
  ·rw[Array.getElem?_eq_none h] at hx;cases hx
 have hj:seqIndex? k x.length=some k.toNat:=by
  unfold seqIndex? Str.length
  have h1:(k:Int)<(x.cps.size:Int):=by lia
  simp[show¬k<0 by lia,h0,h1]
 refine⟨"str",_,typeIs_str _ _ _,F.slot_str_getitem.lookup,PyProof.Rows.getItem_str (c:=c) (by simp;lia) (by rw[hj];exact hx) (PostC.now (R.tok _) (.str _ _) q)⟩
end
end
section
section
variable {C:Cx} {d:Nat} {σ:Sto} {Q:V->Sto->Prop} {G D:Gh} {s:Shared} {A:Around}
theorem z8O{x:V}{t:String}(h:∀A G D s v,RelC C G D σ s->VR C.w D v x->wpAny C.M A (call (.builtin "isinstance") [v,.type t]) (PostC C G D Q) (λ_ _=>False) s):KW C d (.bi "isinstance") [x,.type t] σ Q:=λA G D s v vs hA R hv hs=>by
 apply VR.biE hv;apply VRs.consE hs;intro _ _ h1 h2;apply VRs.consE h2;intro _ _ h3 h4;apply VRs.nilE h4;apply VR.typeE h3;exact h A G D s _ R h1
inductive PartV:V->Option Int->Prop
 |none:PartV .none none
 |int (i:Int):PartV (.int i) (some i)
theorem PartV.is{w:World}{x:V}{o:Option Int}(h:PartV x o){v:Value}(hv:VR w D v x):IsPart v o:=by
 cases h with
 |none=>rw[VR.noneI hv];exact .none
 |int i=>apply VR.intE hv;intro _;exact .int _ _
noncomputable def slL(xs:List V)(lo hi st:Option Int):List V:=
 (sliceRange (sliceBounds lo hi st xs.length).1 (sliceBounds lo hi st xs.length).2.1 (sliceBounds lo hi st xs.length).2.2).filterMap (xs[·]?)
theorem VRs.pick{w:World}{vs:List Value}{xs:List V}(h:VRs w D vs xs)(is:List Nat):VRs w D (is.filterMap (vs[·]?)) (is.filterMap (xs[·]?)):=by
 induction is with
 |nil=>exact .nil
 |cons i r ih=>
  cases e:xs[i]? with
  |some X=>
   obtain⟨u,hu,ru⟩:=h.get e
   rw[List.filterMap_cons_some hu,List.filterMap_cons_some e]
   exact .cons ru ih
  |none=>
   have e':vs[i]? =none:=by
    rw[List.getElem?_eq_none_iff] at e⊢;rw[h.length];exact e
   rw[List.filterMap_cons_none e',List.filterMap_cons_none e]
   exact ih
theorem z0B{x L U S:V}{xs:List V}{P:Sto->Prop}{lo hi st:Option Int}(h:Has σ x (.list xs) P)(hL:PartV L lo)(hU:PartV U hi)(hS:PartV S st)(h0:st≠some 0)(hl:xs.length<=sizeLine)
  (q:NLq Q (slL xs lo hi st) σ):SubR C d x (.slc L U S) σ Q:=λA G D s o v hA R ho hv=>by
 obtain⟨_,_,_,_,rfl,e,h1,h2,h3⟩:=VR.slcI hv
 ·skip
  apply Has.isLE h R ho;intro a ws hIs hr
  have es:ws.size=xs.length:=by rw[<-hr.length];simp
  refine⟨"list",_,hIs.typeIs,slot_list_getitem.lookup,wpAny_getItem_list_slice hIs ⟨_,R.d _ _ e,rfl,rfl⟩ (hL.is h1) (hU.is h2) (hS.is h3) h0 ?_ (by rw[es];exact hl)⟩
  have ep:slicePick ws lo hi st=((sliceRange (sliceBounds lo hi st xs.length).1 (sliceBounds lo hi st xs.length).2.1 (sliceBounds lo hi st xs.length).2.2).filterMap (ws.toList[·]?)).toArray:=by
   unfold slicePick;rw[es];congr 1
   simp
  rw[ep]
  exact R.mkL (hr.pick _) q
theorem z08{x y:V}{xs ys:List V}{P P':Sto->Prop}(h:Has σ x (.list xs) P)(h':Has σ y (.list ys) P')(hl:xs.length+ys.length<=sizeLine)(q:NLq Q (xs++ys) σ):AC2 C d (binaryOp .Add) x y σ Q:=λA G D s v u hA R hv hu=>by
 apply Has.isListE h R hv;intro a ws n ho hr
 apply Has.isListE h' R hu;intro b zs n' ho' hr'
 have e1:ws.size=xs.length:=by rw[<-hr.length];simp
 have e2:zs.size=ys.length:=by rw[<-hr'.length];simp
 refine concat_meets ⟨_,ho,rfl⟩ ⟨_,ho',rfl⟩ noFill_list_add seq_list_add F.slot_list_add F.entry_list_add (F.args_list_add_2 _ _) (PyProof.Rows.list_addW a b ws zs n n' none none #[] #[] (by lia)) ⟨ho,ho',?_⟩
 have e:ws++zs=(ws.toList++zs.toList).toArray:=by simp
 rw[e]
 exact R.mkL (hr.append hr') q
theorem all_range:∀bs:List Bool,(List.range bs.length).all (λi=>bs.getD i false)=bs.all id
 |[]=>rfl
 |b::r=>by
  rw[List.length_cons,List.range_succ_eq_map,List.all_cons,List.all_map]
  exact congrArg (b&&·) (all_range r)
theorem y2j{x:V}{bs:List Bool}{P:Sto->Prop}(h:Has σ x (.list (bs.map V.bool)) P)(q:Q (.bool (bs.all id)) σ):KW C d (.bi "all") [x] σ Q:=λA G D s v vs hA R hv hs=>by
 apply VR.biE hv
 apply VRs.consE hs;intro _ _ h1 h2
 apply VRs.nilE h2
 apply Has.isLE h R h1;intro a ws hL hr
 have hne:a≠s.heap.objs.size:=Nat.ne_of_lt (let⟨_,e,_⟩:=hL;Heap.lt_size e)
 refine call_all_walk (wpAny_pyIter_list hL ⟨s.heap.objs.size,_,_,ws.size,_,_,λi=>bs.getD i false,rfl,Walks.list (A:=A.in1) hA.h s.heap.objs.size a hne ws,⟨⟨_,Heap.get?_push_size _ rfl,rfl,rfl⟩,hL.push _⟩,?_,λh' tk hk=> ?_⟩)
 ·intro i u s' K E' hu hK
  obtain⟨X,hX,rX⟩:=hr.get' (show ws.toList[i]? =some u by rw[Array.getElem?_toList];exact hu)
  rw[List.getElem?_map] at hX
  revert rX
  apply z1I hX;intro b hb rX
  apply VR.boolE rX
  refine wpAny_truthy_bool ?_
  have hK:K (bs.getD i false) s':=hK
  rw[List.getD_eq_getElem?_getD,hb] at hK
  exact hK
 ·rw[show ws.size=bs.length from(Array.length_toList.symm.trans hr.length).trans (List.length_map ..),all_range]
  exact PostC.now ((R.push _).keepBut (h':=h') tk [s.heap.objs.size] (λc hc=>by rw[List.mem_singleton.mp hc];exact⟨R.new_G,R.new_D,R.new_notFoot⟩) hk) (.bool _) q
theorem y0Q{a b:Int}(q:Q (.int (max a b)) σ):KW C d (.bi "max") [.int a,.int b] σ Q:=λA G D s v vs hA R hv hs=>by
 apply VR.biE hv;cases hs with
 |cons h1 h2=>
  apply VRs.consE h2;intro _ _ h3 h4
  ·skip
   apply VRs.nilE h4;apply VR.intE h3;intro _;apply VR.intE h1;intro _
   refine max_two_ints hA.h λh' tk hk=> ?_
   have R':=R.keep (h':=h') tk hk
   by_cases hc:b>a
   ·rw[if_pos hc];rw[show max a b=b by lia] at q;exact PostC.now R' (.int _ _) q
   ·rw[if_neg hc];rw[show max a b=a by lia] at q;exact PostC.now R' (.int _ _) q
theorem y4R{a b:Int}(q:Q (.int (min a b)) σ):KW C d (.bi "min") [.int a,.int b] σ Q:=λA G D s v vs hA R hv hs=>by
 apply VR.biE hv;cases hs with
 |cons h1 h2=>
  apply VRs.consE h2;intro _ _ h3 h4
  ·skip
   apply VRs.nilE h4;apply VR.intE h3;intro _;apply VR.intE h1;intro _
   refine min_two_ints hA.h λh' tk hk=> ?_
   have R':=R.keep (h':=h') tk hk
   by_cases hc:b<a
   ·rw[if_pos hc];rw[show min a b=b by lia] at q;exact PostC.now R' (.int _ _) q
   ·rw[if_neg hc];rw[show min a b=a by lia] at q;exact PostC.now R' (.int _ _) q
theorem z2T{n:Int}(q:Q (.rng 0 n 1) σ):KW C d (.type "range") [.int n] σ Q:=λA G D s v vs hA R hv hs=>by
 apply VR.typeE hv;cases hs with
 |cons h1 h2=>
  apply VRs.nilE h2;apply VR.intE h1;intro _
  refine call_range_1 ?_
  obtain⟨R',dx⟩:=(R.tok (s.toks+1+1)).newF {cls:= .type "range",data:= .fields #[.int 0 s.toks,.int n _,.int 1 (s.toks+1)]}
  exact⟨_,_,σ,dx,.rng (z0P ..),R',q⟩
theorem y4A{a:Int}(ha:a.natAbs.log2<1920)(q:Q (.str (toString a)) σ):KW C d (.type "str") [.int a] σ Q:=λA G D s v vs hA R hv hs=>by
 apply VR.typeE hv;cases hs with
 |cons h1 h2=>apply VRs.nilE h2;apply VR.intE h1;intro _;exact P.str_of_int ha (PostC.now (R.tok _) (.str _ _) q)
end
end
section
section
variable {C:Cx} {env:Env} {vars:List Str} {gl:List (Str×V)} {own:Bool} {d:Nat} {m m':Loc} {σ σ':Sto}
variable {A:Around} {G D D₀ D₁:Gh} {s:Shared} {P:V->Sto->Prop}
noncomputable def APart(C:Cx)(env:Env)(vars:List Str)(gl:List (Str×V))(own:Bool)(d:Nat):Option Expr->Loc->Sto->(V->Sto->Prop)->Prop
 |none,m,σ,K=>K .none σ
 |some e,m,σ,K=>AT C env vars gl own d (eval e env) m σ K
theorem APart.run{e:Option Expr}{K:V->Sto->Prop}(h:APart C env vars gl own d e m σ K)(hA:AOk A d)(R:RelF C env vars gl own G D m σ s){Z:Value->Shared->Prop}
  (k:∀v s' x D' σ',DX G D D'->VR C.w D' v x->RelF C env vars gl own G D' m σ' s'->K x σ'->Z v s'):wpAny C.M A (evalPart e env) Z (λ_ _=>False) s:=by
 cases e with
 |none=>rw[evalPart_none];exact wpAny_pure (k _ _ _ _ _ (DX.refl _ _) .none R h)
 |some e=>rw[evalPart_some];exact AT.run h hA R k
theorem z2z{l u st:Option Expr}{p:Pos}(h:APart C env vars gl own d l m σ λL σ₁=>APart C env vars gl own d u m σ₁ λU σ₂=>APart C env vars gl own d st m σ₂ λS σ₃=>P (.slc L U S) σ₃):
  AT C env vars gl own d (eval (.Slice l u st p) env) m σ P:=λA G D s hA R=>
 wpAny_Slice (h.run hA R λv₁ s₁ L D₁ σ₁ a₁ b₁ c₁ e₁=>e₁.run hA c₁ λv₂ s₂ U D₂ σ₂ a₂ b₂ c₂ e₂=>e₂.run hA c₂ λv₃ s₃ S D₃ σ₃ a₃ b₃ c₃ e₃=>by
  obtain⟨R',dx⟩:=c₃.newF {cls:= .type "slice",data:= .fields #[v₁,v₂,v₃]}
  exact⟨.slc L U S,_,σ₃,((a₁.trans a₂).trans a₃).trans dx,.slc (z0P ..) (b₁.mono ((a₂.trans a₃).trans dx).sub) (b₂.mono (a₃.trans dx).sub) (b₃.mono dx.sub),R',e₃⟩)
structure MethIs(T:String)(name:Str)(id:String):Prop where
 pa:PlainAttrs T
 slot:Slot T name id
 ty:typeOf (.builtin id)=pure (.type "method_descriptor")
noncomputable def TyR(C:Cx)(x:V)(σ:Sto)(T:String):Prop:=
 ∀G D s v,RelC C G D σ s->VR C.w D v x->s.TypeIs v T/\∀a,v= .ref a->∃ob,s.heap.get? a=some ob/\ob.dict=none
theorem y2o{x:Str}:TyR C (.str x) σ "str":=λG D s v R hv=>by apply VR.strE hv;intro _;exact⟨typeIs_str _ _ _,λa e=>by cases e⟩
theorem y1O{x:V}{xs:List V}{P:Sto->Prop}(h:Has σ x (.list xs) P):TyR C x σ "list":=λG D s v R hv=>by
 apply Has.isListE h R hv;intro a vs n ho hr
 exact⟨⟨_,ho,rfl⟩,λb e=>by cases e;exact⟨_,ho,rfl⟩⟩
theorem y05{x:V}{es:List (V×V)}{P:Sto->Prop}(h:Has σ x (.dict es) P):TyR C x σ "dict":=λG D s v R hv=>by
 obtain⟨a,o,rfl,ho,⟨es,n,rfl,hr⟩,_⟩:=h.run R hv
 exact⟨⟨_,ho,rfl⟩,λb e=>by cases e;exact⟨_,ho,rfl⟩⟩
theorem y00{T id:String}{o:Expr}{name:Str}{ap p:Pos}(hM:MethIs T name id)(h:AT C env vars gl own d (eval o env) m σ λX σ₁=>TyR C X σ₁ T/\KW C d (.bi id) [X] σ₁ P)
  (hbase:autoParam (attributeBase o name env (eval o env)=eval o env) auR) (hline:autoParam ((ap.endLine==p.line)=true) auR):
  AT C env vars gl own d (eval (.Call (.Attribute o name ap) [] [] p) env) m σ P:=λA G D s hA R=>
 wpAny_Call_method_lateS hbase rfl hline (h.run hA R λv s₁ X D₁ σ₁ a b c hpp=>by obtain⟨hT,hk⟩:=hpp;exact⟨T,id,hM.pa,hM.slot,hM.ty,(hT _ _ _ _ c.toRelC b).1,(hT _ _ _ _ c.toRelC b).2,
  Calls.callWith_builtin rfl (evalArgs_none (z02 a (hk.inF hA c (.bi id) (.cons b .nil))))⟩)
theorem z6S{T id:String}{o e:Expr}{rest:List Expr}{name:Str}{ap p:Pos}(hM:MethIs T name id)
  (h:AT C env vars gl own d (eval o env) m σ λX σ₁=>TyR C X σ₁ T/\AL C env vars gl own d (spliced (backTo p (starEach (e::rest) env))) m σ₁ λXs σ₂=>KW C d (.bi id) (X::Xs) σ₂ P)
  (hbase:autoParam (attributeBase o name env (eval o env)=eval o env) auR) (hline:autoParam ((ap.endLine==p.line)=true) auR)
  (he:autoParam (starEach (e::rest) env=(false,eval e env)::starEach rest env) auR) (hplain:autoParam ((backTo p (starEach rest env)).any (·.1)=false) auR)
  (hfew:autoParam (((backTo p (starEach (e::rest) env)).all (λx=> !x.1)&&(backToKw p (keywordEach [] env)).all (λx=>x.1.isSome)&&decide ((e::rest).length+([]:List Keyword).length+(if([]:List Keyword).isEmpty then 0 else 1)<30))=true) auR):
  AT C env vars gl own d (eval (.Call (.Attribute o name ap) (e::rest) [] p) env) m σ P:=λA G D s hA R=>
 wpAny_Call_method_lateS hbase hfew hline (h.run hA R λv s₁ X D₁ σ₁ a b c hpp=>by obtain⟨hT,hk⟩:=hpp;exact⟨T,id,hM.pa,hM.slot,hM.ty,(hT _ _ _ _ c.toRelC b).1,(hT _ _ _ _ c.toRelC b).2,by
  rw[he] at hk⊢
  exact Calls.callWith_builtin hplain (Calls.evalArgs_plain (AL.run hk hA c λvs s₂ Xs D₂ σ₂ a' b' c' q=>z02 (a.trans a') (q.inF hA c' (.bi id) (.cons (b.mono a'.sub) b'))))⟩)
theorem M_join:MethIs "str" "join" "str.join":=⟨F.plainAttrs_str,F.slot_str_join,F.type_str_join⟩
theorem y29{l r r2:Expr}{op op2:CmpOp}{p:Pos}(h:AT C env vars gl own d (eval l env) m σ λX σ₁=>AT C env vars gl own d (eval r env) m σ₁ λY σ₂=>AC2 C d (compareOp op) X Y σ₂ λZ σ₃=>
   ∃b,TR C d Z σ₃ b/\(b=false->P Z σ₃)/\(b=true->AT C env vars gl own d (eval r2 env) m σ₃ λW σ₄=>AC2 C d (compareOp op2) Y W σ₄ P))
  (hm2:autoParam (behindInMarks op2 r2=false) auR):
  AT C env vars gl own d (eval (.Compare l [op,op2] [r,r2] p) env) m σ P:=λA G D s hA R=>by
 rw[arm_eval_Compare]
 have e0:markedEach [op,op2] [r,r2] (evalEach [r,r2] env)=[eval r env,markedBehindIn op2 r2 (eval r2 env)]:=rfl
 rw[e0,markedBehindIn_of_false hm2]
 refine wpAny_bind (h.run hA R λv s₁ X D₁ σ₁ a b c e=> ?_)
 show wpAny C.M A (do
  let rv <-holding [v] (eval r env)
  standAt p
  let c <-holding [v,rv] (compareOp op v rv)
  release [v,rv] [c]
  if<-holding [c,rv] (truthy c) then compareChain p rv [op2] [eval r2 env] else pure c) _ _ s₁
 refine wpAny_bind (wpAny_holding (e.run hA c λu s₂ Y D₂ σ₂ a' b' c' e'=>wpAny_bind (wpAny_standAt (wpAny_bind (wpAny_holding ?_)))))
 refine wpAny_mono (e'.inF hA c' (b.mono a'.sub) b') (λz s₃ hpp=> ?_) λ_ _ x=>x
 obtain⟨Z,D₃,σ₃,a₃,b₃,c₃,t,ht,h1,h2⟩:=hpp
 refine wpAny_bind (PyProof.Rows.wpAny_release' (wpAny_bind (wpAny_holding (ht.inF hA c₃ b₃ λtk=> ?_))))
 have dx3:=(a.trans a').trans a₃
 cases t with
 |false=>exact wpAny_pure ⟨Z,D₃,σ₃,dx3,b₃,c₃.tok tk,h1 rfl⟩
 |true=>
  show wpAny C.M A (do
   let rv <-holding [u] (eval r2 env)
   standAt p
   operate [u,rv] (compareOp op2 u rv)) _ _ _
  refine wpAny_bind (wpAny_holding ((h2 rfl).run hA (c₃.tok tk) λu2 s₄ W D₄ σ₄ a₄ b₄ c₄ e₄=>wpAny_bind (wpAny_standAt (wpAny_operating ?_))))
  exact z02 (dx3.trans a₄) (e₄.inF hA c₄ (b'.mono (a₃.trans a₄).sub) b₄)
variable {K:Bool->Sto->Prop}
theorem z9i{l r r2:Expr}{op op2:CmpOp}{p:Pos}{whole:Sem Value}(h:AT C env vars gl own d (eval l env) m σ λX σ₁=>AT C env vars gl own d (eval r env) m σ₁ λY σ₂=>AC2 C d (compareOp op) X Y σ₂ λZ σ₃=>
   ∃b,TR C d Z σ₃ b/\(b=false->K false σ₃)/\(b=true->AT C env vars gl own d (eval r2 env) m σ₃ λW σ₄=>AC2 C d (compareOp op2) Y W σ₄ λZ2 σ₅=>TRX C d Z2 σ₅ K))
  (hm2:autoParam (behindInMarks op2 r2=false) auR):
  AB C env vars gl own d (isTrue (.Compare l [op,op2] [r,r2] p) env whole) m σ K:=λA G D s hA R=>by
 rw[arm_isTrue_Compare]
 have e0:markedEach [op,op2] [r,r2] (evalEach [r,r2] env)=[eval r env,markedBehindIn op2 r2 (eval r2 env)]:=rfl
 rw[e0,markedBehindIn_of_false hm2]
 refine wpAny_bind (h.run hA R λv s₁ X D₁ σ₁ a b c e=> ?_)
 show wpAny C.M A (do
  let rv <-holding [v] (eval r env)
  standAt p
  let c <-holding [v,rv] (compareOp op v rv)
  release [v,rv] [c]
  if<-holding [c,rv] (truthy c) then testChain p rv [op2] [eval r2 env] else pure false) _ _ s₁
 refine wpAny_bind (wpAny_holding (e.run hA c λu s₂ Y D₂ σ₂ a' b' c' e'=>wpAny_bind (wpAny_standAt (wpAny_bind (wpAny_holding ?_)))))
 refine wpAny_mono (e'.inF hA c' (b.mono a'.sub) b') (λz s₃ hpp=> ?_) λ_ _ x=>x
 obtain⟨Z,D₃,σ₃,a₃,b₃,c₃,t,ht,h1,h2⟩:=hpp
 refine wpAny_bind (PyProof.Rows.wpAny_release' (wpAny_bind (wpAny_holding (ht.inF hA c₃ b₃ λtk=> ?_))))
 have dx3:=(a.trans a').trans a₃
 cases t with
 |false=>exact wpAny_pure ⟨D₃,σ₃,dx3,c₃.tok tk,h1 rfl⟩
 |true=>
  show wpAny C.M A (do
   let rv <-holding [u] (eval r2 env)
   standAt p
   let c <-operate [u,rv] (compareOp op2 u rv)
   holding [c] (truthy c)) _ _ _
  refine wpAny_bind (wpAny_holding ((h2 rfl).run hA (c₃.tok tk) λu2 s₄ W D₄ σ₄ a₄ b₄ c₄ e₄=>wpAny_bind (wpAny_standAt (wpAny_bind (wpAny_operating ?_)))))
  refine wpAny_mono (e₄.inF hA c₄ (b'.mono (a₃.trans a₄).sub) b₄) (λz s₅ hpp=> ?_) λ_ _ x=>x
  obtain⟨Z2,D₅,σ₅,a₅,b₅,c₅,t2,ht2,hk⟩:=hpp
  refine wpAny_holding (ht2.inF hA c₅ b₅ λtk2=> ?_)
  exact⟨D₅,σ₅,(dx3.trans a₄).trans a₅,c₅.tok tk2,hk⟩
noncomputable def z1x(x:Str):List V:=x.cps.toList.map λc=>V.str ⟨#[c]⟩
variable {Q:List V->(Sto->Prop)->Sto->Prop}
theorem y4x{iter tgt:Expr}(h:AT C env vars gl own d (eval iter env) m σ λX σ₁=>∃x,X= .str x/\Q (z1x x) (λ_=>True) σ₁):AI C env vars gl own d iter tgt m σ Q:=λA G D s hA R=>
 h.run hA R λv s₁ X D₁ σ₁ dx b c hpp=>by
  obtain⟨x,hX,q⟩:=hpp
  subst hX
  cases b with
  |str x t=>
   have rel:∀(i:Nat) v X,SignAt x i v->(z1x x)[i]? =some X->VR C.w D₁ v X:=by
    rintro i v X ⟨ch,u,hc,rfl⟩ hX
    have hc':x.cps.toList[i]? =some ch:=by simpa using hc
    simp only[z1x,List.getElem?_map,hc',Option.map_some,Option.some.injEq] at hX
    subst hX;exact .str _ _
   have len:x.cps.size=(z1x x).length:=by simp[z1x]
   have stay:∀h:Heap,y0H C D₁ (λ_=>True) h [s₁.heap.objs.size] [s₁.heap.objs.size]:=λh G' D' σ' s' R' hs hP' b hb hbw o' e'=>absurd hb hbw
   cases ha:x.cps.all (·<128)
   ·refine wpAny_pyIter_wide ha ⟨D₁,σ₁,_,λ_=>True,dx,⟨s₁.heap.objs.size,_,_,_,rfl,IW.ofWalks (Walks.strWide hA.h s₁.heap.objs.size x t) len rel ?_ ?_ ?_,⟨_,Heap.get?_push_size _ rfl,rfl,rfl⟩,c.push _,c.offNew (z0r #[] 0),trivial,stay _⟩,q⟩
    ·rintro i h ⟨o,ho,_⟩ a ha;simp at ha;subst ha;exact⟨_,ho⟩
    ·rintro b hb hbw h _ e;exact hbw hb
    ·rintro i h ⟨o,ho,hc,_⟩;exact⟨_,_,ho,hc,by decide⟩
   ·refine wpAny_pyIter_ascii ha ⟨D₁,σ₁,_,λ_=>True,dx,⟨s₁.heap.objs.size,_,_,_,rfl,IW.ofWalks (Walks.strAscii hA.h s₁.heap.objs.size x t) len rel ?_ ?_ ?_,⟨_,Heap.get?_push_size _ rfl,rfl,rfl⟩,c.push _,c.offNew (z0r #[] 0),trivial,stay _⟩,q⟩
    ·rintro i h ⟨o,ho,_⟩ a ha;simp at ha;subst ha;exact⟨_,ho⟩
    ·rintro b hb hbw h _ e;exact hbw hb
    ·rintro i h ⟨o,ho,hc,_⟩;exact⟨_,_,ho,hc,by decide⟩
end
end
section
class LkC (ns:List Str) (m:Loc) (x:Str) (X:outParam V):Prop where
 lk:Lk ns m x X
instance LkC.head {x:Str} {ns:List Str} {X:V} {m:Loc}:LkC (x::ns) (some X::m) x X:=⟨.head⟩
instance (priority:=low) LkC.tail {x y:Str} {ns:List Str} {X:V} {o:Option V} {m:Loc} [h:LkC ns m x X]:LkC (y::ns) (o::m) x X:=⟨.tail h.lk⟩
class PutC (ns:List Str) (m:Loc) (x:Str) (X:V) (m':outParam Loc):Prop where
 put:Put ns m x X m'
instance PutC.head {x:Str} {ns:List Str} {X:V} {o:Option V} {m:Loc}:PutC (x::ns) (o::m) x X (some X::m):=⟨.head⟩
instance (priority:=low) PutC.tail {x y:Str} {ns:List Str} {X:V} {o:Option V} {m m':Loc} [h:PutC ns m x X m']:PutC (y::ns) (o::m) x X (o::m'):=⟨.tail h.put⟩
class GInC (gl:List (Str×V)) (x:Str) (X:outParam V):Prop where
 mem:(x,X)∈gl
instance GInC.head {x:Str} {X:V} {r:List (Str×V)}:GInC ((x,X)::r) x X:=⟨List.mem_cons_self⟩
instance (priority:=low) GInC.tail {x:Str} {X:V} {p:Str×V} {r:List (Str×V)} [h:GInC r x X]:GInC (p::r) x X:=⟨List.mem_cons_of_mem _ h.mem⟩
section
variable {C:Cx} {env:Env} {vars:List Str} {gl:List (Str×V)} {own:Bool} {d:Nat} {m m':Loc} {σ σ':Sto}
variable {A:Around} {G D D₀ D₁:Gh} {s:Shared} {Q:V->Sto->Prop}
theorem PartV.is2{w:World}{x:V}{o:Option Int}(h:PartV x o){v:Value}(hv:VR w D v x):∃l:Option (Int×Tok),v=partValue l/\l.map (·.1)=o:=by
 cases h with
 |none=>rw[VR.noneI hv];exact⟨Option.none,rfl,rfl⟩
 |int i=>apply VR.intE hv;intro _;exact⟨Option.some (_,_),rfl,rfl⟩
theorem z4T{x:Str}{L U:V}{lo hi:Option Int}(hL:PartV L lo)(hU:PartV U hi)(hl:x.length<=sizeLine)(q:Q (.str (Txt.slice x lo hi)) σ):SubR C d (.str x) (.slc L U .none) σ Q:=λA G D s o v hA R ho hv=>by
 obtain⟨_,rfl⟩:=VR.strI ho
 obtain⟨_,_,_,_,rfl,e,h1,h2,h3⟩:=VR.slcI hv
 ·skip
  obtain rfl:=VR.noneI h3
  obtain⟨l,rfl,rfl⟩:=hL.is2 h1
  obtain⟨u,rfl,rfl⟩:=hU.is2 h2
  refine⟨"str",_,typeIs_str _ _ _,F.slot_str_getitem.lookup,wpAny_getItem_str_slice (l:=l) (u:=u) (st:=none) ⟨_,R.d _ _ e,rfl,rfl⟩ rfl (post_val_or_str ⟨?_,λt' k=> ?_⟩)⟩
  ·exact Nat.le_trans (Txt.slice_le x _ _) hl
  ·exact PostC.now (R.tok k) (.str _ _) q
theorem y5F{w:World}{vs:List Value}{xs:List Str}(h:VRs w D vs (xs.map V.str)):∃l:List (Str×Tok),vs=strValues l/\l.map (·.1)=xs:=by
 induction xs generalizing vs with
 |nil=>rw[VRs.nilI h];exact⟨[],rfl,rfl⟩
 |cons x xs ih=>
  apply VRs.consE h;intro _ _ h1 h2
  apply VR.strE h1;intro t
  obtain⟨l,rfl,e⟩:=ih h2
  exact⟨(x,t)::l,rfl,by rw[List.map_cons,e]⟩
theorem y3P{x:V}{sep:Str}{xs:List Str}{P:Sto->Prop}(h:Has σ x (.list (xs.map V.str)) P)(hok:JoinOk sep xs=true)(q:Q (.str (Txt.join sep xs)) σ):KW C d (.bi "str.join") [.str sep,x] σ Q:=λA G D s v vs hA R hv hs=>by
 apply VR.biE hv
 apply VRs.consE hs;intro _ _ h1 h2
 ·skip
  apply VRs.consE h2;intro _ _ h3 h4
  ·skip
   apply VRs.nilE h4;apply VR.strE h1;intro _
   apply Has.isLE h R h3;intro a ws hL hr
   obtain⟨l,e,e2⟩:=y5F hr
   have:ws=(strValues l).toArray:=by rw[<-e]
   rw[this] at hL
   exact SC.join hL e2 hok λt' k=>PostC.now (R.tok k) (.str _ _) q
theorem z0n{x:Str}{p:Pos}{X:V}[h:LkC vars m x X](q:Q X σ):AT C env vars gl own d (eval (.Name x p) env) m σ Q:=z78 h.lk q
theorem z1s{x:Str}{p:Pos}{X:V}[h:GInC gl x X](q:Q X σ):AT C env vars gl own d (eval (.Name x p) env) m σ Q:=z1J h.mem q
theorem z2t{x:Str}{X:V}{m':Loc}{K:Loc->Prop}[h:PutC vars m x X m'](k:K m'):∃m',Put vars m x X m'/\K m':=⟨m',h.put,k⟩
theorem y2E{x y:Expr}{r:List Expr}{p:Pos}(h:AT C env vars gl own d (eval x env) m σ λX σ₁=>∃b,TR C d X σ₁ b/\(b=true->AT C env vars gl own d (boolOp p .And (evalEach (y::r) env)) m σ₁ Q)/\(b=false->Q X σ₁)):
  AT C env vars gl own d (boolOp p .And (evalEach (x::y::r) env)) m σ Q:=y4p h
theorem y4M{x y:Expr}{r:List Expr}{p:Pos}(h:AT C env vars gl own d (eval x env) m σ λX σ₁=>∃b,TR C d X σ₁ b/\(b=true->Q X σ₁)/\(b=false->AT C env vars gl own d (boolOp p .Or (evalEach (y::r) env)) m σ₁ Q)):
  AT C env vars gl own d (boolOp p .Or (evalEach (x::y::r) env)) m σ Q:=y48 h
theorem y1e{x:Expr}{p:Pos}(h:AT C env vars gl own d (eval x env) m σ Q):AT C env vars gl own d (boolOp p .And (evalEach [x] env)) m σ Q:=h
theorem y2P{x:Expr}{p:Pos}(h:AT C env vars gl own d (eval x env) m σ Q):AT C env vars gl own d (boolOp p .Or (evalEach [x] env)) m σ Q:=h
variable {QS:Fl->Loc->Sto->Prop} {rest:List Stmt} {X:V}
theorem z13{K:V->Sto->Prop}(q:K .none σ):APart C env vars gl own d none m σ K:=q
theorem z1X{e:Expr}{K:V->Sto->Prop}(q:AT C env vars gl own d (eval e env) m σ K):APart C env vars gl own d (some e) m σ K:=q
theorem GL_nil:∀p∈([]:List (Str×V)),z0f C p.1 p.2:=λp h=>by cases h
theorem z0a{x:Str}{X:V}{r:List (Str×V)}(h:z0f C x X)(t:∀p∈r,z0f C p.1 p.2):∀p∈(x,X)::r,z0f C p.1 p.2:=λp hp=>by
 rcases List.mem_cons.mp hp with rfl|hp
 ·exact h
 ·exact t p hp
theorem z2f{n:String}:z0g C (.bi n):=trivial
theorem z0R{n:String}:z0g C (.type n):=trivial
theorem z0d{K:W.Frag}(H:K.In C.base){a:Addr}{o:Obj}{fd:FuncData}(e1:K.lookup a=some o)(e2:o.data= .func fd):z0g C (.ref a):=⟨o,fd,H a o e1,e2⟩
theorem fnc{a:Addr}{xs:List V}(h:CW C d (.ref a) xs σ Q):KW C d (.ref a) xs σ Q:=z5j h
theorem z0u{sc:Scope}{env env':Env}{x:Str}(hsc:env'.scope=relabel sc env)(h:sc.names.lookup x=some .local):env'.kindOf x=some .local:=by
 show env'.scope.names.lookup x=some .local
 rw[hsc];exact lookup_relabel_local h
section
variable {x:Str} {pp:Pos} {caps:List Str} {elt c:Expr} {ms:Loc} {P:Sto->Prop} {Z:List V->Sto->Prop}
theorem z2a{f:V->V}(hk:env.kindOf x=some .local)(hP:P σ)(xs:List V):
  ∀(acc:List V) (o:Option V),(∀X∈xs,∀K:V->Sto->Prop,K (f X) σ->AT C env (x::caps) gl false d (eval elt env) (some X::ms) σ K)->Z (acc++xs.map f) σ->
   z0S C env (x::caps) gl d (.Name x pp) elt [] P Z xs acc (o::ms) σ:=by
 induction xs with
 |nil=>intro acc o _ q;simpa[z0S] using q
 |cons X xs ih=>
  intro acc o h q
  refine z0w Put.head ?_ (.inr hk)
  refine⟨λ_=>h X (.head _) _ ⟨hP,ih (acc++[f X]) (some X) (λY hY=>h Y (.tail _ hY)) (by simpa using q)⟩,λe=>by cases e⟩
theorem z1z{f:V->V}{t:V->Bool}(hk:env.kindOf x=some .local)(hP:P σ)(xs:List V):
  ∀(acc:List V) (o:Option V),(∀X∈xs,∀K:Bool->Sto->Prop,K (t X) σ->AB C env (x::caps) gl false d (isTrue c env (eval c env)) (some X::ms) σ K)->
   (∀X∈xs,t X=true->∀K:V->Sto->Prop,K (f X) σ->AT C env (x::caps) gl false d (eval elt env) (some X::ms) σ K)->Z (acc++(xs.filter t).map f) σ->
   z0S C env (x::caps) gl d (.Name x pp) elt [c] P Z xs acc (o::ms) σ:=by
 induction xs with
 |nil=>intro acc o _ _ q;simpa[z0S] using q
 |cons X xs ih=>
  intro acc o ht h q
  refine z0w Put.head ?_ (.inr hk)
  refine ht X (.head _) _ ⟨λe=>h X (.head _) e _ ⟨hP,ih (acc++[f X]) (some X) (λY hY=>ht Y (.tail _ hY)) (λY hY=>h Y (.tail _ hY)) ?_⟩,λe=>⟨hP,ih acc (some X) (λY hY=>ht Y (.tail _ hY)) (λY hY=>h Y (.tail _ hY)) ?_⟩⟩
  ·simpa[List.filter_cons,e] using q
  ·simpa[List.filter_cons,e] using q
theorem z8G{R:V->V->Prop}(hk:env.kindOf x=some .local)(hP:P σ)(xs:List V):
  ∀(acc:List V) (o:Option V),(∀X∈xs,∀K:V->Sto->Prop,(∀Y,R X Y->K Y σ)->AT C env (x::caps) gl false d (eval elt env) (some X::ms) σ K)->
   (∀ys:List V,ys.length=xs.length->(∀y∈ys,∃X∈xs,R X y)->Z (acc++ys) σ)->z0S C env (x::caps) gl d (.Name x pp) elt [] P Z xs acc (o::ms) σ:=by
 induction xs with
 |nil=>intro acc o _ q;simpa[z0S] using q [] rfl (λy hy=>by cases hy)
 |cons X xs ih=>
  intro acc o h q
  refine z0w Put.head ?_ (.inr hk)
  refine⟨λ_=>h X (.head _) _ λY hY=>⟨hP,ih (acc++[Y]) (some X) (λY hY=>h Y (.tail _ hY)) λys hl hys=> ?_⟩,λe=>by cases e⟩
  have:=q (Y::ys) (by simp[hl]) (λy hy=>by
   rcases List.mem_cons.mp hy with rfl|hy
   ·exact⟨X,.head _,hY⟩
   ·obtain⟨Z,h1,h2⟩:=hys y hy;exact⟨Z,.tail _ h1,h2⟩)
  simpa using this
end
section
variable {elt tgt iter:Expr} {ifs:List Expr} {scope:Scope} {pos p' p:Pos} {y:Str} {ms:Loc} {QS:Fl->Loc->Sto->Prop}
theorem z1u(x:Str)(caps:List Str)(gl':List (Str×V))
  (hok:z14 scope env.scope vars [x] caps (gl'.map (·.1))=true) (hgl:∀p∈gl',z0f C p.1 p.2) (hcaps:Caps vars m caps ms)
  (h:AI C env vars gl own d iter tgt m σ λxs Pp σ₁=>xs.length<=sizeLine/\∀env',env'.scope=relabel scope env->
   z0S C env' (x::caps) gl' d tgt elt ifs Pp (λys σ₂=>Q (.lst ys) σ₂) xs [] (none::ms) σ₁)
  (hs:autoParam (∀x,foldedSetIterable iter env x=pure x) auF):
  AT C env vars gl own d (eval (.ListComp elt [⟨tgt,iter,ifs,0⟩] scope pos) env) m σ Q:=z77 [x] caps gl' hok hgl hcaps h hs
theorem z1e(x:Str)(caps:List Str)(gl':List (Str×V))
  (hsw:swapsWith (.ListComp elt [⟨tgt,iter,ifs,0⟩] scope pos) (some (.Name y p')) p.line env=pure true)
  (hok:z14 scope env.scope vars [x] caps (gl'.map (·.1))=true) (hgl:∀p∈gl',z0f C p.1 p.2) (hcaps:Caps vars m caps ms)
  (h:AI C env vars gl own d iter tgt m σ λxs Pp σ₁=>xs.length<=sizeLine/\∀env',env'.scope=relabel scope env->
   z0S C env' (x::caps) gl' d tgt elt ifs Pp (λys σ₂=>∃m',Put vars m y (.lst ys) m'/\QS .next m' σ₂) xs [] (none::ms) σ₁)
  (hown:autoParam (own=true) auR) (hs:autoParam (∀x,foldedSetIterable iter env x=pure x) auF):
  AS C env vars gl own d (exec (.Assign [.Name y p'] (.ListComp elt [⟨tgt,iter,ifs,0⟩] scope pos) p) env) m σ QS:=z5u [x] caps gl' hsw hok hgl hcaps h hown hs
theorem z2B(x:Str)(caps:List Str)(gl':List (Str×V))
  (hsw:swapsWith (.ListComp elt [⟨tgt,iter,ifs,0⟩] scope pos) (some (.Name y p')) p.line env=pure true)
  (hok:z14 scope env.scope vars [x] caps (gl'.map (·.1))=true) (hgl:∀p∈gl',z0f C p.1 p.2) (hcaps:Caps vars m caps ms)
  (h:AI C env vars gl own d iter tgt m σ λxs Pp σ₁=>xs.length<=sizeLine/\∀env',env'.scope=relabel scope env->
   z0S C env' (x::caps) gl' d tgt elt ifs Pp (λys σ₂=>∀a o,∃m',Put vars m y (.ref a) m'/\QS .next m' ((a,o,.list ys)::σ₂)) xs [] (none::ms) σ₁)
  (hown:autoParam (own=true) auR) (hs:autoParam (∀x,foldedSetIterable iter env x=pure x) auF):
  AS C env vars gl own d (exec (.Assign [.Name y p'] (.ListComp elt [⟨tgt,iter,ifs,0⟩] scope pos) p) env) m σ QS:=z5w [x] caps gl' hsw hok hgl hcaps h hown hs
end
theorem z0Z{Xs:List V}(q:Q (.lst Xs) σ):NLq Q Xs σ:=Or.inl q
theorem y5P{Xs:List V}(q:∀a o,Q (.ref a) ((a,o,.list Xs)::σ)):NLq Q Xs σ:=Or.inr q
theorem z8L{n:Int}(h:n.natAbs<2^64):n.natAbs.log2<1920:=by
 by_cases h0:n.natAbs=0
 ·rw[h0];decide
 ·exact Nat.lt_of_lt_of_le ((Nat.log2_lt h0).mpr h) (by decide)
theorem y4i{a b:Bool}(q:Q (.bool (a==b)) σ):AC2 C d (compareOp .Is) (.bool a) (.bool b) σ Q:=λA G D s v u hA R hv hu=>by
 apply VR.boolE hv;apply VR.boolE hu
 exact wpAny_bind (m:=isSame (.bool a) (.bool b)) (wpAny_pure (wpAny_pure (PostC.now R (z88 a b▸ .bool _) q)))
theorem z96{a b:Bool}(q:Q (.bool (!(a==b))) σ):AC2 C d (compareOp .IsNot) (.bool a) (.bool b) σ Q:=λA G D s v u hA R hv hu=>by
 apply VR.boolE hv;apply VR.boolE hu
 exact wpAny_bind (m:=isSame (.bool a) (.bool b)) (wpAny_pure (wpAny_pure (PostC.now R (z88 a b▸ .bool _) q)))
theorem z0t{n:Nat}(h:n<=100000):n<=sizeLine:=Nat.le_trans h (by decide)
theorem qB{a b:Bool}(q:Q (.bool a) σ)(e:a=b):Q (.bool b) σ:=e▸q
theorem z2p{xs:List V}{lo hi st:Option Int}:∀x∈slL xs lo hi st,x∈xs:=λx h=>by
 unfold slL at h
 obtain⟨i,_,e⟩:=List.mem_filterMap.mp h
 exact List.mem_of_getElem? e
theorem y4c{a b:Int}{n:Nat}(h0:0<=a)(h1:b<=n):(sliceRange a b 1).length<=n:=by
 unfold sliceRange
 rw[List.length_map,List.length_range,if_pos (by decide)]
 split
 ·rw[Int.ediv_one];lia
 ·exact Nat.zero_le _
theorem y5g(l u:Option Int)(n:Nat):(sliceRange (sliceBounds l u none n).1 (sliceBounds l u none n).2.1 (sliceBounds l u none n).2.2).length<=n:=by
 refine y4c ?_ ?_
 ·cases l with
  |none=>exact Int.le_refl 0
  |some i=>exact Int.le_max_left 0 _
 ·cases u with
  |none=>exact Int.le_refl _
  |some i=>exact Int.max_le.mpr ⟨Int.natCast_nonneg n,Int.min_le_right _ _⟩
theorem z6G{xs:List V}{lo hi:Option Int}:(slL xs lo hi none).length<=xs.length:=by
 unfold slL
 exact Nat.le_trans (List.length_filterMap_le _ _) (y5g _ _ _)
end
end
section
structure KK(prog:Program)(w:World)(K:Type)[DecidableEq K] where
 knd:KeyKind prog w K
 v:K->V
 isOf:∀{D:Gh} {x:Value} {k:K},VR w D x (v k)->knd.is k x=true
 ofIs:∀{D:Gh} {x:Value} {k:K},knd.is k x=true->VR w D x (v k)
 hashOf:∀{k:K} {h:Int},KH w (v k) h->h=knd.hash k
 ofHash:∀{k:K},KH w (v k) (knd.hash k)
 part:∀{D:Gh} {x:Value} {k:K},VR w D x (v k)->(keyPart x).isSome=true
noncomputable def KK.int(prog:Program)(w:World):KK prog w Int where
 knd:=intKind prog w
 v:=V.int
 isOf:=λh=>by apply VR.intE h;intro _;exact beq_self_eq_true _
 ofIs:=λ{D x k} h=>by obtain⟨t,rfl⟩:=Value.isInt_shape (show Value.isInt k x=true from h);exact .int _ _
 hashOf:=λh=>h
 ofHash:=rfl
 part:=λh=>by apply VR.intE h;intro _;rfl
noncomputable def KK.str(prog:Program)(w:World):KK prog w Str where
 knd:=strKind prog w
 v:=V.str
 isOf:=λh=>by apply VR.strE h;intro _;exact beq_self_eq_true _
 ofIs:=λ{D x k} h=>by obtain⟨t,rfl⟩:=Value.isStrOf_shape (show Value.isStrOf k x=true from h);exact .str _ _
 hashOf:=λh=>h
 ofHash:=rfl
 part:=λh=>by apply VR.strE h;intro _;rfl
section
variable {C:Cx} {d:Nat} {σ:Sto} {Q:V->Sto->Prop} {G D:Gh} {s:Shared} {A:Around} {K:Type} [DecidableEq K]
noncomputable def z00(kk:KK C.prog C.w K)(kvs:List (K×V)):List (V×V):=kvs.map λp=>(kk.v p.1,p.2)
inductive KR(w:World)(D:Gh):List (K×Value)->List (K×V)->Prop
 |nil:KR w D [] []
 |cons {k:K} {v:Value} {x:V} {l:List (K×Value)} {r:List (K×V)}:VR w D v x->KR w D l r->KR w D ((k,v)::l) ((k,x)::r)
theorem KR.keys{w:World}{l:List (K×Value)}{r:List (K×V)}(h:KR w D l r):l.map (·.1)=r.map (·.1):=by
 induction h with
 |nil=>rfl
 |cons _ _ ih=>simp[ih]
theorem KR.length{w:World}{l:List (K×Value)}{r:List (K×V)}(h:KR w D l r):l.length=r.length:=by
 induction h with
 |nil=>rfl
 |cons _ _ ih=>simp[ih]
theorem VRd.pairs(kk:KK C.prog C.w K){es:List DictEntry}{kvs:List (K×V)}(h:VRd C.w D es (z00 kk kvs)):
  ∃cvs,Pairs kk.knd es cvs/\KR C.w D cvs kvs/\∀e∈es,∃k,kk.knd.is k e.key=true/\e.hash=kk.knd.hash k:=by
 induction kvs generalizing es with
 |nil=>rw[VRd.nilI h];exact⟨[],.nil,.nil,λ_ h=>by cases h⟩
 |cons p kvs ih=>
  obtain⟨e,r,rfl,h1,h2,h3,h4⟩:=VRd.consI h
  obtain⟨cvs,p1,q,r⟩:=ih h4
  refine⟨(p.1,e.val)::cvs,.cons (kk.isOf h2) rfl p1,.cons h3 q,λe' he=> ?_⟩
  rcases List.mem_cons.mp he with rfl|he
  ·exact⟨_,kk.isOf h2,kk.hashOf h1⟩
  ·exact r e' he
theorem VRd.ofPairs(kk:KK C.prog C.w K){es:List DictEntry}{cvs:List (K×Value)}{kvs:List (K×V)}(p:Pairs kk.knd es cvs)(q:KR C.w D cvs kvs)(r:∀e∈es,∃k,kk.knd.is k e.key=true/\e.hash=kk.knd.hash k):
  VRd C.w D es (z00 kk kvs):=by
 induction q generalizing es with
 |nil=>cases p;exact .nil
 |cons h1 _ ih=>
  cases p with
  | @cons e _ es _ p1 p2 p3=>
   obtain⟨k',i1,i2⟩:=r e (.head _)
   have ek:=kk.knd.inj _ _ _ i1 p1
   subst ek
   exact .cons (by rw[i2];exact kk.ofHash) (kk.ofIs p1) (by rw[p2];exact h1) (ih p3 λe he=>r e (.tail _ he))
theorem Has.isD(kk:KK C.prog C.w K){x:V}{kvs:List (K×V)}{P:Sto->Prop}(h:Has σ x (.dict (z00 kk kvs)) P)(hn:(kvs.map (·.1)).Nodup)(R:RelC C G D σ s){v:Value}(hv:VR C.w D v x):
  ∃a cvs,v= .ref a/\s.heap.DictOf kk.knd a cvs/\KR C.w D cvs kvs:=by
 obtain⟨a,o,rfl,ho,⟨es,n,rfl,hr⟩,_⟩:=h.run R hv
 obtain⟨cvs,p,q,r⟩:=VRd.pairs kk hr
 exact⟨a,cvs,rfl,⟨_,es,n,ho,⟨rfl,rfl,rfl⟩,rfl,λe he=>r e (by simpa using he),p,by rw[q.keys];exact hn⟩,q⟩
inductive DcH(C:Cx)(kk:KK C.prog C.w K)(D:Gh)(s:Shared)(a:Addr)(kvs:List (K×V)):Prop
 |mk (cvs:List (K×Value)):s.heap.DictOf kk.knd a cvs->KR C.w D cvs kvs->DcH C kk D s a kvs
theorem RelC.dcH(R:RelC C G D σ s)(kk:KK C.prog C.w K){kvs:List (K×V)}{a:Addr}{o:Obj}(hm:(a,o,AO.dict (z00 kk kvs))∈σ)(hn:(kvs.map (·.1)).Nodup):DcH C kk D s a kvs:=by
 obtain⟨b,cvs,e,hD,hk⟩:=(Has.refD hm).isD kk hn R (.ref a)
 cases e
 exact⟨cvs,hD,hk⟩
noncomputable def vAt(kvs:List (K×V))(k:K):Option V:=(kvs.find? λp=>p.1=k).map (·.2)
theorem KR.at{w:World}{l:List (K×Value)}{r:List (K×V)}(h:KR w D l r)(k:K):
  (valueAt l k=none/\vAt r k=none)∨∃v x,valueAt l k=some v/\vAt r k=some x/\VR w D v x:=by
 induction h with
 |nil=>exact .inl ⟨rfl,rfl⟩
 | @cons k' v x l r hv _ ih=>
  by_cases e:k'=k
  ·exact .inr ⟨v,x,by simp[valueAt,e],by simp[vAt,e],hv⟩
  ·have e1:valueAt ((k',v)::l) k=valueAt l k:=by simp[valueAt,List.find?_cons,e]
   have e2:vAt ((k',x)::r) k=vAt r k:=by simp[vAt,List.find?_cons,e]
   rw[e1,e2];exact ih
theorem y0I(kk:KK C.prog C.w K){x X:V}{kvs:List (K×V)}{k:K}{P:Sto->Prop}(h:Has σ x (.dict (z00 kk kvs)) P)(hn:(kvs.map (·.1)).Nodup)(hx:vAt kvs k=some X)(q:Q X σ):SubR C d x (kk.v k) σ Q:=λA G D s o v hA R ho hv=>by
 obtain⟨a,cvs,rfl,hD,hk⟩:=h.isD kk hn R ho
 rcases hk.at k with⟨_,e⟩|⟨u,Y,e1,e2,hu⟩
 ·rw[hx] at e;cases e
 ·rw[hx] at e2;cases e2
  exact⟨"dict",_,hD.typeIs,slot_dict_getitem.lookup,wpAny_getItem_of (kk.isOf hv) hD.mapOf e1 (PostC.now (R.tok _) hu q)⟩
noncomputable def z0K(C:Cx):Prop:=∃o,C.base.get? sysModules=some o
theorem RelC.notSys(R:RelC C G D σ s)(hs:z0K C){a:Addr}{o:Obj}{x:AO}(hm:(a,o,x)∈σ):(a==sysModules)=false:=by
 obtain⟨ob,hb⟩:=hs
 cases e:a==sysModules with
 |false=>rfl
 |true=>
  have:a=sysModules:=by simpa using e
  have h1:=R.offG a (z4d hm)
  rw[this,R.base _ _ hb] at h1;cases h1
theorem y3r(kk:KK C.prog C.w K){a:Addr}{o:Obj}{kvs:List (K×V)}{k:K}(hs:z0K C)(hm:(a,o,AO.dict (z00 kk kvs))∈σ)(hn:(kvs.map (·.1)).Nodup)(q:Q (.bool (vAt kvs k).isSome) σ):
  AC2 C d (compareOp .In) (kk.v k) (.ref a) σ Q:=λA G D s v u hA R hv hu=>by
 obtain⟨b,cvs,e,hD,hk⟩:=(Has.refD hm).isD kk hn R hu
 obtain rfl:=VR.refI hu;cases e
 refine wpAny_in_of (kk.isOf hv) (R.notSys hs hm) hD.mapOf ?_
 have:(valueAt cvs k).isSome=(vAt kvs k).isSome:=by
  rcases hk.at k with⟨e1,e2⟩|⟨_,_,e1,e2,_⟩<;>rw[e1,e2]<;>rfl
 rw[this]
 exact PostC.now (R.tok _) (.bool _) q
end
end
section
section
variable {C:Cx} {env:Env} {vars:List Str} {gl:List (Str×V)} {own:Bool} {d:Nat} {m m':Loc} {σ:Sto} {σ':Obj->Sto} {Q:V->Sto->Prop} {G D:Gh} {s:Shared} {A:Around} {K:Type} [DecidableEq K]
set_option tactic.hygienic true in
theorem z7V{a:Addr}{o:Obj}{xs:List V}{X:V}(U:∀o',Upd a o (.list xs) o' (.list (xs++[X])) σ (σ' o'))(hl:xs.length<=sizeLine)(q:∀o',Q .none (σ' o')):
  KW C d (.bi "list.append") [.ref a,X] σ Q:=λA G D s v vs hA R hv hs=>by
 obtain rfl:=VR.biI hv
 obtain⟨_,_,rfl,h1,h2⟩:=VRs.consI hs
 ·skip
  obtain⟨_,_,rfl,h3,h4⟩:=VRs.consI h2
  ·skip
   obtain rfl:=VRs.nilI h4;obtain rfl:=VR.refI h1
   have hm:(a,o,AO.list xs)∈σ:=by obtain⟨u,w,e,_⟩:=(U o).split;rw[e];simp
   obtain⟨ws,n,rfl,hr⟩:=R.sto _ hm
   have ho:s.heap.get? a=some (z0r ws n):=R.pl _ hm
   have hz0:True:=trivial
   have hz:ws.size=xs.length:=by rw[<-hr.length];simp
   refine PyProof.Rows.append_at (its:=ws) (n:=n) ho (λh' hs' ho'=> ?_) (by rw[hz];exact hl)
   rename_i y
   refine⟨.none,D,σ' (z0r (ws.push y) (n+1)),DX.refl _ _,.none,?_,q _⟩
   have:=R.upd (U (z0r (ws.push y) (n+1))) s.toks (z0J _ _) hs' rfl ho' ⟨_,_,rfl,by simpa using hr.append (.cons h3 .nil)⟩
   exact this
noncomputable def z2c(kvs:List (K×V))(k:K)(x:V):List (K×V):=if kvs.any (λkv=>kv.1=k) then kvs.map (λkv=>if kv.1=k then(kv.1,x) else kv) else kvs++[(k,x)]
theorem KR.append{w:World}{l l':List (K×Value)}{r r':List (K×V)}(h:KR w D l r)(h':KR w D l' r'):KR w D (l++l') (r++r'):=by
 induction h with
 |nil=>exact h'
 |cons hv _ ih=>exact .cons hv ih
theorem KR.map{w:World}{l:List (K×Value)}{r:List (K×V)}(h:KR w D l r){k:K}{v:Value}{x:V}(hv:VR w D v x):
  KR w D (l.map λkv=>if kv.1=k then(kv.1,v) else kv) (r.map λkv=>if kv.1=k then(kv.1,x) else kv):=by
 induction h with
 |nil=>exact .nil
 | @cons k' u y l r hu _ ih=>
  simp only[List.map_cons]
  by_cases e:k'=k
  ·rw[if_pos e,if_pos e];exact .cons hv ih
  ·rw[if_neg e,if_neg e];exact .cons hu ih
theorem KR.any{w:World}{l:List (K×Value)}{r:List (K×V)}(h:KR w D l r)(k:K):(l.any λkv=>kv.1=k)=(r.any λkv=>kv.1=k):=by
 induction h with
 |nil=>rfl
 |cons _ _ ih=>simp only[List.any_cons,ih]
theorem KR.stored{w:World}{l:List (K×Value)}{r:List (K×V)}(h:KR w D l r){k:K}{v:Value}{x:V}(hv:VR w D v x):KR w D (PySem.stored l k v) (z2c r k x):=by
 unfold PySem.stored z2c
 rw[h.any k]
 split
 ·exact h.map hv
 ·exact h.append (.cons hv .nil)
theorem HR.ofDict(kk:KK C.prog C.w K){h:Heap}{a:Addr}{cvs:List (K×Value)}{kvs:List (K×V)}(hD:h.DictOf kk.knd a cvs)(hk:KR C.w D cvs kvs):
  ∃o,h.get? a=some o/\HR C.w D o (.dict (z00 kk kvs)):=by
 obtain⟨o,es,ep,ho,⟨hc,hd,hsl⟩,hdat,hks,hp,_⟩:=hD
 have eo:o=z1T es ep:=by cases o;simp_all
 exact⟨o,ho,es,ep,eo,VRd.ofPairs kk hp hk λe he=>hks e (by simpa using he)⟩
theorem z61(kk:KK C.prog C.w K){a:Addr}{o:Obj}{kvs:List (K×V)}{k:K}{X:V}{key v:Value}{Z:Unit->Shared->Prop}{E:Value->Shared->Prop}(U:∀o',Upd a o (.dict (z00 kk kvs)) o' (.dict (z00 kk (z2c kvs k X))) σ (σ' o'))(hn:(kvs.map (·.1)).Nodup)(hl:kvs.length<=sizeLine)
  (R:RelC C G D σ s) (hkey:VR C.w D key (kk.v k)) (hv:VR C.w D v X) (q:∀o' s',RelC C G D (σ' o') s'->Z () s'):wpAny C.M A (setItem (.ref a) key v) Z E s:=by
 have hm:(a,o,AO.dict (z00 kk kvs))∈σ:=by obtain⟨u,w,e,_⟩:=(U o).split;rw[e];simp
 obtain⟨cvs,hD,hk⟩:=RelC.dcH R kk hm hn
 refine wpAny_setItem_pairs (kk.isOf hkey) hD (λh' hD' hs'=> ?_) (by rw[hk.length];exact hl)
 obtain⟨o',ho',hr'⟩:=HR.ofDict kk hD' (hk.stored hv)
 exact q o' _ (R.upd (U o') (s.toks+1) (z0J _ _) hs' rfl ho' hr')
end
end
section
section
variable {C:Cx} {env:Env} {vars:List Str} {gl:List (Str×V)} {own:Bool} {d:Nat} {m m':Loc} {σ:Sto} {σ':Obj->Sto} {Q:V->Sto->Prop} {G D:Gh} {s:Shared} {A:Around} {K:Type} [DecidableEq K]
theorem y4E(kk:KK C.prog C.w K){a:Addr}{o:Obj}{kvs:List (K×V)}{k:K}{X:V}(hs:z0K C)(hm:(a,o,AO.dict (z00 kk kvs))∈σ)(hn:(kvs.map (·.1)).Nodup)(q:Q ((vAt kvs k).getD X) σ):
  KW C d (.bi "dict.get") [.ref a,kk.v k,X] σ Q:=λA G D s v vs hA R hv hss=>by
 apply VR.biE hv
 apply VRs.consE hss;intro _ _ h1 h2
 ·skip
  apply VRs.consE h2;intro _ _ h3 h4
  ·skip
   cases h4 with
   |cons h5 h6=>
    cases h6;apply VR.refE h1
    obtain⟨cvs,hD,hk⟩:=RelC.dcH R kk hm hn
    refine call_meetsIn F.slot_dict_get hD.typeIs F.entry_dict_get (F.args_dict_get_3 _ _ _) (meets_dict_get_default kk.knd a (kk.isOf h3) (R.notSys hs hm) _) ⟨_,hD.mapOf,?_⟩
    rcases hk.at k with⟨e1,e2⟩|⟨_,_,e1,e2,hu⟩
    ·rw[e1];rw[e2] at q;exact PostC.now (R.tok _) h5 q
    ·rw[e1];rw[e2] at q;exact PostC.now (R.tok _) hu q
theorem y3X(kk:KK C.prog C.w K){a:Addr}{o:Obj}{kvs:List (K×V)}{k:K}(hs:z0K C)(hm:(a,o,AO.dict (z00 kk kvs))∈σ)(hn:(kvs.map (·.1)).Nodup)(q:Q ((vAt kvs k).getD .none) σ):
  KW C d (.bi "dict.get") [.ref a,kk.v k] σ Q:=λA G D s v vs hA R hv hss=>by
 apply VR.biE hv
 apply VRs.consE hss;intro _ _ h1 h2
 ·skip
  apply VRs.consE h2;intro _ _ h3 h4
  ·skip
   apply VRs.nilE h4;apply VR.refE h1
   obtain⟨cvs,hD,hk⟩:=RelC.dcH R kk hm hn
   refine call_meetsIn F.slot_dict_get hD.typeIs F.entry_dict_get (F.args_dict_get_2 _ _) (meets_dict_get kk.knd a (kk.isOf h3) (R.notSys hs hm)) ⟨_,hD.mapOf,?_⟩
   rcases hk.at k with⟨e1,e2⟩|⟨_,_,e1,e2,hu⟩
   ·rw[e1];rw[e2] at q;exact PostC.now (R.tok _) .none q
   ·rw[e1];rw[e2] at q;exact PostC.now (R.tok _) hu q
noncomputable def z2H(kvs:List (K×V))(k:K):List (K×V):=kvs.filter λkv=>decide (kv.1≠k)
theorem KR.without{w:World}{l:List (K×Value)}{r:List (K×V)}(h:KR w D l r)(k:K):KR w D (PySem.without l k) (z2H r k):=by
 unfold PySem.without z2H
 induction h with
 |nil=>exact .nil
 | @cons k' u y l r hu _ ih=>
  by_cases e:k'=k
  ·simpa[List.filter_cons,e] using ih
  ·simpa[List.filter_cons,e] using KR.cons hu ih
noncomputable def SetR(C:Cx)(d:Nat)(x i v:V)(σ:Sto)(P:Sto->Prop):Prop:=
 ∀A G D s o k u,AOk A d->RelC C G D σ s->VR C.w D o x->VR C.w D k i->VR C.w D u v->wpAny C.M A (setItem o k u) (λ_ s'=>∃D' σ',DX G D D'/\RelC C G D' σ' s'/\P σ') (λ_ _=>False) s
theorem z5g(kk:KK C.prog C.w K){a:Addr}{o:Obj}{kvs:List (K×V)}{k:K}{X:V}{P:Sto->Prop}(U:∀o',Upd a o (.dict (z00 kk kvs)) o' (.dict (z00 kk (z2c kvs k X))) σ (σ' o'))(hn:(kvs.map (·.1)).Nodup)(hl:kvs.length<=sizeLine)(q:∀o',P (σ' o')):
  SetR C d (.ref a) (kk.v k) X σ P:=λA G D s o k' u hA R ho hk hu=>by
 cases ho
 exact z61 kk U hn hl R hk hu λo' s' R'=>⟨D,_,DX.refl _ _,R',q o'⟩
variable {QS:Fl->Loc->Sto->Prop}
theorem y1S{o i value:Expr}{p' p:Pos}(h:AT C env vars gl own d (eval value env) m σ λX σ₁=>AT C env vars gl own d (eval o env) m σ₁ λY σ₂=>AT C env vars gl own d (eval i env) m σ₂ λI σ₃=>SetR C d Y I X σ₃ λσ₄=>QS .next m σ₄)
  (hs:autoParam (swapsWith value (some (.Subscript o i p')) p.line env=pure false) auR):AS C env vars gl own d (exec (.Assign [.Subscript o i p'] value p) env) m σ QS:=λA G D s hA R=>
 wpAny_Assign_Subscript (h.run hA R λv s₁ X D₁ σ₁ a b c e=>e.run hA c λu s₂ Y D₂ σ₂ a' b' c' e'=>e'.run hA c' λw s₃ I D₃ σ₃ a₃ b₃ c₃ e₃=>
  wpAny_mono (e₃ A _ D₃ s₃ u w v hA c₃.lifted (b'.mono a₃.sub) b₃ (b.mono (a'.trans a₃).sub)) (λ_ s₄ hpp=>by obtain⟨D₄,σ₄,dx,R₄,q⟩:=hpp;exact⟨.next,m,D₄,σ₄,((a.trans a').trans a₃).trans (c₃.dx dx),trivial,c₃.back R₄ dx,q⟩) λ_ _ e=>e) hs
end
end
section
section
variable {C:Cx} {env:Env} {vars:List Str} {gl:List (Str×V)} {own:Bool} {d:Nat} {m m':Loc} {σ:Sto} {QS:Fl->Loc->Sto->Prop}
theorem y20{test:Expr}{body:List Stmt}{p:Pos}(I:Nat->Loc->Sto->Prop)
  (turn:∀n m σ,I n m σ->AB C env vars gl own d (isTrue test env (eval test env)) m σ λb σ₁=>
   (b=true->AS C env vars gl own d (execs body env) m σ₁ λfl m₂ σ₂=>match fl with
    | .next=>∃k,k<n/\I k m₂ σ₂
    | .cont=>∃k,k<n/\I k m₂ σ₂
    | .brk=>QS .next m₂ σ₂
    | .ret v=>QS (.ret v) m₂ σ₂)/\(b=false->QS .next m σ₁))
  (n:Nat) (h:I n m σ):AS C env vars gl own d (exec (.While test body [] p) env) m σ QS:=λA G D s hA R=>by
 refine wpAny_While (codeAny_whileLoop (λn s'=>∃m' D' σ',DX G D D'/\RelF C env vars gl own G D' m' σ' s'/\I n m' σ') ?_ n ⟨m,D,σ,DX.refl _ _,R,h⟩)
 rintro n s' ⟨m',D',σ',dx,R',hI⟩
 refine wpAny_mono ((turn n m' σ' hI).run hA R' λb s₁ D₁ σ₁ a c e=> ?_) (λ_ _ e=>e) λ_ _ e=>e.elim
 cases b with
 |true=>
  rw[if_pos rfl]
  refine wpAny_mono ((e.1 rfl).run hA c λf s₂ fl m₂ D₂ σ₂ a₂ hfl R₂ q=> ?_) (λ_ _ e=>e) λ_ _ e=>e.elim
  have dx2:=(dx.trans a).trans a₂
  cases f<;>cases fl<;>first|exact hfl.elim|skip
  ·obtain⟨k,hk,hI'⟩:=q;exact⟨k,hk,m₂,D₂,σ₂,dx2,R₂,hI'⟩
  ·exact⟨.next,m₂,D₂,σ₂,dx2,trivial,R₂,q⟩
  ·obtain⟨k,hk,hI'⟩:=q;exact⟨k,hk,m₂,D₂,σ₂,dx2,R₂,hI'⟩
  ·exact⟨.ret _,m₂,D₂,σ₂,dx2,hfl,R₂,q⟩
 |false=>
  rw[if_neg (by decide)]
  exact wpAny_execs_nil ⟨.next,m',D₁,σ₁,dx.trans a,trivial,c,e.2 rfl⟩
theorem y2h{test:Expr}{body:List Stmt}{p:Pos}(I:Nat->Loc->Sto->Prop)
  (turn:∀n m σ,I n m σ->∀QB:Fl->Loc->Sto->Prop,(∀k m σ,k<n->I k m σ->QB .next m σ)->AB C env vars gl own d (isTrue test env (eval test env)) m σ λb σ₁=>
   (b=true->AS C env vars gl own d (execs body env) m σ₁ QB)/\(b=false->QS .next m σ₁))
  (n:Nat) (h:I n m σ):AS C env vars gl own d (exec (.While test body [] p) env) m σ QS:=
 y20 I (λn m σ hI=>turn n m σ hI _ λk m σ hk hI=>⟨k,hk,hI⟩) n h
end
end
section
theorem M_append:MethIs "list" "append" "list.append":=⟨F.plainAttrs_list,F.slot_list_append,F.type_list_append⟩
theorem M_lpop:MethIs "list" "pop" "list.pop":=⟨F.plainAttrs_list,F.slot_list_pop,F.type_list_pop⟩
theorem M_lclear:MethIs "list" "clear" "list.clear":=⟨F.plainAttrs_list,F.slot_list_clear,F.type_list_clear⟩
theorem M_get:MethIs "dict" "get" "dict.get":=⟨F.plainAttrs_dict,F.slot_dict_get,F.type_dict_get⟩
theorem M_pop:MethIs "dict" "pop" "dict.pop":=⟨F.plainAttrs_dict,F.slot_dict_pop,F.type_dict_pop⟩
theorem M_setdefault:MethIs "dict" "setdefault" "dict.setdefault":=⟨F.plainAttrs_dict,F.slot_dict_setdefault,F.type_dict_setdefault⟩
theorem M_update:MethIs "dict" "update" "dict.update":=⟨F.plainAttrs_dict,F.slot_dict_update,F.type_dict_update⟩
theorem M_clear:MethIs "dict" "clear" "dict.clear":=⟨F.plainAttrs_dict,F.slot_dict_clear,F.type_dict_clear⟩
section
variable {C:Cx} {env:Env} {vars:List Str} {gl:List (Str×V)} {own:Bool} {d:Nat} {m m':Loc} {σ:Sto} {σ':Obj->Sto} {Q:V->Sto->Prop} {G D:Gh} {s:Shared} {A:Around} {K:Type} [DecidableEq K]
theorem y2g(kk:KK C.prog C.w K){a:Addr}{o:Obj}{kvs:List (K×V)}{k:K}{X:V}(U:∀o',Upd a o (.dict (z00 kk kvs)) o' (.dict (z00 kk (z2H kvs k))) σ (σ' o'))(hn:(kvs.map (·.1)).Nodup)(hl:kvs.length<=sizeLine)(hx:vAt kvs k=some X)(q:∀o',Q X (σ' o')):
  KW C d (.bi "dict.pop") [.ref a,kk.v k] σ Q:=λA G D s v vs hA R hv hss=>by
 apply VR.biE hv
 apply VRs.consE hss;intro _ _ h1 h2
 ·skip
  apply VRs.consE h2;intro _ _ h3 h4
  ·skip
   apply VRs.nilE h4;apply VR.refE h1
   have hm:(a,o,AO.dict (z00 kk kvs))∈σ:=by obtain⟨u,w,e,_⟩:=(U o).split;rw[e];simp
   obtain⟨cvs,hD,hk⟩:=RelC.dcH R kk hm hn
   rcases hk.at k with⟨_,e2⟩|⟨u,Y,e1,e2,hu⟩
   ·rw[hx] at e2;cases e2
   ·rw[hx] at e2;cases e2
    refine call_meetsIn F.slot_dict_pop hD.typeIs F.entry_dict_pop (F.args_dict_pop_2 _ _) (meets_dict_pop_there kk.knd a (kk.isOf h3) [] (.inl rfl) (kk.part h3)) ⟨cvs,u,hD,by rw[hk.length];exact hl,e1,λh' hD' hs'=> ?_⟩
    obtain⟨o',ho',hr'⟩:=HR.ofDict kk hD' (hk.without k)
    exact⟨X,D,σ' o',DX.refl _ _,hu,R.upd (U o') (s.toks+1) (z0J _ _) hs' rfl ho' hr',q o'⟩
end
end
section
section
variable {C:Cx} {env:Env} {vars:List Str} {gl:List (Str×V)} {own:Bool} {d:Nat} {m m':Loc} {σ:Sto} {σ':Obj->Sto} {Q:V->Sto->Prop} {G D:Gh} {s:Shared} {A:Around} {K:Type} [DecidableEq K]
variable {QI:List V->(Sto->Prop)->Sto->Prop}
theorem z9c(kk:KK C.prog C.w K){iter tgt:Expr}(hsys:z0K C)(h:AT C env vars gl own d (eval iter env) m σ λX σ₁=>∃a o kvs,X= .ref a/\(a,o,AO.dict (z00 kk kvs))∈σ₁/\(kvs.map (·.1)).Nodup/\QI (kvs.map λp=>kk.v p.1) (λσ'=>(a,o,AO.dict (z00 kk kvs))∈σ') σ₁):
  AI C env vars gl own d iter tgt m σ QI:=λA G D s hA R=>
 h.run hA R λv s₁ X D₁ σ₁ dx b c hpp=>by
  obtain⟨ax,o,kvs,hX,hm,hn,q⟩:=hpp
  subst hX
  obtain⟨_,ob,e,ho,⟨es,n,rfl,hr⟩,hP,hst⟩:=(Has.refD hm).run c.toRelC b
  obtain rfl:=VR.refI b;cases e
  obtain⟨cvs,p,kr,r⟩:=VRd.pairs kk hr
  have hD:s₁.heap.DictAt kk.knd ax cvs n:=⟨_,es,ho,⟨rfl,rfl,rfl⟩,rfl,λe he=>r e (by simpa using he),p,by rw[kr.keys];exact hn⟩
  have hne:ax≠s₁.heap.objs.size:=Nat.ne_of_lt (Heap.lt_size ho)
  refine wpAny_pyIter_dict (c.toRelC.notSys hsys hm) hD ⟨D₁,σ₁,_,_,dx,⟨s₁.heap.objs.size,_,_,_,rfl,IW.two (Walks.dictKeys (knd:=kk.knd) hA.h s₁.heap.objs.size ax hne cvs n) (by rw[kr.length];simp) ?_ (λi h st=>by obtain⟨⟨o,ho,hc,_⟩,_⟩:=st;exact⟨o,_,ho,hc,by decide⟩) (λh st=>by obtain⟨_,o,_,ho,_⟩:=st;exact⟨o,ho⟩),⟨⟨_,Heap.get?_push_size _ rfl,rfl,rfl⟩,hD.push _⟩,c.push _,c.offNew (z0r #[] 0),hP,z9z ho hst⟩,q⟩
  ·rintro i u X ⟨k,x,hx,hk⟩ hX
   have e1:(cvs.map (·.1))[i]? =some k:=by rw[List.getElem?_map,hx];rfl
   rw[kr.keys,List.getElem?_map] at e1
   rw[List.getElem?_map] at hX
   cases e3:kvs[i]? with
   |none=>rw[e3] at e1;cases e1
   |some p=>
    rw[e3] at e1 hX
    simp only[Option.map_some,Option.some.injEq] at e1 hX
    subst hX;rw[e1];exact kk.ofIs hk
theorem y0z(kk:KK C.prog C.w K){a:Addr}{o:Obj}{kvs:List (K×V)}(hs:z0K C)(hm:(a,o,AO.dict (z00 kk kvs))∈σ)(hn:(kvs.map (·.1)).Nodup)(hl:kvs.length<=sizeLine)(q:Q (.int kvs.length) σ):
  KW C d (.bi "len") [.ref a] σ Q:=λA G D s v vs hA R hv hss=>by
 apply VR.biE hv
 apply VRs.consE hss;intro _ _ h1 h2
 ·skip
  apply VRs.nilE h2;apply VR.refE h1
  obtain⟨cvs,hD,hk⟩:=RelC.dcH R kk hm hn
  refine call_len_dict (R.notSys hs hm) hD (by rw[hk.length];have:kvs.length<=16777216:=hl;lia) ?_
  rw[hk.length];exact PostC.now (R.tok _) (.int _ _) q
end
end
section
section
variable {C:Cx} {env:Env} {vars:List Str} {gl:List (Str×V)} {own:Bool} {d:Nat} {m m':Loc} {σ:Sto} {KA:Loc->Sto->Prop}
noncomputable def AAs(C:Cx)(env:Env)(vars:List Str)(gl:List (Str×V))(own:Bool)(d:Nat)(ts:List (Value->Sem Unit))(xs:List V)(m:Loc)(σ:Sto)(KA:Loc->Sto->Prop):Prop:=
 ∀A G D s vs,AOk A d->RelF C env vars gl own G D m σ s->VRs C.w D vs xs->wpAny C.M A (assignInOrder ts vs) (PostU C env vars gl own G D KA) (λ_ _=>False) s
theorem z9u(k:KA m σ):AAs C env vars gl own d [] [] m σ KA:=λA G D s vs hA R hv=>by
 apply VRs.nilE hv
 show wpAny C.M A (assignInOrder [] []) _ _ s
 exact wpAny_pure ⟨m,D,σ,DX.refl _ _,R,k⟩
set_option tactic.hygienic true in
theorem z2N{t:Value->Sem Unit}{ts:List (Value->Sem Unit)}{x:V}{xs:List V}(h:AA C env vars gl own d t x m σ λm₁ σ₁=>AAs C env vars gl own d ts xs m₁ σ₁ KA):AAs C env vars gl own d (t::ts) (x::xs) m σ KA:=λA G D s vs hA R hv=>by
 cases hv with
 |cons h1 h2=>
  rename_i v vs
  have key:wpAny C.M A (t v) (λ_ s'=>wpAny C.M A (assignInOrder ts vs) (PostU C env vars gl own G D KA) (λ_ _=>False) s') (λ_ _=>False) s:=
   wpAny_mono (h A G D s v hA R h1) (λ_ s' hpp=>by obtain⟨m₁,D₁,σ₁,dx,R₁,q⟩:=hpp;exact wpAny_mono (q A G D₁ s' vs hA R₁ (h2.mono dx.sub)) (λ_ _ p=>p.weak dx) λ_ _ e=>e) λ_ _ e=>e
  exact wpAny_bind (wpAny_holding key)
theorem y16{elts:List Expr}{k:Nat}{p:Pos}{xs:List V}(hn:(assignEach elts env).length=xs.length)(hstar:(assignEach elts env).findIdx? (·.1)=none)(h:AAs C env vars gl own d ((assignEach elts env).map (·.2)) xs m σ KA):
  AA C env vars gl own d (assign (.Tuple elts k p) env) (.tup xs) m σ KA:=λA G D s v hA R hv=>by
 apply VR.isTE R.toRelC hv;intro a ws _ hT hr
 refine wpAny_assign_Tuple hA.h hT (by rw[hn,<-hr.length];simp) hstar λh' he=> ?_
 have R':RelF C env vars gl own G D m σ {s with heap:=h'}:=by
  have:=R.keepBut (h':=h') s.toks (R.offNew (z0r #[] 0)) λb o hb e=>he b o (by simpa using hb) e
  exact this
 exact h A G D _ _ hA R' hr
variable {QS:Fl->Loc->Sto->Prop}
theorem y0i{x y:Expr}{X Y:V}(h:AA C env vars gl own d (assign x env) X m σ λm₁ σ₁=>AA C env vars gl own d (assign y env) Y m₁ σ₁ KA){k:Nat}{p:Pos}
  (hn:autoParam ((assignEach [x,y] env).map (·.2)=[assign x env,assign y env]) auR) (hstar:autoParam ((assignEach [x,y] env).findIdx? (·.1)=none) auR):
  AA C env vars gl own d (assign (.Tuple [x,y] k p) env) (.tup [X,Y]) m σ KA:=by
 refine y16 (by have:=congrArg List.length hn;simpa using this) hstar ?_
 rw[hn]
 refine z2N λA G D s v hA R hv=>wpAny_mono (h A G D s v hA R hv) (λ_ s' hpp=>by obtain⟨m₁,D₁,σ₁,dx,R₁,q⟩:=hpp;exact⟨m₁,D₁,σ₁,dx,R₁,z2N λA G D s v hA R hv=>wpAny_mono (q A G D s v hA R hv) (λ_ s' hpp=>by obtain⟨m₁,D₁,σ₁,dx,R₁,q⟩:=hpp;exact⟨m₁,D₁,σ₁,dx,R₁,z9u q⟩) λ_ _ e=>e⟩) λ_ _ e=>e
theorem y5b{x y z:Expr}{X Y Z:V}(h:AA C env vars gl own d (assign x env) X m σ λm₁ σ₁=>AA C env vars gl own d (assign y env) Y m₁ σ₁ λm₂ σ₂=>AA C env vars gl own d (assign z env) Z m₂ σ₂ KA){k:Nat}{p:Pos}
  (hn:autoParam ((assignEach [x,y,z] env).map (·.2)=[assign x env,assign y env,assign z env]) auR) (hstar:autoParam ((assignEach [x,y,z] env).findIdx? (·.1)=none) auR):
  AA C env vars gl own d (assign (.Tuple [x,y,z] k p) env) (.tup [X,Y,Z]) m σ KA:=by
 refine y16 (by have:=congrArg List.length hn;simpa using this) hstar ?_
 rw[hn]
 refine z2N λA G D s v hA R hv=>wpAny_mono (h A G D s v hA R hv) (λ_ s' hpp=>by obtain⟨m₁,D₁,σ₁,dx,R₁,q⟩:=hpp;exact⟨m₁,D₁,σ₁,dx,R₁,z2N λA G D s v hA R hv=>wpAny_mono (q A G D s v hA R hv) (λ_ s' hpp=>by obtain⟨m₁,D₁,σ₁,dx,R₁,q⟩:=hpp;exact⟨m₁,D₁,σ₁,dx,R₁,z2N λA G D s v hA R hv=>wpAny_mono (q A G D s v hA R hv) (λ_ s' hpp=>by obtain⟨m₁,D₁,σ₁,dx,R₁,q⟩:=hpp;exact⟨m₁,D₁,σ₁,dx,R₁,z9u q⟩) λ_ _ e=>e⟩) λ_ _ e=>e⟩) λ_ _ e=>e
end
end
section
section
variable {C:Cx} {env:Env} {vars:List Str} {gl:List (Str×V)} {own:Bool} {d:Nat} {m m':Loc} {σ:Sto} {σ':Obj->Sto} {Q:V->Sto->Prop} {QS:Fl->Loc->Sto->Prop} {K:Type} [DecidableEq K]
theorem z5Q{t value:Expr}{p:Pos}(h:AT C env vars gl own d (eval value env) m σ λX σ₁=>AA C env vars gl own d (assign t env) X m σ₁ λm₂ σ₂=>QS .next m₂ σ₂)
  (he:autoParam ((assignEach [t] env).map (·.2)=[assign t env]) auR) (hs:autoParam (swapsWithSole [t] value p.line env=pure false) auR)
  (hw:autoParam (swappedStores [t] value env=pure none) auR):AS C env vars gl own d (exec (.Assign [t] value p) env) m σ QS:=λA G D s hA R=>by
 refine wpAny_Assign_stores (h.run hA R λv s₁ X D₁ σ₁ a b c e=> ?_) hs hw
 rw[he]
 show wpAny C.M A (assign t env v) _ _ s₁
 exact wpAny_mono (e A G D₁ s₁ v hA c b) (λ_ s₂ hpp=>by obtain⟨m₂,D₂,σ₂,dx,R₂,q⟩:=hpp;exact⟨.next,m₂,D₂,σ₂,a.trans dx,trivial,R₂,q⟩) λ_ _ x=>x
theorem z6A(kk:KK C.prog C.w K){a:Addr}{o:Obj}{kvs:List (K×V)}{k:K}{X:V}(hs:z0K C)(U:∀o',Upd a o (.dict (z00 kk kvs)) o' (.dict (z00 kk (z2c kvs k X))) σ (σ' o'))(hn:(kvs.map (·.1)).Nodup)(hl:kvs.length<=sizeLine)
  (q1:∀Y,vAt kvs k=some Y->Q Y σ) (q2:vAt kvs k=none->∀o',Q X (σ' o')):
  KW C d (.bi "dict.setdefault") [.ref a,kk.v k,X] σ Q:=λA G D s v vs hA R hv hss=>by
 apply VR.biE hv
 apply VRs.consE hss;intro _ _ h1 h2
 ·skip
  apply VRs.consE h2;intro _ _ h3 h4
  ·skip
   cases h4 with
   |cons h5 h6=>
    cases h6;apply VR.refE h1
    have hm:(a,o,AO.dict (z00 kk kvs))∈σ:=by obtain⟨u,w,e,_⟩:=(U o).split;rw[e];simp
    obtain⟨cvs,hD,hk⟩:=RelC.dcH R kk hm hn
    refine call_meetsIn F.slot_dict_setdefault hD.typeIs F.entry_dict_setdefault (F.args_dict_setdefault_3 _ _ _) (kt_meets_setdefault kk.knd a (kk.isOf h3) (R.notSys hs hm) _) ⟨cvs,hD,by rw[hk.length];exact hl,λu hu=> ?_,λhnone h' hD' hs'=> ?_⟩
    ·rcases hk.at k with⟨e1,e2⟩|⟨u',Y,e1,e2,hY⟩
     ·rw[hu] at e1;cases e1
     ·rw[hu] at e1;cases e1;exact PostC.now (R.tok _) hY (q1 Y e2)
    ·rcases hk.at k with⟨e1,e2⟩|⟨u',Y,e1,e2,hY⟩
     ·obtain⟨o',ho',hr'⟩:=HR.ofDict kk hD' (hk.stored h5)
      exact⟨X,D,σ' o',DX.refl _ _,h5,R.upd (U o') (s.toks+1) (z0J _ _) hs' rfl ho' hr',q2 e2 o'⟩
     ·rw[hnone] at e1;cases e1
end
end
section
theorem FR.look{w:World}{D:Gh}{name:Str}:∀{es:List DictEntry} {fs:List (Str×V)},FR w D es fs->
  (es.any (·.refKey)=false)/\((fs.lookup name=none/\es.find? (·.key.isStr name)=none)∨∃e x,fs.lookup name=some x/\es.find? (·.key.isStr name)=some e/\VR w D e.val x)
 |[],[],_=>⟨rfl,.inl ⟨rfl,rfl⟩⟩
 |e::es,(n,x)::fs,⟨⟨t,hk⟩,_,hv,hr⟩=>by
  obtain⟨h1,h2⟩:=FR.look (name:=name) hr
  have hrk:e.refKey=false:=by unfold DictEntry.refKey;rw[hk]
  refine⟨by rw[List.any_cons,hrk,h1];rfl,?_⟩
  by_cases en:name=n
  ·subst en
   exact .inr ⟨e,x,by simp[List.lookup],by rw[List.find?_cons,hk];simp[Value.isStr],hv⟩
  ·have e1:(e.key.isStr name)=false:=by rw[hk];simp[Value.isStr];exactλh=>en h.symm
   have e2:(name==n)=false:=by simpa using en
   rw[List.lookup_cons,e2,List.find?_cons,e1]
   exact h2
 |[],_::_,h=>h.elim
 |_::_,[],h=>h.elim
section
variable {C:Cx} {env:Env} {vars:List Str} {gl:List (Str×V)} {own:Bool} {d:Nat} {m m':Loc} {σ:Sto} {P:V->Sto->Prop} {G D:Gh} {s:Shared}
theorem z4S{x c dx:Addr}{o:Obj}{fs:List (Str×V)}(R:RelC C G D σ s)(hm:(x,o,AO.inst c dx fs)∈σ):W.InstAt s.heap x (y0V c dx) c (some o):=by
 obtain⟨h1,h2⟩:=R.pl _ hm
 exact⟨h1,rfl,rfl,h2⟩
structure MethAt(C:Cx)(K:W.Frag)(c:Addr)(name:Str)(f:Addr):Prop where
 kin:K.In C.base
 ga:W.findIn K (.ref c) "__getattribute__"=some (some (.builtin "object.__getattribute__"))
 gk:W.findIn K (.ref c) "__getattr__"=some none
 fn:W.findIn K (.ref c) name=some (some (.ref f))
 ty:W.typeIn K (.ref f)=some (.type "function")
 cal:z0g C (.ref f)
theorem y0s{K:W.Frag}{c f:Addr}{o e:Expr}{rest:List Expr}{name:Str}{ap p:Pos}(hM:MethAt C K c name f)
  (h:AT C env vars gl own d (eval o env) m σ λX σ₁=>∃x ob dx fs,X= .ref x/\(x,ob,AO.inst c dx fs)∈σ₁/\fs.lookup name=none/\AL C env vars gl own d (spliced (backTo p (starEach (e::rest) env))) m σ₁ λXs σ₂=>KW C d (.ref f) (.ref x::Xs) σ₂ P)
  (hbase:autoParam (attributeBase o name env (eval o env)=eval o env) auR) (hline:autoParam ((ap.endLine==p.line)=true) auR)
  (he:autoParam (starEach (e::rest) env=(false,eval e env)::starEach rest env) auR) (hplain:autoParam ((backTo p (starEach rest env)).any (·.1)=false) auR)
  (hfew:autoParam (((backTo p (starEach (e::rest) env)).all (λx=> !x.1)&&(backToKw p (keywordEach [] env)).all (λx=>x.1.isSome)&&decide ((e::rest).length+([]:List Keyword).length+(if([]:List Keyword).isEmpty then 0 else 1)<30))=true) auR):
  AT C env vars gl own d (eval (.Call (.Attribute o name ap) (e::rest) [] p) env) m σ P:=λA G D s hA R=>by
 rw[arm_eval_Call,hbase]
 refine wpAny_bind (h.run hA R λv s₁ X D₁ σ₁ a b c₁ hpp=> ?_)
 obtain⟨x,ob,dx,fs,hX,hm,hsh,hk⟩:=hpp
 subst hX
 apply VR.refE b
 refine wpAny_bind (wpAny_standAt ?_)
 have hform:methodCallForm ((e::rest).length+([]:List Keyword).length) (backTo p (starEach (e::rest) env)) (backToKw p (keywordEach [] env))=true:=hfew
 have hpos:methodCallPos true o env ap p=pure p:=by unfold methodCallPos;simp[hline]
 unfold methodCall
 rw[hform]
 obtain⟨es,n,rfl,hr⟩:=c₁.sto _ hm
 have hl:=(FR.look (name:=name) hr)
 have hshadow:W.shadowIn (some (z1T es n)) name=some false:=by
  unfold W.shadowIn W.lookIn
  rcases hl.2 with⟨_,e2⟩|⟨_,_,e1,_,_⟩
  ·simp[e2,hl.1]
  ·rw[hsh] at e1;cases e1
 refine wpAny_bind (wpAny_holding (W.method_fn (hM.kin.keeps c₁.toRelC.baseIn) (z4S c₁.toRelC hm) hM.ga hM.gk hM.fn hM.ty hshadow ?_))
 refine wpAny_bind (wpAny_of_eq hpos ?_)
 rw[he] at hk⊢
 refine z1n (F:= .ref f) hM.cal (.ref f) (D:=D₁) hplain (Calls.evalArgs_plain (AL.run hk hA c₁ λvs s₂ Xs D₂ σ₂ a' b' c' q=>⟨c'.toRelC.baseIn,z02 (a.trans a') (q.inF hA c' (.ref f) (.cons (.ref x) b'))⟩))
end
end
section
section
variable {C:Cx} {env:Env} {vars:List Str} {gl:List (Str×V)} {own:Bool} {d:Nat} {m m':Loc} {σ:Sto} {P:V->Sto->Prop} {G D:Gh} {s:Shared}
structure AttrAt(C:Cx)(K:W.Frag)(c:Addr)(name:Str):Prop where
 kin:K.In C.base
 ga:W.findIn K (.ref c) "__getattribute__"=some (some (.builtin "object.__getattribute__"))
 cls:∃cd,W.clsIn K c=some cd/\cd.hasDict=true
 nf:W.findIn K (.ref c) name=some none
theorem y4b{w:World}{D:Gh}{v:Value}{x:V}(h:VR w D v x)(hx:∀n,x≠ .bi n):W.handedIn v=true:=by
 cases h<;>first|rfl|exact absurd rfl (hx _)
theorem y2B{K:W.Frag}{c:Addr}{o:Expr}{name:Str}{p:Pos}(hM:AttrAt C K c name)
  (h:AT C env vars gl own d (eval o env) m σ λX σ₁=>∃x ob dx fs Y,X= .ref x/\(x,ob,AO.inst c dx fs)∈σ₁/\fs.lookup name=some Y/\(∀n,Y≠ .bi n)/\P Y σ₁)
  (hbase:autoParam (attributeBase o name env (eval o env)=eval o env) auR) (ht:∀u r,letTemporaryGo o u r=pure ():=by intro _ _;with_unfolding_all exact rfl):
  AT C env vars gl own d (eval (.Attribute o name p) env) m σ P:=λA G D s hA R=>by
 rw[arm_eval_Attribute,hbase]
 refine wpAny_bind (h.run hA R λv s₁ X D₁ σ₁ a b c₁ hpp=> ?_)
 obtain⟨x,ob,dx,fs,Y,hX,hm,hl,hnb,q⟩:=hpp
 subst hX
 apply VR.refE b
 refine wpAny_bind (wpAny_standAt (wpAny_bind (wpAny_holding ?_)))
 obtain⟨es,n,rfl,hr⟩:=c₁.sto _ hm
 have hL:=FR.look (name:=name) hr
 rcases hL.2 with⟨e1,_⟩|⟨e,Z,e1,e2,hv⟩
 ·rw[hl] at e1;cases e1
 rw[hl] at e1;cases e1
 obtain⟨cd,hc1,hc2⟩:=hM.cls
 have hlook:W.lookIn name (z1T es n)=some (some e.val):=by unfold W.lookIn;simp[e2]
 have hf:W.findObj K c (some (z1T es n)) name=some (.value e.val):=by
  unfold W.findObj W.ownOf
  rw[hc1,hM.nf]
  simp[hc2,hlook]
 refine W.get_value (hM.kin.keeps c₁.toRelC.baseIn) (z4S c₁.toRelC hm) hM.ga hf (y4b hv hnb) ?_
 rw[ht]
 exact wpAny_bind (wpAny_pure (wpAny_pure ⟨Y,D₁,σ₁,a,hv,c₁.tok _,q⟩))
end
end
section
noncomputable def At(σ:Sto)(a:Addr)(x:AO):Prop:=∃o,(a,o,x)∈σ
theorem At.cons{σ:Sto}{a:Addr}{x:AO}(p:Addr×Obj×AO)(h:At σ a x):At (p::σ) a x:=let⟨o,e⟩:=h;⟨o,.tail _ e⟩
theorem At.hd{σ:Sto}{a:Addr}{o:Obj}{x:AO}:At ((a,o,x)::σ) a x:=⟨o,.head _⟩
structure UpdS(σ σ':Sto)(a:Addr)(x:AO):Prop where
 here:At σ' a x
 keep:∀p∈σ,p.1≠a->p∈σ'
theorem UpdS.at{σ σ':Sto}{a b:Addr}{x y:AO}(U:UpdS σ σ' a x)(h:At σ b y)(hne:b≠a):At σ' b y:=let⟨o,e⟩:=h;⟨o,U.keep _ e hne⟩
noncomputable def Fresh(σ:Sto)(a:Addr):Prop:=∀p∈σ,p.1≠a
theorem Fresh.ne{σ:Sto}{a b:Addr}{x:AO}(h:Fresh σ a)(hb:At σ b x):b≠a:=let⟨o,e⟩:=hb;h _ e
theorem UpdS.new{σ:Sto}{a:Addr}{o:Obj}{x:AO}:UpdS σ ((a,o,x)::σ) a x:=⟨.hd,λp h _=> .tail _ h⟩
theorem UpdS.trans{σ σ' σ'':Sto}{a:Addr}{x y:AO}(h:UpdS σ σ' a x)(h':UpdS σ' σ'' a y):UpdS σ σ'' a y:=⟨h'.here,λp hp hn=>h'.keep p (h.keep p hp hn) hn⟩
theorem Upd.updS{a:Addr}{o o':Obj}{x x':AO}{σ σ':Sto}(U:Upd a o x o' x' σ σ'):UpdS σ σ' a x':=by
 obtain⟨u,v,rfl,rfl⟩:=U.split
 refine⟨⟨o',by simp⟩,λp hp hn=> ?_⟩
 rcases List.mem_append.mp hp with h|h
 ·exact List.mem_append_left _ h
 ·rcases List.mem_cons.mp h with rfl|h
  ·exact absurd rfl hn
  ·exact List.mem_append_right _ (.tail _ h)
theorem At.upd{σ:Sto}{a:Addr}{x:AO}(h:At σ a x)(x':AO):∃(o:Obj) (σ':Obj->Sto),(∀o':Obj,Upd a o x o' x' σ (σ' o'))/\∀o':Obj,UpdS σ (σ' o') a x':=by
 obtain⟨o,h⟩:=h
 obtain⟨u,v,rfl⟩:=List.append_of_mem h
 exact⟨o,λo'=>u++(a,o',x')::v,λo'=>Upd.app u .head,λo'=>(Upd.app u .head).updS⟩
section
variable {C:Cx} {env:Env} {vars:List Str} {gl:List (Str×V)} {own:Bool} {d:Nat} {m m':Loc} {σ:Sto} {Q:V->Sto->Prop} {QS:Fl->Loc->Sto->Prop} {G D:Gh} {s:Shared} {A:Around} {K:Type} [DecidableEq K]
theorem z1t{σ:Sto}{p:Addr×Obj×AO}(h:p∈σ):p.1∈foot σ:=z4d (a:=p.1) (ob:=p.2.1) (o:=p.2.2) h
theorem RelC.fresh(R:RelC C G D σ s):Fresh σ s.heap.objs.size:=λp hp e=>R.new_notFoot (e▸z1t hp)
theorem z03{a:Addr}{xs:List V}(h:CW C d (.ref a) xs σ λx σ'=>∃τ,τ.Sublist σ'/\Q x τ):CW C d (.ref a) xs σ Q:=λA G D s vs hA R hv=>
 codeAny_mono (h A G D s vs hA R hv) λr s' q=>by
  cases r with
  |error e=>exact q
  |ok f=>
   cases f<;>first|exact q.elim|skip
   obtain⟨x,D',σ',dx,hx,R',τ,hs,q⟩:=q
   exact⟨x,D',τ,dx,hx,R'.drop hs,q⟩
theorem z2J{p:Pos}(q:∀a o,Fresh σ a->Q (.ref a) ((a,o,.dict [])::σ)):AT C env vars gl own d (eval (.Dict [] [] p) env) m σ Q:=λA G D s hA R=>by
 refine wpAny_Dict_empty ⟨.ref _,D,_,DX.refl _ _,.ref _,R.back (R.lifted.newM (z1T #[] 0) (.dict []) ⟨#[],0,rfl,.nil⟩ rfl (λ_ _=>rfl)) (DX.refl _ _),q _ _ R.toRelC.fresh⟩
theorem z5k{es:List Expr}{p:Pos}(h:AL C env vars gl own d (spliced (backTo p (starEach es env))) m σ λXs σ₁=>Xs.length<=sizeLine/\∀a o,Fresh σ₁ a->Q (.ref a) ((a,o,.list Xs)::σ₁)):
  AT C env vars gl own d (eval (.List es p) env) m σ Q:=λA G D s hA R=>
 wpAny_List (h.run hA R λvs s₁ Xs D₁ σ₁ a b c hpp=>by obtain⟨hl,q⟩:=hpp;exact⟨by rw[b.length];exact hl,⟨.ref _,D₁,_,a,.ref _,c.newL b,q _ _ c.toRelC.fresh⟩⟩)
noncomputable def NLf(P:V->Sto->Prop)(Xs:List V)(σ:Sto):Prop:=P (.lst Xs) σ∨∀a o,Fresh σ a->P (.ref a) ((a,o,.list Xs)::σ)
theorem z7u(h:Heap):h.get? h.objs.size=none:=by
 cases e:h.get? h.objs.size with
 |none=>rfl
 |some o=>exact absurd (Heap.lt_size e) (Nat.lt_irrefl _)
theorem RelC.madeL(R:RelC C G D σ s){h':Heap}{t:Nat}{a:Addr}{vs:Array Value}{n:Nat}{Xs:List V}(hk:∀b o,s.heap.get? b=some o->h'.get? b=some o)(ha:s.heap.get? a=none)(ho:h'.get? a=some (z0r vs n))(h:VRs C.w D vs.toList Xs)(q:NLf Q Xs σ):
  PostC C G D Q (.ref a) {s with heap:=h',toks:=t}:=by
 have R':=R.keep t hk
 have hG:G a=none:=by
  cases e:G a with
  |none=>rfl
  |some o=>rw[R.g _ _ e] at ha;cases ha
 have hD:D a=none:=by
  cases e:D a with
  |none=>rfl
  |some o=>rw[R.d _ _ e] at ha;cases ha
 have hf:a∉foot σ:=λhf=>by obtain⟨o,e⟩:=R.footLives hf;rw[e] at ha;cases ha
 have R2:=R'.addL hG hD hf ho h
 rcases q with q|q
 ·obtain⟨R3,dx,hv⟩:=R2.freezeL (u:=[]) (v:=σ) rfl
  exact⟨.lst Xs,_,σ,dx,hv,R3,q⟩
 ·exact⟨.ref a,D,_,DX.refl _ _,.ref a,R2,q _ _ λp hp e=>hf (e▸z1t hp)⟩
end
end
section
theorem FR.put{w:World}{D:Gh}{name:Str}{v:Value}{X:V}{t:Tok}(hv:VR w D v X):∀{es:List DictEntry} {fs:List (Str×V)},FR w D es fs->fs.lookup name=none->
  FR w D (W.putL name (hashStr w name) (.str name t) v es) (fs++[(name,X)])
 |[],[],_,_=>⟨⟨t,rfl⟩,rfl,hv,trivial⟩
 |e::es,(n,x)::fs,⟨⟨t',hk⟩,hh,hx,hr⟩,hl=>by
  have hne:(name==n)=false:=by
   cases q:name==n with
   |false=>rfl
   |true=>rw[List.lookup_cons,q] at hl;cases hl
  have e1:(e.key.isStr name)=false:=by rw[hk];simp[Value.isStr];intro h;rw[h] at hne;simp at hne
  unfold W.putL
  rw[e1]
  exact⟨⟨t',hk⟩,hh,hx,FR.put hv hr (by rw[List.lookup_cons,hne] at hl;exact hl)⟩
 |[],_::_,h,_=>h.elim
 |_::_,[],h,_=>h.elim
theorem FR.len{w:World}{D:Gh}:∀{es:List DictEntry} {fs:List (Str×V)},FR w D es fs->es.length=fs.length
 |[],[],_=>rfl
 |_::es,_::fs,⟨_,_,_,h⟩=>by simp[FR.len h]
 |[],_::_,h=>h.elim
 |_::_,[],h=>h.elim
section
variable {C:Cx} {env:Env} {vars:List Str} {gl:List (Str×V)} {own:Bool} {d:Nat} {m m':Loc} {σ:Sto} {σ':Obj->Sto} {P:V->Sto->Prop} {QS:Fl->Loc->Sto->Prop} {G D:Gh} {s:Shared}
structure StoreAt(C:Cx)(K:W.Frag)(c:Addr)(name:Str):Prop where
 kin:K.In C.base
 sa:W.findIn K (.ref c) "__setattr__"=some (some (.builtin "object.__setattr__"))
 po:W.plainOver K c=true
 ta:W.takerIn K c name=some none
 hd:(W.clsIn K c).any (·.hasDict)=true
theorem z7X{K:W.Frag}{c x dx:Addr}{ob:Obj}{fs:List (Str×V)}{name:Str}{X:V}{v:Value}{A:Around}{Z:Unit->Shared->Prop}{E:Value->Shared->Prop}(hM:StoreAt C K c name)
  (U:∀o',Upd x ob (.inst c dx fs) o' (.inst c dx (fs++[(name,X)])) σ (σ' o')) (hn:fs.lookup name=none) (hz:fs.length<=100) (R:RelC C G D σ s) (hv:VR C.w D v X)
  (q:∀o' s',RelC C G D (σ' o') s'->Z () s'):wpAny C.M A (setAttr (.ref x) name v) Z E s:=by
 have hm:(x,ob,AO.inst c dx fs)∈σ:=(U ob).mem
 have X0:=hM.kin.keeps R.baseIn
 have I:=z4S R hm
 obtain⟨hx,hdx⟩:s.heap.get? x=some (y0V c dx)/\s.heap.get? dx=some ob:=R.pl _ hm
 obtain⟨es,n,rfl,hr⟩:∃es n,ob=z1T es n/\FR C.w D es.toList fs:=R.sto _ hm
 obtain⟨cd,hc,hd'⟩:=W.any_some hM.hd
 refine W.set_plain X0 I hM.sa (W.osa_open (s:={s with toks:=s.toks+1}) X0 I hM.po hM.ta λb=> ?_)
 refine wpAny_bind (wpAny_pure (wpAny_bind (wpAny_bind (wpAny_loadPart hx (wpAny_bind (W.Looks.here (s:={s with toks:=s.toks+1}) (W.looks_clsIn X0 hc) ?_))))))
 rw[hd']
 refine wpAny_pure (a:=some dx) (wpAny_bind (wpAny_pure (wpAny_bind ?_)))
 unfold nsSet
 refine wpAny_bind (wpAny_bind (wpAny_askSetting (wpAny_pure (wpAny_bind (wpAny_mkText (wpAny_bind (wpAny_loadPart hdx ?_)))))))
 dsimp only
 have hL:=FR.look (name:=name) hr
 have c1:(!es.any (·.key.isStr name)&&es.any (·.refKey))=false:=by
  rw[<-Array.any_toList,<-Array.any_toList,hL.1,Bool.and_false]
 rw[aRefKeyMayBeTheName_at,c1]
 refine wpAny_updatePart hdx ?_
 have ef:Obj.putName name (PyData.keyHash C.w.params name) (.str name (s.toks+1)) v (z1T es n)=W.dictOf (W.putL name (hashStr C.w name) (.str name (s.toks+1)) v es.toList) (W.putN name es.toList n):=by
  have:=W.putName_dict name (PyData.keyHash C.w.params name) (.str name (s.toks+1)) v es.toList n
  have e0:W.dictOf es.toList n=z1T es n:=by show({cls:=_,data:= .dict es.toList.toArray n}:Obj)=_;rw[Array.toArray_toList]
  rw[e0] at this
  exact this
 have hr':=FR.put (t:=s.toks+1) hv hr hn
 have hself:=Heap.get?_update_self (Obj.putName name (PyData.keyHash C.w.params name) (.str name (s.toks+1)) v) hdx (by rw[ef];rfl)
 rw[ef] at hself
 have hne:x≠dx:=by
  obtain⟨u,w,e,_⟩:=(U (z1T es n)).split
  have nd:=R.nd
  rw[e,z0F] at nd
  have:([x,dx]++foot w).Nodup:=(List.nodup_append.mp nd).2.1
  intro h;subst h
  simp at this
 refine wpAny_bind (wpAny_lookBehind hself (by
  refine pastItsLine_dict ?_
  rw[List.size_toArray,hr'.len,sizeLine_eq];simp;lia) ?_)
 refine wpAny_pure (q _ _ (R.upd (U _) (s.toks+2) (b:=dx) (by simp[z0V]) (Heap.SameBut.update ..) rfl ⟨?_,hself⟩ ⟨_,_,rfl,by simpa using hr'⟩))
 rw[Heap.get?_update_ne _ _ _ _ hne];exact hx
theorem z9M{K:W.Frag}{c:Addr}{o value:Expr}{name:Str}{p' p:Pos}(hM:StoreAt C K c name)
  (h:AT C env vars gl own d (eval value env) m σ λX σ₁=>AT C env vars gl own d (eval o env) m σ₁ λY σ₂=>∃x dx fs,Y= .ref x/\At σ₂ x (.inst c dx fs)/\fs.lookup name=none/\fs.length<=100/\∀σ',UpdS σ₂ σ' x (.inst c dx (fs++[(name,X)]))->QS .next m σ')
  (hs:autoParam (swapsWith value (some (.Attribute o name p')) p.line env=pure false) auR):AS C env vars gl own d (exec (.Assign [.Attribute o name p'] value p) env) m σ QS:=λA G D s hA R=>
 plainObj_wpAny_Assign_Attribute (h.run hA R λv s₁ X D₁ σ₁ a b c₁ e=>e.run hA c₁ λu s₂ Y D₂ σ₂ a' b' c₂ hpp=>by
  obtain⟨x,dx,fs,hY,hat,hn,hz,q⟩:=hpp
  subst hY;cases b'
  obtain⟨ob,σ',U,US⟩:=hat.upd (.inst c dx (fs++[(name,X)]))
  exact z7X hM U hn hz c₂.lifted (b.mono a'.sub) λo' s' R'=>⟨.next,m,D₂,_,a.trans a',trivial,c₂.back R' (DX.refl _ _),q _ (US o')⟩) hs
structure ClassAt(C:Cx)(K:W.Frag)(c f:Addr):Prop where
 kin:K.In C.base
 mks:W.makesIn K c=true
 ini:W.findIn K (.ref c) "__init__"=some (some (.ref f))
 ty:W.typeIn K (.ref f)=some (.type "function")
 kp:W.keepIn K (.ref c)=true
theorem AOk.underC{A:Around}{d:Nat}{c:Addr}{rest:List Value}(h:AOk A (d+1)):AOk (A.under (.builtin "type.__call__" ⟨.ref c::rest,[]⟩)) d:=by
 have e1:(Code.builtin "type.__call__" ⟨.ref c::rest,[]⟩).weight=1:=rfl
 have e2:(Code.builtin "type.__call__" ⟨.ref c::rest,[]⟩).cUnits=1:=rfl
 refine⟨h.h,?_,?_⟩
 ·have:=h.depth
  show A.depth+(Code.builtin "type.__call__" ⟨.ref c::rest,[]⟩).weight+d<1000
  rw[e1];lia
 ·have:=h.units
  show A.units+(Code.builtin "type.__call__" ⟨.ref c::rest,[]⟩).cUnits+8*d<9000
  rw[e2];lia
theorem RelC.newI(R:RelC C G D σ s)(c:Addr):RelC C G D ((s.heap.objs.size+1,W.emptyDict,.inst c s.heap.objs.size [])::σ) {s with heap:=(s.heap.push W.emptyDict).push (W.instObj c s.heap.objs.size)}:=by
 have R':=(R.push W.emptyDict).push (W.instObj c s.heap.objs.size)
 have hsz:(s.heap.push W.emptyDict).objs.size=s.heap.objs.size+1:=PyProof.Rows.size_push' _ _
 have hx:((s.heap.push W.emptyDict).push (W.instObj c s.heap.objs.size)).get? (s.heap.objs.size+1)=some (W.instObj c s.heap.objs.size):=by rw[<-hsz];exact Heap.get?_push_size _ rfl
 have hdx:((s.heap.push W.emptyDict).push (W.instObj c s.heap.objs.size)).get? s.heap.objs.size=some W.emptyDict:=Heap.get?_push_of_some _ (Heap.get?_push_size _ rfl)
 have lt:∀b o,s.heap.get? b=some o->b≠s.heap.objs.size/\b≠s.heap.objs.size+1:=λb o e=>by
  have:=Heap.lt_size e
  exact⟨Nat.ne_of_lt this,Nat.ne_of_lt (Nat.lt_succ_of_lt this)⟩
 have nG:∀b,(b=s.heap.objs.size+1∨b=s.heap.objs.size)->G b=none/\D b=none/\b∉foot σ:=λb hb=>⟨by
   cases e:G b with
   |none=>rfl
   |some o=>exact(hb.elim (lt b o (R.g _ _ e)).2 (lt b o (R.g _ _ e)).1).elim,by
   cases e:D b with
   |none=>rfl
   |some o=>exact(hb.elim (lt b o (R.d _ _ e)).2 (lt b o (R.d _ _ e)).1).elim,λhf=>by
   obtain⟨o,e⟩:=R.footLives hf
   exact hb.elim (lt b o e).2 (lt b o e).1⟩
 refine⟨R'.same,R'.g,R'.d,R'.base,?_,λa ha=> ?_,λa ha=> ?_,λp hp=> ?_,λp hp=> ?_⟩
 ·show([s.heap.objs.size+1,s.heap.objs.size]++foot σ).Nodup
  refine List.nodup_cons.mpr ⟨λhm=> ?_,List.nodup_cons.mpr ⟨(nG _ (.inr rfl)).2.2,R.nd⟩⟩
  rcases List.mem_cons.mp hm with e|e
  ·lia
  ·exact(nG _ (.inl rfl)).2.2 e
 ·have:a∈[s.heap.objs.size+1,s.heap.objs.size]++foot σ:=ha
  rcases List.mem_append.mp this with h|h
  ·exact(nG a (by simpa using h)).1
  ·exact R.offG a h
 ·have:a∈[s.heap.objs.size+1,s.heap.objs.size]++foot σ:=ha
  rcases List.mem_append.mp this with h|h
  ·exact(nG a (by simpa using h)).2.1
  ·exact R.offD a h
 ·rcases List.mem_cons.mp hp with rfl|h
  ·exact⟨hx,hdx⟩
  ·exact R'.pl p h
 ·rcases List.mem_cons.mp hp with rfl|h
  ·exact⟨#[],0,rfl,trivial⟩
  ·exact R'.sto p h
theorem y4H{K:W.Frag}{c f:Addr}{xs:List V}(hM:ClassAt C K c f)
  (h:∀x dx o,Fresh σ x->CW C d (.ref f) (.ref x::xs) ((x,o,.inst c dx [])::σ) λr σ'=>r= .none/\P (.ref x) σ'):CW C (d+1) (.ref c) xs σ P:=λA G D s vs hA R hv=>by
 have X0:=hM.kin.keeps R.baseIn
 obtain⟨hh,g,dr,t,os⟩:=s
 refine W.make_core (W.makes_of X0 hM.mks) (W.looks_findIn X0 hM.ini) (λself=>W.bind_fn X0 self hM.ty) (.inl rfl) ?_
 have hfr:Fresh σ (hh.objs.size+1):=λp hp e=>by
  have:=R.footLt (z1t hp)
  rw[e] at this
  exact absurd this (Nat.not_lt.mpr (Nat.le_succ _))
 have R2:=R.newI c
 refine codeAny_mono (h (hh.objs.size+1) hh.objs.size W.emptyDict hfr _ G D _ (.ref (hh.objs.size+1)::vs) hA.underC R2 (.cons (.ref _) hv)) λr s' q=> ?_
 cases r with
 |error e=>exact q.elim
 |ok fl=>
  cases fl<;>first|exact q.elim|skip
  obtain⟨x,D',σ',dx,hx,R',rfl,q⟩:=q
  cases hx
  exact⟨rfl,⟨_,D',σ',dx,.ref _,R',q⟩⟩
theorem y0h{K:W.Frag}{c f:Addr}{x:Str}{np p:Pos}(hM:ClassAt C K c f)(h:AT C env vars gl own d (eval (.Name x np) env) m σ λF σ₁=>F= .ref c/\CW C d (.ref c) [] σ₁ P):
  AT C env vars gl own d (eval (.Call (.Name x np) [] [] p) env) m σ P:=λA G D s hA R=>
 wpAny_Call_ofName (h.run hA R λv s₁ F D₁ σ₁ a b c₁ hpp=>by
  obtain⟨hF,hk⟩:=hpp
  subst hF;apply VR.refE b
  exact W.callWith_K0 (hM.kin.keeps c₁.toRelC.baseIn) hM.kp (z02 a ((z5j hk).inF hA c₁ (.ref c) .nil)))
theorem z98{K:W.Frag}{c f:Addr}{o:Expr}{name:Str}{ap p:Pos}(hM:MethAt C K c name f)
  (h:AT C env vars gl own d (eval o env) m σ λX σ₁=>∃x dx fs,X= .ref x/\At σ₁ x (.inst c dx fs)/\fs.lookup name=none/\KW C d (.ref f) [.ref x] σ₁ P)
  (hbase:autoParam (attributeBase o name env (eval o env)=eval o env) auR) (hline:autoParam ((ap.endLine==p.line)=true) auR):
  AT C env vars gl own d (eval (.Call (.Attribute o name ap) [] [] p) env) m σ P:=λA G D s hA R=>by
 rw[arm_eval_Call,hbase]
 refine wpAny_bind (h.run hA R λv s₁ X D₁ σ₁ a b c₁ hpp=> ?_)
 obtain⟨x,dx,fs,hX,⟨ob,hm⟩,hsh,hk⟩:=hpp
 subst hX
 apply VR.refE b
 refine wpAny_bind (wpAny_standAt ?_)
 have hform:methodCallForm (([]:List Expr).length+([]:List Keyword).length) (backTo p (starEach [] env)) (backToKw p (keywordEach [] env))=true:=rfl
 have hpos:methodCallPos true o env ap p=pure p:=by unfold methodCallPos;simp[hline]
 unfold methodCall
 rw[hform]
 obtain⟨es,n,rfl,hr⟩:=c₁.sto _ hm
 have hl:=(FR.look (name:=name) hr)
 have hshadow:W.shadowIn (some (z1T es n)) name=some false:=by
  unfold W.shadowIn W.lookIn
  rcases hl.2 with⟨_,e2⟩|⟨_,_,e1,_,_⟩
  ·simp[e2,hl.1]
  ·rw[hsh] at e1;cases e1
 refine wpAny_bind (wpAny_holding (W.method_fn (hM.kin.keeps c₁.toRelC.baseIn) (z4S c₁.toRelC hm) hM.ga hM.gk hM.fn hM.ty hshadow ?_))
 refine wpAny_bind (wpAny_of_eq hpos ?_)
 refine z1n (F:= .ref f) hM.cal (.ref f) (D:=D₁) rfl (evalArgs_none ⟨c₁.toRelC.baseIn,z02 a (hk.inF hA c₁ (.ref f) (.cons (.ref x) .nil))⟩)
end
end
section
open PyProof.Rows (IntsAre StrsAre sortedS)
noncomputable def z1a(l:List Int):List Int:=l.mergeSort λa b=>decide (a<=b)
noncomputable def leS(a b:Str):Bool:= !decide (b.cps.toList<a.cps.toList)
noncomputable def z3h(l:List Str):List Str:=l.mergeSort leS
theorem z0C(l:List Int):(z1a l).Perm l:=List.mergeSort_perm _ _
theorem z3n(l:List Str):(z3h l).Perm l:=List.mergeSort_perm _ _
theorem y1v(l:List Int):(z1a l).Pairwise (·<=·):=by
 have:=List.pairwise_mergeSort (le:=λa b:Int=>decide (a<=b)) (by intro a b c;simp;lia) (by intro a b;simp;lia) l
 exact this.imp λh=>by simpa using h
theorem y0r{a b:List Int}(p:a.Perm b)(h:a.Pairwise (·<=·)):a=z1a b:=
 (p.trans (z0C b).symm).eq_of_pairwise (λx y _ _ h1 h2=>Int.le_antisymm h1 h2) h (y1v b)
theorem z6l{a b c:Str}(h1:leS a b=true)(h2:leS b c=true):leS a c=true:=by
 simp only[leS,Bool.not_eq_true',decide_eq_false_iff_not] at*
 exact List.le_trans h1 h2
theorem z9P(a b:Str):(leS a b||leS b a)=true:=by
 simp only[leS,Bool.or_eq_true,Bool.not_eq_true',decide_eq_false_iff_not]
 exact List.le_total a.cps.toList b.cps.toList
theorem y12{a b:Str}(h1:leS a b=true)(h2:leS b a=true):a=b:=by
 simp only[leS,Bool.not_eq_true',decide_eq_false_iff_not] at*
 have:a.cps.toList=b.cps.toList:=List.le_antisymm h1 h2
 cases a;cases b;simp at this;simpa using this
theorem y01(l:List Str):(z3h l).Pairwise (λa b=>leS a b=true):=List.pairwise_mergeSort (le:=leS) (λ_ _ _=>z6l) z9P l
theorem risingS_pw:∀(p:Str) (l:List Str),PyProof.Rows.risingS p l=true->(p::l).Pairwise (λa b=>leS a b=true)
 |p,[],_=>List.pairwise_singleton _ _
 |p,x::r,h=>by
  have h':(!PySem.Spec.ltCps x.cps.toList p.cps.toList&&PyProof.Rows.risingS x r)=true:=h
  simp only[Bool.and_eq_true,PyProof.Rows.ltCps_eq] at h'
  have ih:=risingS_pw x r h'.2
  refine List.pairwise_cons.mpr ⟨λy hy=> ?_,ih⟩
  rcases List.mem_cons.mp hy with rfl|hy
  ·exact h'.1
  ·exact z6l h'.1 ((List.pairwise_cons.mp ih).1 y hy)
theorem sortedS_pw:∀(l:List Str),sortedS l=true->l.Pairwise (λa b=>leS a b=true)
 |[],_=> .nil
 |x::r,h=>risingS_pw x r h
theorem z9N{a b:List Str}(p:a.Perm b)(h:a.Pairwise (λa b=>leS a b=true)):a=z3h b:=
 (p.trans (z3n b).symm).eq_of_pairwise (λx y _ _ h1 h2=>y12 h1 h2) h (y01 b)
theorem VRs.ofInts{w:World}{D:Gh}{vs:List Value}{ns:List Int}(h:IntsAre vs ns):VRs w D vs (ns.map V.int):=by
 induction h with
 |nil=>exact .nil
 |cons n t _ ih=>exact .cons (.int _ _) ih
theorem VRs.ofStrs{w:World}{D:Gh}{vs:List Value}{ns:List Str}(h:StrsAre vs ns):VRs w D vs (ns.map V.str):=by
 induction h with
 |nil=>exact .nil
 |cons n t _ ih=>exact .cons (.str _ _) ih
theorem VRs.ints{w:World}{D:Gh}{vs:List Value}{ns:List Int}(h:VRs w D vs (ns.map V.int)):IntsAre vs ns:=by
 induction ns generalizing vs with
 |nil=>rw[VRs.nilI h];exact .nil
 |cons n ns ih=>
  apply VRs.consE h;intro _ _ h1 h2
  apply VR.intE h1;intro t
  exact .cons _ _ (ih h2)
theorem VRs.strs{w:World}{D:Gh}{vs:List Value}{ns:List Str}(h:VRs w D vs (ns.map V.str)):StrsAre vs ns:=by
 induction ns generalizing vs with
 |nil=>rw[VRs.nilI h];exact .nil
 |cons n ns ih=>
  apply VRs.consE h;intro _ _ h1 h2
  apply VR.strE h1;intro t
  exact .cons _ _ (ih h2)
section
variable {C:Cx} {env:Env} {vars:List Str} {gl:List (Str×V)} {own:Bool} {d:Nat} {m m':Loc} {σ:Sto} {Q:V->Sto->Prop} {QS:Fl->Loc->Sto->Prop} {G D:Gh} {s:Shared} {A:Around} {K:Type} [DecidableEq K]
theorem z6B(kk:KK C.prog C.w K):∀{l:List Value} {cvs:List (K×Value)},l.length=cvs.length->(∀(j:Nat) v,l[j]? =some v->∃k x,cvs[j]? =some (k,x)/\kk.knd.is k v=true)->VRs C.w D l (cvs.map λp=>kk.v p.1)
 |[],[],_,_=> .nil
 |v::l,p::cvs,hl,h=>by
  obtain⟨k,x,e,hk⟩:=h 0 v rfl
  simp at e;subst e
  exact .cons (kk.ofIs hk) (z6B kk (by simpa using hl) λj u hu=>by simpa using h (j+1) u (by simpa using hu))
 |[],_::_,h,_=>by simp at h
 |_::_,[],h,_=>by simp at h
theorem z9E(kk:KK C.prog C.w K){a:Addr}{kvs:List (K×V)}(hs:z0K C)(hm:At σ a (.dict (z00 kk kvs)))(hn:(kvs.map (·.1)).Nodup)(hl:kvs.length<=sizeLine)(q:NLf Q (kvs.map λp=>kk.v p.1) σ):
  KW C d (.type "list") [.ref a] σ Q:=λA G D s v vs hA R hv hss=>by
 apply VR.typeE hv
 obtain⟨o,hm⟩:=hm
 apply VRs.consE hss;intro _ _ h1 h2
 ·skip
  apply VRs.nilE h2;apply VR.refE h1
  obtain⟨cvs,hD,hk⟩:=RelC.dcH R kk hm hn
  obtain⟨ep,hat⟩:=hD.dictAt
  refine W.kdl_call (W.kdl_dict (knd:=kk.knd) (kvs:=cvs) (ep:=ep) (R.notSys hs hm)) hA.h hat (by rw[hk.length];exact hl) λh' tk acc' c' hk' hS hacc=> ?_
  refine R.madeL hk' (z7u _) hS (Xs:=kvs.map λp=>kk.v p.1) ?_ q
  have e1:(kvs.map λp=>kk.v p.1)=cvs.map λp=>kk.v p.1:=by
   have:=hk.keys
   have e2:=congrArg (List.map kk.v) this
   simpa[List.map_map,Function.comp_def] using e2.symm
  rw[e1]
  exact z6B kk (by rw[Array.length_toList];exact hacc.1) λj v e=>hacc.2 j v (by rw[<-Array.getElem?_toList];exact e)
theorem z1g{x:V}{xs:List V}{P:Sto->Prop}(h:Has σ x (.list xs) P)(hl:xs.length<=sizeLine)(q:NLf Q xs σ):KW C d (.type "list") [x] σ Q:=λA G D s v vs hA R hv hss=>by
 apply VR.typeE hv
 apply VRs.consE hss;intro _ _ h1 h2
 ·skip
  apply VRs.nilE h2
  apply Has.isListE h R h1;intro a ws n ho hr
  refine call_list_seq a (T:="list") (.inl rfl) ho rfl rfl (λh' c' hk hS=> ?_) (by rw[show ws.size=xs.length by rw[<-hr.length];simp];exact hl)
  have:=R.madeL (t:=s.toks) hk (z7u _) hS hr q
  exact this
theorem z4l{h:Heap}{a b:Addr}{vs:List Value}{out:Array Value}{o:Obj}(hb:b≠a)(e:h.get? b=some o):(PyProof.Rows.sortedHeap h a vs out).get? b=some o:=by
 rw[PyProof.Rows.sortedHeap_old hb (Heap.lt_size e)];exact e
theorem z5h(R:RelC C G D σ s){h':Heap}{t:Nat}{vs:List Value}{out:Array Value}{Xs:List V}(hk:∀b o,s.heap.get? b=some o->h'.get? b=some o)(h:VRs C.w D out.toList Xs)(q:NLf Q Xs σ):
  PostC C G D Q (.ref h'.objs.size) {s with heap:=PyProof.Rows.sortedHeap (h'.push (PyProof.Rows.seqObj "list" vs.toArray 0)) h'.objs.size vs out,toks:=t}:=by
 obtain⟨e,he⟩:=PyProof.Rows.sortedHeap_at (h:=h'.push (PyProof.Rows.seqObj "list" vs.toArray 0)) (a:=h'.objs.size) (vs:=vs) (n:=0) (out:=out) (Heap.get?_push_size _ rfl)
 refine R.madeL (λb o eb=> ?_) ?_ he h q
 rotate_left
 ·cases e0:s.heap.get? h'.objs.size with
  |none=>rfl
  |some o=>exact absurd (Heap.lt_size (hk _ _ e0)) (Nat.lt_irrefl _)
 have hb:=hk b o eb
 exact z4l (Nat.ne_of_lt (Heap.lt_size hb)) (Heap.get?_push_of_some _ hb)
theorem z8Q{a:Addr}{kvs:List (Int×V)}(hs:z0K C)(hm:At σ a (.dict (z00 (KK.int C.prog C.w) kvs)))(hn:(kvs.map (·.1)).Nodup)(hl:kvs.length<64)(q:NLf Q ((z1a (kvs.map (·.1))).map V.int) σ):
  KW C d (.bi "sorted") [.ref a] σ Q:=λA G D s v vs hA R hv hss=>by
 apply VR.biE hv
 obtain⟨o,hm⟩:=hm
 apply VRs.consE hss;intro _ _ h1 h2
 ·skip
  apply VRs.nilE h2;apply VR.refE h1
  obtain⟨cvs,hD,hk⟩:=RelC.dcH R (KK.int C.prog C.w) hm hn
  obtain⟨ep,hat⟩:=hD.dictAt
  refine Calls.call_function_entry PyProof.Rows.kind_sorted PyProof.Rows.plain_sorted PyProof.Rows.entry_sorted (PyProof.Rows.args_sorted1 _) ?_
  unfold Builtin.«sorted»
  refine wpAny_bind (m:=checkCount "sorted" 1 1 _) (wpAny_pure ?_)
  refine wpAny_bind (W.kdu_collect (A:=A.in1) (W.kdl_dict (knd:=intKind C.prog C.w) (kvs:=cvs) (ep:=ep) (R.notSys hs hm)) hA.h hat (by rw[hk.length];exact Nat.le_of_lt (Nat.lt_of_lt_of_le hl (by decide))) λh' tk acc hk' hacc=> ?_)
  have hlen:acc.toList.length=cvs.length:=by rw[Array.length_toList];exact hacc.1
  refine wpAny_bind (wpAny_newList ?_ (by rw[hlen,hk.length];exact Nat.le_of_lt (Nat.lt_of_lt_of_le hl (by decide))))
  have hI:IntsAre acc.toList (kvs.map (·.1)):=by
   have:=z6B (D:=D) (KK.int C.prog C.w) hlen λj v e=>hacc.2 j v (by rw[<-Array.getElem?_toList];exact e)
   have e1:(cvs.map λp=>(KK.int C.prog C.w).v p.1)=(kvs.map (·.1)).map V.int:=by rw[<-hk.keys,List.map_map];rfl
   rw[e1] at this;exact this.ints
  have hoL:(h'.push (PyProof.Rows.seqObj "list" acc.toList.toArray 0)).get? h'.objs.size=some (PyProof.Rows.seqObj "list" acc.toList.toArray 0):=Heap.get?_push_size _ rfl
  refine wpAny_bind (wpAny_holding (wpAny_call_entry PyProof.Rows.slot_list_sort ⟨_,hoL,rfl⟩ PyProof.Rows.entry_list_sort (PyProof.Rows.list_sort_tree hoL hI (by rw[hlen,hk.length];exact hl) λout ns' a1 a2 a3=>⟨_,rfl,?_⟩) (PyProof.Rows.args_list_sort _)))
  refine wpAny_pure ⟨_,rfl,?_⟩
  refine z5h R hk' (VRs.ofInts a1) ?_
  rw[y0r a2 a3];exact q
theorem z8U{a:Addr}{kvs:List (Str×V)}(hs:z0K C)(hm:At σ a (.dict (z00 (KK.str C.prog C.w) kvs)))(hn:(kvs.map (·.1)).Nodup)(hl:kvs.length<64)(q:NLf Q ((z3h (kvs.map (·.1))).map V.str) σ):
  KW C d (.bi "sorted") [.ref a] σ Q:=λA G D s v vs hA R hv hss=>by
 apply VR.biE hv
 obtain⟨o,hm⟩:=hm
 apply VRs.consE hss;intro _ _ h1 h2
 ·skip
  apply VRs.nilE h2;apply VR.refE h1
  obtain⟨cvs,hD,hk⟩:=RelC.dcH R (KK.str C.prog C.w) hm hn
  obtain⟨ep,hat⟩:=hD.dictAt
  refine Calls.call_function_entry PyProof.Rows.kind_sorted PyProof.Rows.plain_sorted PyProof.Rows.entry_sorted (PyProof.Rows.args_sorted1 _) ?_
  unfold Builtin.«sorted»
  refine wpAny_bind (m:=checkCount "sorted" 1 1 _) (wpAny_pure ?_)
  refine wpAny_bind (W.kdu_collect (A:=A.in1) (W.kdl_dict (knd:=strKind C.prog C.w) (kvs:=cvs) (ep:=ep) (R.notSys hs hm)) hA.h hat (by rw[hk.length];exact Nat.le_of_lt (Nat.lt_of_lt_of_le hl (by decide))) λh' tk acc hk' hacc=> ?_)
  have hlen:acc.toList.length=cvs.length:=by rw[Array.length_toList];exact hacc.1
  refine wpAny_bind (wpAny_newList ?_ (by rw[hlen,hk.length];exact Nat.le_of_lt (Nat.lt_of_lt_of_le hl (by decide))))
  have hI:StrsAre acc.toList (kvs.map (·.1)):=by
   have:=z6B (D:=D) (KK.str C.prog C.w) hlen λj v e=>hacc.2 j v (by rw[<-Array.getElem?_toList];exact e)
   have e1:(cvs.map λp=>(KK.str C.prog C.w).v p.1)=(kvs.map (·.1)).map V.str:=by rw[<-hk.keys,List.map_map];rfl
   rw[e1] at this;exact this.strs
  have hoL:(h'.push (PyProof.Rows.seqObj "list" acc.toList.toArray 0)).get? h'.objs.size=some (PyProof.Rows.seqObj "list" acc.toList.toArray 0):=Heap.get?_push_size _ rfl
  refine wpAny_bind (wpAny_holding (wpAny_call_entry PyProof.Rows.slot_list_sort ⟨_,hoL,rfl⟩ PyProof.Rows.entry_list_sort (PyProof.Rows.list_sort_treeK PyProof.Rows.strKind_oneLt hoL hI.keysOf (λv₁ v₂ rest e=>PyProof.Rows.keyKind_strs (by rw[<-e];exact hI)) (by rw[hlen,hk.length];exact hl) λst' hp hst=>⟨_,rfl,?_⟩) (PyProof.Rows.args_list_sort _)))
  refine wpAny_pure ⟨_,rfl,?_⟩
  obtain⟨ss',a1,a2,a3⟩:=PyProof.Rows.sorted_out_str hI hp hst
  refine z5h R hk' (VRs.ofStrs a1) ?_
  rw[z9N a2 (sortedS_pw _ a3)];exact q
theorem y1U{a:Addr}{xs:List V}(hm:At σ a (.list xs))(hl:xs.length<=sizeLine)(q:∀σ',UpdS σ σ' a (.list [])->Q .none σ'):KW C d (.bi "list.clear") [.ref a] σ Q:=λA G D s v vs hA R hv hss=>by
 apply VR.biE hv
 obtain⟨o,σ',U,US⟩:=hm.upd (.list [])
 apply VRs.consE hss;intro _ _ h1 h2
 ·skip
  apply VRs.nilE h2;apply VR.refE h1
  obtain⟨ws,n,rfl,hr⟩:∃ws n,o=z0r ws n/\VRs C.w D ws.toList xs:=R.sto _ (U o).mem
  have ho:s.heap.get? a=some (z0r ws n):=R.pl _ (U (z0r ws n)).mem
  refine call_meets F.slot_list_clear ⟨_,ho,rfl⟩ F.entry_list_clear (F.args_list_clear_1 _) (AutoSeq1.list_clear_list_0 a ws n (by rw[show ws.size=xs.length by rw[<-hr.length];simp];exact hl)) ⟨ho,?_⟩
  have h1:=PyProof.Rows.get?_update_seq (c:="list") ho (λ_=> #[])
  have:=R.upd (U _) s.toks (z0J _ _) (Heap.SameBut.update ..) rfl h1 ⟨#[],_,rfl,.nil⟩
  exact⟨.none,D,_,DX.refl _ _,.none,this,q _ (US _)⟩
end
end
section
open PyProof.Rows (IntsAre StrsAre)
section
variable {C:Cx} {env:Env} {vars:List Str} {gl:List (Str×V)} {own:Bool} {d:Nat} {m m':Loc} {σ:Sto} {Q:V->Sto->Prop} {QS:Fl->Loc->Sto->Prop} {P:Bool->Sto->Prop} {G D:Gh} {s:Shared} {A:Around} {K:Type} [DecidableEq K]
theorem RelF.drop(R:RelF C env vars gl own G D m σ s){τ:Sto}(hs:τ.Sublist σ):RelF C env vars gl own G D m τ s:=R.back (R.lifted.drop hs) (DX.refl _ _)
theorem z9A{t:Sem Bool}(h:AB C env vars gl own d t m σ λb σ'=>∃τ,τ.Sublist σ'/\P b τ):AB C env vars gl own d t m σ P:=λA G D s hA R=>
 h.run hA R λb s' D' σ' a c hpp=>by obtain⟨τ,hs,q⟩:=hpp;exact⟨D',τ,a,c.drop hs,q⟩
theorem AOk.line0{A:Around}{d:Nat}(h:AOk A d):A.units<cLine:=by have:=h.units;show A.units<9900;lia
theorem y40(kk:KK C.prog C.w K){a b:Addr}{kvs:List (K×V)}(hs:z0K C)(ha:At σ a (.dict (z00 kk kvs)))(hn:(kvs.map (·.1)).Nodup)(hb:At σ b (.dict []))(q:Q (.bool kvs.isEmpty) σ):
  AC2 C d (compareOp .Eq) (.ref a) (.ref b) σ Q:=λA G D s v u hA R hv hu=>by
 obtain⟨oa,ha⟩:=ha;obtain⟨ob,hb⟩:=hb
 obtain⟨_,cvs,e,hD,hk⟩:=(Has.refD ha).isD kk hn R hv
 obtain⟨_,cv2,e2,hD2,hk2⟩:=Has.isD (x:= .ref b) (kvs:=[]) kk (Has.refD hb) .nil R hu
 obtain rfl:=VR.refI hv;obtain rfl:=VR.refI hu;cases e;cases e2;cases hk2
 refine W.keq_eq (r:=true) (R.notSys hs ha) (R.notSys hs hb) hD hD2 hA.line0 (λhl=> ?_) (PostC.now R (.bool _) ?_)
 ·cases cvs with
  |nil=>exact .nil
  |cons _ _=>simp at hl
 ·have:(cvs.length==([]:List (K×Value)).length&&true)=kvs.isEmpty:=by rw[hk.length];cases kvs<;>simp
  rw[this];exact q
theorem y3p(kk:KK C.prog C.w K){a b:Addr}{kvs:List (K×V)}(hs:z0K C)(ha:At σ a (.dict (z00 kk kvs)))(hn:(kvs.map (·.1)).Nodup)(hb:At σ b (.dict []))(q:Q (.bool (!kvs.isEmpty)) σ):
  AC2 C d (compareOp .NotEq) (.ref a) (.ref b) σ Q:=λA G D s v u hA R hv hu=>by
 obtain⟨oa,ha⟩:=ha;obtain⟨ob,hb⟩:=hb
 obtain⟨_,cvs,e,hD,hk⟩:=(Has.refD ha).isD kk hn R hv
 obtain⟨_,cv2,e2,hD2,hk2⟩:=Has.isD (x:= .ref b) (kvs:=[]) kk (Has.refD hb) .nil R hu
 obtain rfl:=VR.refI hv;obtain rfl:=VR.refI hu;cases e;cases e2;cases hk2
 refine W.keq_ne (r:=true) (R.notSys hs ha) (R.notSys hs hb) hD hD2 hA.line0 (λhl=> ?_) (PostC.now R (.bool _) ?_)
 ·cases cvs with
  |nil=>exact .nil
  |cons _ _=>simp at hl
 ·have:(cvs.length==([]:List (K×Value)).length&&true)=kvs.isEmpty:=by rw[hk.length];cases kvs<;>simp
  rw[this];exact q
theorem y4V(kk:KK C.prog C.w K){l:Expr}{p p':Pos}{whole:Sem Value}(hs:z0K C)(h:AT C env vars gl own d (eval l env) m σ λX σ₁=>∃a kvs,X= .ref a/\At σ₁ a (.dict (z00 kk kvs))/\(kvs.map (·.1)).Nodup/\P (!kvs.isEmpty) σ₁):
  AB C env vars gl own d (isTrue (.Compare l [.NotEq] [.Dict [] [] p'] p) env whole) m σ P:=
 z9A (z1S (h.mono λX σ₁ hpp=>by obtain⟨a,kvs,hX,hat,hn,q⟩:=hpp;exact z2J λb o hf=>by subst hX;exact y3p kk hs (hat.cons _) hn .hd (z0i ⟨σ₁,List.sublist_cons_self _ _,q⟩)))
theorem z79(kk:KK C.prog C.w K){ke ve:Expr}{p:Pos}(h:∀a o,Fresh σ a->AT C env vars gl own d (eval ke env) m ((a,o,.dict [])::σ) λX σ₁=>AT C env vars gl own d (eval ve env) m σ₁ λY σ₂=>
   ∃k,X=kk.v k/\σ₂=(a,o,.dict [])::σ/\∀o',Q (.ref a) ((a,o',.dict (z00 kk [(k,Y)]))::σ)):
  AT C env vars gl own d (eval (.Dict [some ke] [ve] p) env) m σ Q:=λA G D s hA R=>by
 refine wpAny_Dict_pairs (knd:=kk.knd) (pairs:=[(eval ke env,do let x <-eval ve env;standAt p;pure x)]) rfl (by simp) (by simp) ?_
 have R₁:RelF C env vars gl own G D m ((s.heap.objs.size,z1T #[] 0,.dict [])::σ) {s with heap:=s.heap.push (z1T #[] 0)}:=
  R.back (R.lifted.newM (z1T #[] 0) (.dict []) ⟨#[],0,rfl,.nil⟩ rfl (λ_ _=>rfl)) (DX.refl _ _)
 refine evalPairs_cons ((h _ _ R.toRelC.fresh).run hA R₁ λv s₁ X D₁ σ₁ a b c e=> ?_)
 refine wpAny_bind (e.run hA c λu s₂ Y D₂ σ₂ a' b' c' hpp=> ?_)
 obtain⟨k,hX,hσ,q⟩:=hpp
 refine wpAny_bind (wpAny_standAt (wpAny_pure (evalPairs_nil ?_)))
 subst hX hσ
 have ho:s₂.heap.get? s.heap.objs.size=some (z1T #[] 0):=c'.pl _ (.head _)
 refine⟨[(k,u)],⟨kk.isOf (b.mono a'.sub),rfl,trivial⟩,⟨_,#[],0,ho,⟨rfl,rfl,rfl⟩,rfl,λe he=>by simp at he,.nil,.nil⟩,λh' hD' hs'=> ?_⟩
 have hm:merged ([]:List (K×Value)) [(k,u)]=[(k,u)]:=by simp[merged,stored]
 rw[hm] at hD'
 obtain⟨o',ho',hr'⟩:=HR.ofDict kk hD' (kvs:=[(k,Y)]) (.cons b' .nil)
 exact⟨.ref _,D₂,_,a.trans a',.ref _,c'.back (c'.lifted.upd (Upd.head (o':=o') (x':= .dict (z00 kk [(k,Y)]))) _ (z0J _ _) hs' rfl ho' hr') (DX.refl _ _),q o'⟩
theorem z8i{x:V}{xs:List Str}{k:Str}{P:Sto->Prop}(h:Has σ x (.list (xs.map V.str)) P)(q:Q (.bool (!(xs.any (·==k)))) σ):AC2 C d (compareOp .NotIn) (.str k) x σ Q:=λA G D s v u hA R hv hu=>by
 apply Has.isLE h R hu;intro a ws hL hr
 apply VR.strE hv;intro _
 exact PyProof.Rows.notin_list_strs (vs:=ws.toList) (by simpa using hL) hr.strs (PostC.now R (.bool _) q)
theorem IW.ofWalksT{elts:List Expr}{k:Nat}{pos:Pos}{I:Addr}{fp wr:List Addr}{n:Nat}{Pw:Nat->Array Value->Prop}{St:Nat->Heap->Prop}{Mid:Nat->Addr->Heap->Prop}{xs:List V}(W:WalksT C.prog C.w A I fp wr n Pw St Mid)(hn:n=xs.length)
  (hx:∀(i:Nat) vals X,Pw i vals->xs[i]? =some X->∃Xs,X= .tup Xs/\VRs C.w D vals.toList Xs) (hl:∀i h,St i h->∀a∈wr,∃o,h.get? a=some o)
  (hold:∀b∈fp,b∉wr->∀h:Heap,St 0 h->h.get? b=none->False):IW C A (.Tuple elts k pos) I fp wr D xs St where
 live:=hl
 sub:=W.sub
 old:=hold
 frame:=W.frame
 item:=λi X s K hX st h=>W.item i s K _ (by rw[hn];exact(List.getElem?_eq_some_iff.mp hX).1) st λT vals h' tk hP hT ht hM hk=>h (.ref T) _ λQ' q=>by
  obtain⟨Xs,rfl,hv⟩:=hx i vals X hP hX
  refine W.go elts k pos i T _ Q' _ hM λh'' st' hk'=> ?_
  obtain⟨o,ho,hc,n',hd⟩:=ht
  exact q h'' tk (.inr ⟨T,o,vals.toList,n',Xs,rfl,rfl,hv,hT,hk' T o (W.apart _ _ _ hM) ho,hc,by simpa using hd⟩) st' λb ob hb e=>hk' b ob hb (hk b ob hb e)
 self:=λi s K st h=>W.self i s K _ st h
 done:=λs K st h=>W.done s K _ (by rw[hn];exact st) λh' tk hk=>h h' tk hk
noncomputable def z3U(xs:List V):List V:=xs.zipIdx.map λp=>V.tup [.int p.2,p.1]
variable {QI:List V->(Sto->Prop)->Sto->Prop}
theorem y2z{np p:Pos}{e:Expr}{elts:List Expr}{k:Nat}{pos:Pos}(h:AT C env vars gl own d (eval (.Name "enumerate" np) env) m σ λF σ₁=>F= .type "enumerate"/\AL C env vars gl own d (spliced (backTo p (starEach [e] env))) m σ₁ λXs σ₂=>∃X xs P,Xs=[X]/\Has σ₂ X (.list xs) P/\QI (z3U xs) P σ₂)
  (he:autoParam (starEach [e] env=(false,eval e env)::starEach [] env) auR) (hplain:autoParam ((backTo p (starEach [] env)).any (·.1)=false) auR):
  AI C env vars gl own d (.Call (.Name "enumerate" np) [e] [] p) (.Tuple elts k pos) m σ QI:=λA G D s hA R=>by
 refine wpAny_Call_ofName (h.run hA R λv s₁ F D₁ σ₁ a b c hpp=> ?_)
 obtain⟨hF,hk⟩:=hpp
 subst hF
 refine z1n (F:= .type "enumerate") trivial b (by rw[he];exact hplain) ?_
 rw[he] at hk⊢
 refine Calls.evalArgs_plain (AL.run hk hA c λvs s₂ Xs D₂ σ₂ a' b' c' hpp=> ?_)
 obtain⟨X,xs,P,hX,hH,q⟩:=hpp
 refine⟨c'.toRelC.baseIn,?_⟩
 subst hX
 apply VR.typeE b
 apply VRs.consE b';intro _ _ h1 h2
 ·skip
  apply VRs.nilE h2
  apply Has.runLE hH c'.toRelC h1;intro ax ws n ho hr hP hst
  refine call_enumerate_1 ho λh' hen hit hsz hkp=>wpAny_pyIter_enum hen ?_
  have hlt:=Heap.lt_size ho
  have hl:h'.IsList ax ws:=⟨_,hkp _ _ ho,rfl,n,rfl⟩
  have R':RelF C env vars gl own G D₂ m σ₂ {s₂ with heap:=h'}:=by
   have:=R.ok
   exact c'.back (c'.lifted.keep s₂.toks hkp) (DX.refl _ _)
  have offn:∀b,s₂.heap.objs.size<=b->G b=none/\D₂ b=none/\b∉foot σ₂/\¬z2U env vars b:=λb hb=>⟨by
    cases e:G b with
    |none=>rfl
    |some o=>exact absurd (Heap.lt_size (c'.g _ _ e)) (Nat.not_lt.mpr hb),by
    cases e:D₂ b with
    |none=>rfl
    |some o=>exact absurd (Heap.lt_size (c'.d _ _ e)) (Nat.not_lt.mpr hb),λhf=>absurd (c'.toRelC.footLt hf) (Nat.not_lt.mpr hb),λhm=>by
    obtain⟨o,eo⟩:=c'.mineLives hm
    exact absurd (Heap.lt_size eo) (Nat.not_lt.mpr hb)⟩
  refine⟨D₂,σ₂,z3U xs,P,a.trans a',⟨s₂.heap.objs.size+1,_,_,_,rfl,IW.ofWalksT (WalksT.enumerate hA.h (s₂.heap.objs.size+1) s₂.heap.objs.size ax (Nat.succ_ne_self _) (Nat.ne_of_lt (Nat.lt_succ_of_lt hlt)) (Nat.ne_of_lt hlt) ws) (by simp[z3U];rw[<-hr.length];simp) ?_ ?_ ?_,⟨⟨_,hen⟩,hit,hl⟩,R',?_,hP,?_⟩,q⟩
  ·rintro i vals X ⟨t,x,hx,rfl⟩ hX
   have h3:∃Y,xs[i]? =some Y/\X= .tup [.int i,Y]:=by
    simp only[z3U,List.getElem?_map,List.getElem?_zipIdx,Nat.zero_add] at hX
    cases e3:xs[i]? with
    |none=>rw[e3] at hX;simp at hX
    |some Y=>rw[e3] at hX;simp at hX;exact⟨Y,rfl,hX.symm⟩
   obtain⟨Y,hY,rfl⟩:=h3
   obtain⟨u',e',r⟩:=hr.get hY
   rw[Array.getElem?_toList,hx] at e';cases e'
   exact⟨_,rfl,.cons (.int _ _) (.cons r .nil)⟩
  ·rintro i h ⟨⟨old,he1⟩,⟨o1,ho1,_⟩,_⟩ b hb
   simp at hb
   rcases hb with rfl|rfl
   ·exact⟨_,he1⟩
   ·exact⟨_,ho1⟩
  ·rintro b hb hbw h ⟨_,_,⟨o1,ho1,_⟩⟩ e1
   simp at hb hbw
   rcases hb with rfl|rfl|rfl
   ·exact hbw.1 rfl
   ·exact hbw.2 rfl
   ·rw[ho1] at e1;cases e1
  ·intro b hb
   simp at hb
   rcases hb with rfl|rfl
   ·exact offn _ (Nat.le_succ _)
   ·exact offn _ (Nat.le_refl _)
  ·intro G' D' σ' s' Rx hsb hP' b hb hbw o' e1
   simp at hb hbw
   rcases hb with rfl|rfl|rfl
   ·exact absurd rfl hbw.1
   ·exact absurd rfl hbw.2
   ·have e2:h'.get? b=some o':=e1
    rw[hkp _ _ ho] at e2;cases e2;exact hst G' D' σ' s' Rx hsb hP'
end
end
section
section
variable {C:Cx} {d:Nat} {σ:Sto} {Q:V->Sto->Prop} {K:Type} [DecidableEq K]
theorem y3D(kk:KK C.prog C.w K){a:Addr}{o:Obj}{kvs:List (K×V)}{k:K}(hs:z0K C)(hm:(a,o,AO.dict (z00 kk kvs))∈σ)(hn:(kvs.map (·.1)).Nodup)(q:Q (.bool (!(vAt kvs k).isSome)) σ):
  AC2 C d (compareOp .NotIn) (kk.v k) (.ref a) σ Q:=λA G D s v u hA R hv hu=>by
 obtain⟨b,cvs,e,hD,hk⟩:=(Has.refD hm).isD kk hn R hu
 obtain rfl:=VR.refI hu;cases e
 refine wpAny_notIn_of (kk.isOf hv) (R.notSys hs hm) hD.mapOf ?_
 have:(valueAt cvs k).isSome=(vAt kvs k).isSome:=by
  rcases hk.at k with⟨e1,e2⟩|⟨_,_,e1,e2,_⟩<;>rw[e1,e2]<;>rfl
 rw[this]
 exact PostC.now (R.tok _) (.bool _) q
end
noncomputable abbrev dS(kvs:List (Str×V)):AO:= .dict (kvs.map λp=>(V.str p.1,p.2))
section
variable {C:Cx} {env:Env} {vars:List Str} {gl:List (Str×V)} {own:Bool} {d:Nat} {m m':Loc} {σ:Sto} {Q:V->Sto->Prop} {QS:Fl->Loc->Sto->Prop} {PB:Bool->Sto->Prop} {PS:Sto->Prop} {a:Addr} {kvs:List (Str×V)} {k:Str} {X:V}
theorem z2k(h:At σ a (dS kvs))(hn:(kvs.map (·.1)).Nodup)(hx:vAt kvs k=some X)(q:Q X σ):SubR C d (.ref a) (V.str k) σ Q:=by
 obtain⟨o,h⟩:=h
 exact y0I (KK.str C.prog C.w) (Has.refD h) hn hx q
theorem z2I(hs:z0K C)(h:At σ a (dS kvs))(hn:(kvs.map (·.1)).Nodup)(q:Q (.bool (vAt kvs k).isSome) σ):AC2 C d (compareOp .In) (V.str k) (.ref a) σ Q:=by
 obtain⟨o,h⟩:=h
 exact y3r (KK.str C.prog C.w) hs h hn q
theorem y0l(hs:z0K C)(h:At σ a (dS kvs))(hn:(kvs.map (·.1)).Nodup)(q:Q (.bool (!(vAt kvs k).isSome)) σ):AC2 C d (compareOp .NotIn) (V.str k) (.ref a) σ Q:=by
 obtain⟨o,h⟩:=h
 exact y3D (KK.str C.prog C.w) hs h hn q
theorem z4I(hs:z0K C)(h:At σ a (dS kvs))(hn:(kvs.map (·.1)).Nodup)(q:Q ((vAt kvs k).getD X) σ):KW C d (.bi "dict.get") [.ref a,V.str k,X] σ Q:=by
 obtain⟨o,h⟩:=h
 exact y4E (KK.str C.prog C.w) hs h hn q
theorem y2x(h:At σ a (dS kvs))(hn:(kvs.map (·.1)).Nodup)(hl:kvs.length<=sizeLine)(hx:vAt kvs k=some X)(q:∀σ',UpdS σ σ' a (dS (z2H kvs k))->Q X σ'):KW C d (.bi "dict.pop") [.ref a,V.str k] σ Q:=by
 obtain⟨o,σ',U,US⟩:=h.upd (dS (z2H kvs k))
 exact y2g (KK.str C.prog C.w) U hn hl hx λo'=>q _ (US o')
theorem z5f(hs:z0K C)(h:At σ a (dS kvs))(hn:(kvs.map (·.1)).Nodup)(hl:kvs.length<=sizeLine)(q1:∀Y,vAt kvs k=some Y->Q Y σ)(q2:vAt kvs k=none->∀σ',UpdS σ σ' a (dS (z2c kvs k X))->Q X σ'):
  KW C d (.bi "dict.setdefault") [.ref a,V.str k,X] σ Q:=by
 obtain⟨o,σ',U,US⟩:=h.upd (dS (z2c kvs k X))
 exact z6A (KK.str C.prog C.w) hs U hn hl q1 λe o'=>q2 e _ (US o')
theorem y38(h:At σ a (dS kvs))(hn:(kvs.map (·.1)).Nodup)(hl:kvs.length<=sizeLine)(q:∀σ',UpdS σ σ' a (dS (z2c kvs k X))->PS σ'):SetR C d (.ref a) (V.str k) X σ PS:=by
 obtain⟨o,σ',U,US⟩:=h.upd (dS (z2c kvs k X))
 exact z5g (KK.str C.prog C.w) U hn hl λo'=>q _ (US o')
theorem z63(hs:z0K C)(h:At σ a (dS kvs))(hn:(kvs.map (·.1)).Nodup)(hl:kvs.length<=sizeLine)(q:Q (.int kvs.length) σ):KW C d (.bi "len") [.ref a] σ Q:=by
 obtain⟨o,h⟩:=h
 exact y0z (KK.str C.prog C.w) hs h hn hl q
theorem y10(hs:z0K C)(h:At σ a (dS kvs))(hn:(kvs.map (·.1)).Nodup)(hl:kvs.length<=sizeLine)(q:NLf Q (kvs.map λp=>V.str p.1) σ):KW C d (.type "list") [.ref a] σ Q:=
 z9E (KK.str C.prog C.w) hs h hn hl q
theorem z46(hs:z0K C)(h:At σ a (dS kvs))(hn:(kvs.map (·.1)).Nodup)(hl:kvs.length<64)(q:NLf Q ((z3h (kvs.map (·.1))).map V.str) σ):KW C d (.bi "sorted") [.ref a] σ Q:=
 z8U hs h hn hl q
end
noncomputable abbrev dI(kvs:List (Int×V)):AO:= .dict (kvs.map λp=>(V.int p.1,p.2))
section
variable {C:Cx} {env:Env} {vars:List Str} {gl:List (Str×V)} {own:Bool} {d:Nat} {m m':Loc} {σ:Sto} {Q:V->Sto->Prop} {QS:Fl->Loc->Sto->Prop} {PB:Bool->Sto->Prop} {PS:Sto->Prop} {a:Addr} {kvs:List (Int×V)} {k:Int} {X:V}
theorem y4w(h:At σ a (dI kvs))(hn:(kvs.map (·.1)).Nodup)(hx:vAt kvs k=some X)(q:Q X σ):SubR C d (.ref a) (V.int k) σ Q:=by
 obtain⟨o,h⟩:=h
 exact y0I (KK.int C.prog C.w) (Has.refD h) hn hx q
theorem y3M(hs:z0K C)(h:At σ a (dI kvs))(hn:(kvs.map (·.1)).Nodup)(q:Q (.bool (vAt kvs k).isSome) σ):AC2 C d (compareOp .In) (V.int k) (.ref a) σ Q:=by
 obtain⟨o,h⟩:=h
 exact y3r (KK.int C.prog C.w) hs h hn q
theorem z8D(hs:z0K C)(h:At σ a (dI kvs))(hn:(kvs.map (·.1)).Nodup)(q:Q (.bool (!(vAt kvs k).isSome)) σ):AC2 C d (compareOp .NotIn) (V.int k) (.ref a) σ Q:=by
 obtain⟨o,h⟩:=h
 exact y3D (KK.int C.prog C.w) hs h hn q
theorem z9y(h:At σ a (dI kvs))(hn:(kvs.map (·.1)).Nodup)(hl:kvs.length<=sizeLine)(hx:vAt kvs k=some X)(q:∀σ',UpdS σ σ' a (dI (z2H kvs k))->Q X σ'):KW C d (.bi "dict.pop") [.ref a,V.int k] σ Q:=by
 obtain⟨o,σ',U,US⟩:=h.upd (dI (z2H kvs k))
 exact y2g (KK.int C.prog C.w) U hn hl hx λo'=>q _ (US o')
theorem z4U(h:At σ a (dI kvs))(hn:(kvs.map (·.1)).Nodup)(hl:kvs.length<=sizeLine)(q:∀σ',UpdS σ σ' a (dI (z2c kvs k X))->PS σ'):SetR C d (.ref a) (V.int k) X σ PS:=by
 obtain⟨o,σ',U,US⟩:=h.upd (dI (z2c kvs k X))
 exact z5g (KK.int C.prog C.w) U hn hl λo'=>q _ (US o')
theorem z81(hs:z0K C)(h:At σ a (dI kvs))(hn:(kvs.map (·.1)).Nodup)(hl:kvs.length<=sizeLine)(q:Q (.int kvs.length) σ):KW C d (.bi "len") [.ref a] σ Q:=by
 obtain⟨o,h⟩:=h
 exact y0z (KK.int C.prog C.w) hs h hn hl q
theorem y1n(hs:z0K C)(h:At σ a (dI kvs))(hn:(kvs.map (·.1)).Nodup)(hl:kvs.length<=sizeLine)(q:NLf Q (kvs.map λp=>V.int p.1) σ):KW C d (.type "list") [.ref a] σ Q:=
 z9E (KK.int C.prog C.w) hs h hn hl q
theorem z2W(hs:z0K C)(h:At σ a (dI kvs))(hn:(kvs.map (·.1)).Nodup)(hl:kvs.length<64)(q:NLf Q ((z1a (kvs.map (·.1))).map V.int) σ):KW C d (.bi "sorted") [.ref a] σ Q:=
 z8Q hs h hn hl q
noncomputable def y42(Y:V)(τ:Sto)(P:List (Int×V)->Prop):Prop:=∃b l,Y= .ref b/\At τ b (dI l)/\(l.map (·.1)).Nodup/\P l
theorem y5M{P:List (Int×V)->Prop}(h:At σ a (dI kvs))(hn:(kvs.map (·.1)).Nodup)(q:P kvs):y42 (.ref a) σ P:=⟨a,kvs,rfl,h,hn,q⟩
theorem y2F{l:Expr}{p p':Pos}{whole:Sem Value}(hs:z0K C)(h:AT C env vars gl own d (eval l env) m σ λY τ=>y42 Y τ λl=>PB (!l.isEmpty) τ):
  AB C env vars gl own d (isTrue (.Compare l [.NotEq] [.Dict [] [] p'] p) env whole) m σ PB:=y4V (KK.int C.prog C.w) hs h
end
section
variable {C:Cx} {env:Env} {vars:List Str} {gl:List (Str×V)} {own:Bool} {d:Nat} {m m':Loc} {σ:Sto} {Q:V->Sto->Prop} {QS:Fl->Loc->Sto->Prop} {a:Addr}
theorem z7Z{xs:List V}{X:V}(h:At σ a (.list xs))(hl:xs.length<=sizeLine)(q:∀σ',UpdS σ σ' a (.list (xs++[X]))->Q .none σ'):KW C d (.bi "list.append") [.ref a,X] σ Q:=by
 obtain⟨o,σ',U,US⟩:=h.upd (.list (xs++[X]))
 exact z7V U hl λo'=>q _ (US o')
noncomputable def z53(c:Addr)(name:Str)(Y:V)(τ:Sto)(P:Addr->Prop):Prop:=∃x dx fs,Y= .ref x/\At τ x (.inst c dx fs)/\fs.lookup name=none/\P x
theorem y5G{c dx:Addr}{name:Str}{fs:List (Str×V)}{P:Addr->Prop}(h:At σ a (.inst c dx fs))(hl:fs.lookup name=none)(q:P a):z53 c name (.ref a) σ P:=⟨a,dx,fs,rfl,h,hl,q⟩
noncomputable def z9g(c:Addr)(name:Str)(Y:V)(τ:Sto)(P:V->Prop):Prop:=∃x dx fs Z,Y= .ref x/\At τ x (.inst c dx fs)/\fs.lookup name=some Z/\(∀n,Z≠ .bi n)/\P Z
theorem y5u{c dx:Addr}{name:Str}{fs:List (Str×V)}{b:Addr}{P:V->Prop}(h:At σ a (.inst c dx fs))(hl:fs.lookup name=some (.ref b))(q:P (.ref b)):z9g c name (.ref a) σ P:=⟨a,dx,fs,_,rfl,h,hl,(λn e=>by cases e),q⟩
theorem y1a{K:W.Frag}{c f:Addr}{o e:Expr}{rest:List Expr}{name:Str}{ap p:Pos}(hM:MethAt C K c name f)
  (h:AT C env vars gl own d (eval o env) m σ λX σ₁=>z53 c name X σ₁ λx=>AL C env vars gl own d (spliced (backTo p (starEach (e::rest) env))) m σ₁ λXs σ₂=>KW C d (.ref f) (.ref x::Xs) σ₂ Q)
  (hbase:autoParam (attributeBase o name env (eval o env)=eval o env) auR) (hline:autoParam ((ap.endLine==p.line)=true) auR)
  (he:autoParam (starEach (e::rest) env=(false,eval e env)::starEach rest env) auR) (hplain:autoParam ((backTo p (starEach rest env)).any (·.1)=false) auR)
  (hfew:autoParam (((backTo p (starEach (e::rest) env)).all (λx=> !x.1)&&(backToKw p (keywordEach [] env)).all (λx=>x.1.isSome)&&decide ((e::rest).length+([]:List Keyword).length+(if([]:List Keyword).isEmpty then 0 else 1)<30))=true) auR):
  AT C env vars gl own d (eval (.Call (.Attribute o name ap) (e::rest) [] p) env) m σ Q:=
 y0s hM (h.mono λX σ₁ hpp=>by obtain⟨x,dx,fs,hX,⟨ob,hm⟩,hl,k⟩:=hpp;exact⟨x,ob,dx,fs,hX,hm,hl,k⟩) hbase hline he hplain hfew
theorem z9K{K:W.Frag}{c f:Addr}{o:Expr}{name:Str}{ap p:Pos}(hM:MethAt C K c name f)
  (h:AT C env vars gl own d (eval o env) m σ λX σ₁=>z53 c name X σ₁ λx=>KW C d (.ref f) [.ref x] σ₁ Q)
  (hbase:autoParam (attributeBase o name env (eval o env)=eval o env) auR) (hline:autoParam ((ap.endLine==p.line)=true) auR):
  AT C env vars gl own d (eval (.Call (.Attribute o name ap) [] [] p) env) m σ Q:=z98 hM h hbase hline
theorem y08{K:W.Frag}{c:Addr}{o:Expr}{name:Str}{p:Pos}(hM:AttrAt C K c name)
  (h:AT C env vars gl own d (eval o env) m σ λX σ₁=>z9g c name X σ₁ λY=>Q Y σ₁)
  (hbase:autoParam (attributeBase o name env (eval o env)=eval o env) auR) (ht:∀u r,letTemporaryGo o u r=pure ():=by intro _ _;with_unfolding_all exact rfl):
  AT C env vars gl own d (eval (.Attribute o name p) env) m σ Q:=
 y2B hM (h.mono λX σ₁ hpp=>by obtain⟨x,dx,fs,Y,hX,⟨ob,hm⟩,hl,hb,k⟩:=hpp;exact⟨x,ob,dx,fs,Y,hX,hm,hl,hb,k⟩) hbase ht
theorem tyD{es:List (V×V)}(h:At σ a (.dict es)):TyR C (.ref a) σ "dict":=by
 obtain⟨o,h⟩:=h
 exact y05 (Has.refD h)
theorem tyL{xs:List V}(h:At σ a (.list xs)):TyR C (.ref a) σ "list":=by
 obtain⟨o,h⟩:=h
 exact y1O (Has.refL h)
end
end
section
theorem keys_miss:typeLookup (.type "list") "keys"=pure none:=by rw[typeLookup_type,builtinLookup_eq_fast];kernel_rfl
theorem getAttr?_miss{prog:Program}{w:World}{A:Around}{E:Value->Shared->Prop}{s:Shared}{a:Addr}{xs:Array Value}{k:Nat}{Q:Option Value->Shared->Prop}
  (hx:s.heap.get? a=some (z0r xs k)) (hA:A.handled=none)
  (h:∀h' tk,(∀b o,s.heap.get? b=some o->h'.get? b=some o)->Q none {s with heap:=h',toks:=tk}):
  wpAny (model prog w) A (getAttr? (.ref a) "keys") Q E s:=by
 obtain⟨hp,g,d,tk,os⟩:=s
 have hT:∀tk',(⟨hp,g,d,tk',os⟩:Shared).TypeIs (.ref a) "list":=λ_=>⟨_,hx,rfl⟩
 have f1:=sub_AttributeError
 have f3:=F.slot_list_getattribute.lookup
 have f4:=F.slot_list_getattribute.bind (.ref a)
 have f5:=am_list_getattr_none
 unfold getAttr? getAttrBy? getAttrBy
 repeat (any_goals (first|assumption|exact hT _|((with_reducible show wpAny _ _ (call (Value.builtin "list.__getattribute__") _ _) _ _ _);refine call_meets F.slot_list_getattribute (hT _) am_entry_list_getattribute (F.args_list_getattribute_2 _ _) (meets_getattribute_miss_list a xs k #[] "keys" _ keys_miss (by decide+kernel) (by decide+kernel)) ⟨hx,hA,λh' tk' e hx'=> ?_⟩)|wp_step))
 obtain⟨t',u',he⟩:=hx'.there
 show wpAny _ _ (getattributeRaised _ _ _ _ _ _ _) _ _ _
 unfold getattributeRaised
 repeat (any_goals (first|assumption|wp_step))
 exact h _ _ hx'.keeps
theorem entry_update_loop:entryFor table "dict.update.loop"=some Builtin.«dict.update.loop»:=entryFor_of_tree (by kernel_rfl)
theorem plain_update_loop:plainId "dict.update.loop"=true:=by decide+kernel
section
variable {prog:Program} {w:World} {K:Type} [DecidableEq K] {knd:KeyKind prog w K} {A:Around} {E:Value->Shared->Prop}
noncomputable def y1N(knd:KeyKind prog w K)(h:Heap)(v:Value)(p:K×Value):Prop:=∃t o key n,v= .ref t/\h.get? t=some o/\o.cls= .type "tuple"/\o.data= .seq #[key,p.2] n/\knd.is p.1 key=true
theorem z7p{S I ax:Addr}{ws:Array Value}{R:Result->Shared->Prop}(hh:A.handled=none)(hIS:I≠S)(hax:ax≠I)(hxS:ax≠S)(ps:List (K×Value))(hl:ps.length=ws.size)(hz:ps.length<=1000):
  ∀(k i:Nat) (s:Shared) (acc:List (K×Value)),ws.size-i=k->i<=ws.size->s.heap.IsListIter I ax i->s.heap.IsList ax ws->s.heap.DictOf knd S acc->acc.length<=i->
   (∀(j:Nat) v p,ws[j]? =some v->ps[j]? =some p->y1N knd s.heap v p)->(∀(j:Nat) t,ws[j]? =some (.ref t)->t≠I/\t≠S)->
   (∀h' tk,h'.DictOf knd S (merged acc (ps.drop i))->(∀b o,b≠S->b≠I->s.heap.get? b=some o->h'.get? b=some o)->R (.ok (.ret .none)) {s with heap:=h',toks:=tk})->
   codeAny (model prog w) A (.builtin "dict.update.loop" ⟨[.ref S,.ref I,rawInt i,.none],[]⟩) R s:=by
 intro k
 induction k with
 |zero=>
  intro i s acc hk hi hit hL hD hacc hP hne hR
  have hin:i=ws.size:=Nat.le_antisymm hi (Nat.le_of_sub_eq_zero hk)
  subst hin
  have W:=Walks.list (prog:=prog) (w:=w) (A:=A.in1) hh I ax hax ws
  refine codeAny_builtin entry_update_loop ?_
  rw[Around.under_plainId plain_update_loop _]
  show wpAny _ A.in1 (pyNext (.ref I)>>=_) _ _ s
  refine wpAny_bind (W.done s _ _ ⟨hit,hL⟩ λh' tk hkp=> ?_)
  show wpAny _ _ (Builtin.Dict.addKeywords S []>>=_) _ _ _
  refine wpAny_bind (wpAny_pure (wpAny_pure (hR h' tk ?_ λb o hb hbI e=>hkp b o (by simpa using hbI) e)))
  rw[List.drop_eq_nil_of_le (Nat.le_of_eq hl)]
  show h'.DictOf knd S acc
  obtain⟨o,es,ep,ho,r⟩:=hD
  exact⟨o,es,ep,hkp S o (by simpa using hIS.symm) ho,r⟩
 |succ k ih=>
  intro i s acc hk hi hit hL hD hacc hP hne hR
  have hlt:i<ws.size:=Nat.lt_of_sub_eq_succ hk
  have W:=Walks.list (prog:=prog) (w:=w) (A:=A.in1) hh I ax hax ws
  refine codeAny_builtin entry_update_loop ?_
  rw[Around.under_plainId plain_update_loop _]
  show wpAny _ A.in1 (pyNext (.ref I)>>=_) _ _ s
  refine wpAny_bind (W.item i s _ _ hlt ⟨hit,hL⟩ λv h' tk hv hst' hkp=> ?_)
  have hv':ws[i]? =some v:=hv
  obtain⟨p,hp⟩:∃p,ps[i]? =some p:=⟨_,List.getElem?_eq_getElem (hl▸hlt)⟩
  obtain⟨t,o,key,n,rfl,ho,hc,hd,hkey⟩:=hP i v p hv' hp
  have hnt:=hne i t hv'
  have ho':h'.get? t=some o:=hkp t o (by simpa using hnt.1) ho
  have hD':h'.DictOf knd S acc:=by
   obtain⟨o,es,ep,ho,r⟩:=hD
   exact⟨o,es,ep,hkp S o (by simpa using hIS.symm) ho,r⟩
  refine wpAny_bind (wpAny_holding ?_)
  refine wpAny_bind (wpAny_tryCatch ?_)
  unfold Builtin.Dict.pairItems
  refine wpAny_bind (wpAny_typeOf (T:="tuple") ⟨o,ho',hc⟩ ?_)
  rw[if_pos (by decide)]
  unfold seqItems?
  refine wpAny_bind (wpAny_bind (wpAny_loadPart ho' ?_))
  rw[hd]
  refine wpAny_pure (wpAny_pure ?_)
  show wpAny _ _ (holding [key,p.2] (dictSet S key p.2)) _ _ _
  refine wpAny_holding (wpAny_dictSet_pairs (hsz:=z0t (Nat.le_trans (Nat.le_of_lt (Nat.lt_of_le_of_lt hacc (hl▸hlt))) (Nat.le_trans hz (by decide)))) hkey hD' λh₁ hm₁ hs₁=> ?_)
  refine wpAny_pure ⟨plainId_quiet plain_update_loop _,?_⟩
  have kp2:∀b o,b≠S->b≠I->s.heap.get? b=some o->h₁.get? b=some o:=λb o hb hbI e=>(hs₁.2 b hb).trans (hkp b o (by simpa using hbI) e)
  have e1:rawInt (i:Int)= .int i 0:=rfl
  refine ih (i+1) _ (stored acc p.1 p.2) (by rw[Nat.sub_add_eq,hk];rfl) hlt ?_ ?_ hm₁ (Nat.le_trans (stored_length_le _ _ _) (Nat.succ_le_succ hacc)) (λj v q hv hq=> ?_) hne λh'' tk'' hD'' hk''=> ?_
  ·obtain⟨oi,h1,h2⟩:=hst'.1;exact⟨oi,(hs₁.2 I hIS).trans h1,h2⟩
  ·obtain⟨ol,h1,h2⟩:=hst'.2;exact⟨ol,(hs₁.2 ax hxS).trans h1,h2⟩
  ·obtain⟨t2,o2,key2,n2,rfl,ho2,r2⟩:=hP j v q hv hq
   exact⟨t2,o2,key2,n2,rfl,kp2 t2 o2 (hne j t2 hv).2 (hne j t2 hv).1 ho2,r2⟩
  ·refine hR h'' tk'' ?_ λb o hb hbI e=>hk'' b o hb hbI (kp2 b o hb hbI e)
   have:ps.drop i=p::ps.drop (i+1):=by
    obtain⟨hlt',e⟩:=List.getElem?_eq_some_iff.mp hp
    rw[List.drop_eq_getElem_cons hlt',e]
   rw[this]
   exact hD''
end
section
variable {C:Cx} {d:Nat} {σ:Sto} {Q:V->Sto->Prop} {G D:Gh} {s:Shared} {K:Type} [DecidableEq K]
noncomputable def y1x(ps:List (K×V)):List (K×V):=ps.foldl (λacc p=>z2c acc p.1 p.2) []
theorem KR.merged{w:World}{l:List (K×Value)}{r:List (K×V)}(h:KR w D l r):∀{a:List (K×Value)} {b:List (K×V)},KR w D a b->KR w D (PySem.merged a l) (r.foldl (λacc p=>z2c acc p.1 p.2) b):=by
 induction h with
 |nil=>intro a b hab;exact hab
 | @cons k v x l r hv _ ih=>intro a b hab;exact ih (hab.stored hv)
theorem y0W(kk:KK C.prog C.w K)(R:RelC C G D σ s):∀{ps:List (K×V)} {vs:List Value},VRs C.w D vs (ps.map λp=>V.tup [kk.v p.1,p.2])->
  ∃cps,KR C.w D cps ps/\(∀(j:Nat) v p,vs[j]? =some v->cps[j]? =some p->y1N kk.knd s.heap v p)/\∀(j:Nat) t,vs[j]? =some (.ref t)->∃o,s.heap.get? t=some o:=λ{ps}=>by
 induction ps with
 |nil=>intro vs h;obtain rfl:=VRs.nilI h;exact⟨[],.nil,(λj v p e=>by simp at e),λj t e=>by simp at e⟩
 |cons p ps ih=>
  intro vs h
  obtain⟨y,r,rfl,h1,h2⟩:=VRs.consI h
  obtain⟨cps,hk,hp,ht⟩:=ih h2
  obtain⟨t,o,us,n,rfl,e,hc,hd,hr⟩:=VR.tupI h1
  obtain⟨key,_,rfl,a1,hr⟩:=VRs.consI hr
  obtain⟨val,_,rfl,a3,hr⟩:=VRs.consI hr
  obtain rfl:=VRs.nilI hr
  refine⟨(p.1,val)::cps,.cons (k:=p.1) a3 hk,λj=> ?_,λj=> ?_⟩
  ·cases j with
   |zero=>intro v q e1 e2;obtain rfl:=Option.some.inj e1;obtain rfl:=Option.some.inj e2;exact⟨t,o,key,n,rfl,R.d _ _ e,hc,hd,kk.isOf a1⟩
   |succ j=>exactλv q e1 e2=>hp j v q e1 e2
  ·cases j with
   |zero=>intro t' e1;cases Option.some.inj e1;exact⟨o,R.d _ _ e⟩
   |succ j=>exact ht j
theorem y2W(kk:KK C.prog C.w K){x:V}{ps:List (K×V)}{P:Sto->Prop}(h:Has σ x (.list (ps.map λp=>V.tup [kk.v p.1,p.2])) P)(hz:ps.length<=1000)
  (q:∀a o,Fresh σ a->Q (.ref a) ((a,o,.dict (z00 kk (y1x ps)))::σ)):KW C d (.type "dict") [x] σ Q:=λA G D s v vs hA R hv hss=>by
 apply VR.typeE hv
 apply VRs.consE hss;intro _ _ h1 h2
 ·skip
  apply VRs.nilE h2
  apply Has.isListE h R h1;intro ax ws n ho hr
  obtain⟨cps,hk,hp,ht⟩:=y0W kk R hr
  have hlen:cps.length=ws.size:=by rw[hk.length];have:=hr.length;simp at this;lia
  refine callType_codes (Q₁:=λobj s₁=>obj= .ref s.heap.objs.size/\s₁={s with heap:=s.heap.push {cls:= .type "dict",data:= .dict #[]}}) F.kt_called_dict (F.kt_typeCall_dict_1 _) F.entry_dict_init (kt_code_dict_new _ ⟨rfl,rfl⟩) ?_
  rintro obj s₁ ⟨rfl,rfl⟩
  have hnew:(s.heap.push {cls:= .type "dict",data:= .dict #[]}).DictOf kk.knd s.heap.objs.size []:=Heap.DictOf.new s.heap
  have ho1:(s.heap.push {cls:= .type "dict",data:= .dict #[]}).get? ax=some (z0r ws n):=Heap.get?_push_of_some _ ho
  refine⟨hnew.typeIs,F.args_dict_init_2 _ _,?_⟩
  unfold Builtin.«dict.__init__»
  refine wpAny_bind ?_
  unfold Builtin.Dict.selfAndRest
  refine wpAny_bind (wpAny_notOrdered_dict hnew.typeIs ?_)
  show wpAny _ _ (pure (s.heap.objs.size,[Value.ref ax])) _ _ _
  refine wpAny_pure ?_
  show wpAny _ _ (Builtin.Dict.updateFrom "dict.__init__" s.heap.objs.size (.ref ax) [] .none) _ _ _
  unfold Builtin.Dict.updateFrom
  refine wpAny_bind (wpAny_typeOf (T:="list") ⟨_,ho1,rfl⟩ ?_)
  rw[if_pos (by decide)]
  refine wpAny_bind (getAttr?_miss ho1 hA.h λh' tk hkp=> ?_)
  simp only[Option.isNone_none,if_true]
  refine wpAny_bind (wpAny_rule ?_)
  have ho2:h'.get? ax=some (z0r ws n):=hkp _ _ ho1
  have hL:h'.IsList ax ws:=⟨_,ho2,rfl,n,rfl⟩
  have hD2:h'.DictOf kk.knd s.heap.objs.size []:=by
   obtain⟨o,es,ep,ho,r⟩:=hnew
   exact⟨o,es,ep,hkp _ o ho,r⟩
  have hdlt:s.heap.objs.size<h'.objs.size:=by obtain⟨o,es,ep,ho,r⟩:=hD2;exact Heap.lt_size ho
  have haxlt:ax<h'.objs.size:=Heap.lt_size ho2
  refine wpAny_bind (wpAny_pyIter_list (s:={s with heap:=h',toks:=tk}) hL ?_)
  have liveS:∀t o,s.heap.get? t=some o->t≠s.heap.objs.size/\t≠h'.objs.size:=λt o e=>⟨Nat.ne_of_lt (Heap.lt_size e),Nat.ne_of_lt (Heap.lt_size (hkp _ _ (Heap.get?_push_of_some _ e)))⟩
  have kp3:∀(oI:Obj) b o,s.heap.get? b=some o->(h'.push oI).get? b=some o:=λoI b o e=>Heap.get?_push_of_some _ (hkp _ _ (Heap.get?_push_of_some _ e))
  refine wpAny_pure ⟨plainId_quiet plain_update_loop _,z7p (knd:=kk.knd) (A:=A.in1) hA.h (Nat.ne_of_gt hdlt) (Nat.ne_of_lt haxlt) (liveS _ _ ho).1 cps hlen (by rw[hk.length];exact hz) _ 0 _ [] rfl (Nat.zero_le _) ⟨_,Heap.get?_push_size _ rfl,rfl,rfl⟩ (hL.push _) (by
   obtain⟨o,es,ep,ho,r⟩:=hD2
   exact⟨o,es,ep,Heap.get?_push_of_some _ ho,r⟩) (Nat.le_refl _) (λj v p e1 e2=> ?_) (λj t e1=> ?_) λh'' tk'' hD'' hk''=>⟨rfl,?_⟩⟩
  ·obtain⟨t,o,key,n',rfl,ho',r⟩:=hp j v p (by rw[Array.getElem?_toList];exact e1) e2
   exact⟨t,o,key,n',rfl,kp3 _ _ _ ho',r⟩
  ·obtain⟨o,e⟩:=ht j t (by rw[Array.getElem?_toList];exact e1)
   exact⟨(liveS t o e).2,(liveS t o e).1⟩
  ·obtain⟨o',ho',hr'⟩:=HR.ofDict kk hD'' (hk.merged (.nil:KR C.w D ([]:List (K×Value)) []))
   have kp4:∀b o,s.heap.get? b=some o->h''.get? b=some o:=λb o e=>hk'' b o (liveS b o e).1 (liveS b o e).2 (kp3 _ b o e)
   have R':=R.keep (h':=h'') tk'' kp4
   refine⟨.ref _,D,_,DX.refl _ _,.ref _,?_,q _ o' R.fresh⟩
   refine⟨R'.same,R'.g,R'.d,R'.base,?_,λa ha=> ?_,λa ha=> ?_,λp hp'=> ?_,λp hp'=> ?_⟩
   ·exact List.nodup_cons.mpr ⟨R.new_notFoot,R.nd⟩
   ·rcases List.mem_cons.mp ha with rfl|h
    ·exact R.new_G
    ·exact R.offG a h
   ·rcases List.mem_cons.mp ha with rfl|h
    ·exact R.new_D
    ·exact R.offD a h
   ·rcases List.mem_cons.mp hp' with rfl|h
    ·exact ho'
    ·exact R'.pl p h
   ·rcases List.mem_cons.mp hp' with rfl|h
    ·exact hr'
    ·exact R'.sto p h
end
end
section
section
variable {C:Cx} {env:Env} {vars:List Str} {gl:List (Str×V)} {own:Bool} {d:Nat} {m:Loc} {σ:Sto} {tgt:Expr} {body:List Stmt} {P:Sto->Prop} {QS:Fl->Loc->Sto->Prop}
noncomputable def LS(I:Loc->Sto->Prop)(P:Sto->Prop)(QS:Fl->Loc->Sto->Prop):Fl->Loc->Sto->Prop
 | .next,m,σ=>P σ/\I m σ
 | .cont,m,σ=>P σ/\I m σ
 | .brk,m,σ=>QS .next m σ
 | .ret v,m,σ=>QS (.ret v) m σ
theorem y2f{I:Loc->Sto->Prop}{X:V}(q:QS (.ret X) m σ):LS I P QS (.ret X) m σ:=q
theorem z60{I:Loc->Sto->Prop}(hP:P σ)(q:I m σ):LS I P QS .next m σ:=⟨hP,q⟩
theorem z6z(I:Nat->Loc->Sto->Prop):∀(ys:List V) (k:Nat) (m:Loc) (σ:Sto),
  (∀(i:Nat) X,ys[i]? =some X->∀m σ,I (k+i) m σ->AA C env vars gl own d (assign tgt env) X m σ λm₁ σ₁=>AS C env vars gl own d (execs body env) m₁ σ₁ (LS (I (k+i+1)) P QS))->
  (∀m σ,I (k+ys.length) m σ->QS .next m σ)->I k m σ->z5x C env vars gl own d tgt body P QS ys m σ
 |[],k,m,σ,_,hq,hI=>hq m σ hI
 |X::ys,k,m,σ,h,hq,hI=>by
  intro A G D s v hA R hv
  refine wpAny_mono (h 0 X rfl m σ hI A G D s v hA R hv) (λu s' hpp=> ?_) λ_ _ e=>e
  obtain⟨m',D',σ',a,c,e⟩:=hpp
  refine⟨m',D',σ',a,c,e.mono λfl m₂ σ₂ q=> ?_⟩
  have ih:I (k+1) m₂ σ₂->z5x C env vars gl own d tgt body P QS ys m₂ σ₂:=λhI'=>z6z I ys (k+1) m₂ σ₂ (λi Y hY m σ hm=>by
    have:=h (i+1) Y (by simpa using hY) m σ (by rw[show k+(i+1)=k+1+i by lia];exact hm)
    rw[show k+(i+1)+1=k+1+i+1 by lia] at this
    exact this) (λm σ hm=>hq m σ (by rw[List.length_cons,show k+(ys.length+1)=k+1+ys.length by lia];exact hm)) hI'
  cases fl with
  |next=>exact⟨q.1,ih q.2⟩
  |cont=>exact⟨q.1,ih q.2⟩
  |brk=>exact q
  |ret v=>exact q
theorem y1m{n:Int}(h0:0<=n)(h1:n<=1000):Builtin.Range.small 0 n 1=true:=small_one (by decide) (by decide) (by lia) (by lia)
theorem y2Q{n:Int}(h0:0<=n):Builtin.Range.rangeSize 0 n 1=(n.toNat:Int):=by rw[rangeSize_one];split<;>lia
theorem y0D{n:Nat}(h:n<=1000):Builtin.Range.small 0 (n:Int) 1=true:=y1m (Int.natCast_nonneg n) (Int.ofNat_le.mpr h)
theorem y1F(n:Nat):Builtin.Range.rangeSize 0 (n:Int) 1=((n:Nat):Int):=y2Q (Int.natCast_nonneg n)
theorem z5Z{n i:Nat}{X:V}(h:(z1o 0 1 n)[i]? =some X):i<n/\X=V.int (i:Int):=by
 have hi:i<n:=by simpa[z1o] using(List.getElem?_eq_some_iff.mp h).1
 rw[z1o,List.getElem?_map,List.getElem?_range hi] at h
 exact⟨hi,by simpa using h.symm⟩
theorem z2e{n:Nat}{X:V}(h:X∈z1o 0 1 n):∃i:Nat,i<n/\X=V.int (i:Int):=by
 obtain⟨i,hi⟩:=List.mem_iff_getElem?.mp h
 exact⟨i,z5Z hi⟩
theorem z1D(n:Nat):(z1o 0 1 n).length=n:=by unfold z1o;rw[List.length_map,List.length_range]
theorem z4k(n:Nat):z1o 0 1 n=(List.range n).map λi:Nat=>V.int (i:Int):=by
 unfold z1o
 exact List.map_congr_left λi _=>by rw[Int.zero_add,Int.mul_one]
theorem z7y{α:Type}{l:List α}{i:Nat}(hn:l.Nodup)(hi:i<l.length):l[i]∉l.take i:=λhm=>by
 obtain⟨j,hj,e⟩:=List.mem_iff_getElem.mp hm
 rw[List.getElem_take] at e
 have:=(List.getElem_inj hn).mp e
 rw[List.length_take] at hj
 lia
theorem z7v{α:Type}{l:List α}{i:Nat}(hi:i<l.length):l.take (i+1)=l.take i++[l[i]]:=by rw[List.take_succ,List.getElem?_eq_getElem hi];rfl
theorem z5c{α β:Type}{l:List α}{r:List β}{f:β->α}{i:Nat}(h:r.map f=l.take i)(hi:i<=l.length):r.length=i:=by
 have:=congrArg List.length h
 rw[List.length_map,List.length_take] at this
 lia
theorem z0z{α β:Type}{l:List α}{f:α->β}{n:Nat}(h:l.length<=n)(hn:n<=100000):(l.map f).length<=sizeLine:=by rw[List.length_map];exact z0t (Nat.le_trans h hn)
theorem z1y{α β:Type}{l:List α}{f:α->β}{i:Nat}{x:α}(h:l[i]? =some x):(l.map f)[i]? =some (f x):=by rw[List.getElem?_map,h];rfl
theorem y18(I:Nat->Loc->Sto->Prop){iter:Expr}{p:Pos}(h:AI C env vars gl own d iter tgt m σ λys P σ₁=>I 0 m σ₁/\(∀(i:Nat) X,ys[i]? =some X->∀m σ,I i m σ->AA C env vars gl own d (assign tgt env) X m σ λm₁ σ₁=>AS C env vars gl own d (execs body env) m₁ σ₁ (LS (I (i+1)) P QS))/\(∀m σ,I ys.length m σ->QS .next m σ))
  (hs:autoParam (∀x,foldedSetIterable iter env x=pure x) auF):AS C env vars gl own d (exec (.For tgt iter body [] p) env) m σ QS:=
 z4o (λA G D s hA R=>wpAny_mono (h A G D s hA R) (λx s₁ h₁=>wpAny_mono h₁ (λit s₂ hpp=>by obtain⟨D',σ',xs,P,a,b,c1,c2,c3⟩:=hpp;exact⟨D',σ',xs,P,a,b,z6z I xs 0 m σ' (λi X hX m σ hm=>by
  have:=c2 i X hX m σ (by simpa using hm)
  simpa using this) (λm σ hm=>c3 m σ (by simpa using hm)) c1⟩) λ_ _ e=>e) λ_ _ e=>e) hs
theorem y0w(I:Nat->Loc->Sto->Prop){iter:Expr}{p:Pos}(h:AI C env vars gl own d iter tgt m σ λys P σ₁=>I 0 m σ₁/\(∀(i:Nat) X,ys[i]? =some X->∀m σ,I i m σ->∀QB:Fl->Loc->Sto->Prop,(∀m σ,P σ->I (i+1) m σ->QB .next m σ)->AA C env vars gl own d (assign tgt env) X m σ λm₁ σ₁=>AS C env vars gl own d (execs body env) m₁ σ₁ QB)/\(∀m σ,I ys.length m σ->QS .next m σ))
  (hs:autoParam (∀x,foldedSetIterable iter env x=pure x) auF):AS C env vars gl own d (exec (.For tgt iter body [] p) env) m σ QS:=
 y18 I (λA G D s hA R=>wpAny_mono (h A G D s hA R) (λx s₁ h₁=>wpAny_mono h₁ (λit s₂ hpp=>by obtain⟨D',σ',xs,P,a,b,c1,c2,c3⟩:=hpp;exact⟨D',σ',xs,P,a,b,c1,λi X hX m σ hm=>c2 i X hX m σ hm _ λm σ hP hI=>z60 hP hI,c3⟩) λ_ _ e=>e) λ_ _ e=>e) hs
theorem y17(I:Nat->Loc->Sto->Prop){iter:Expr}{p:Pos}(h:AI C env vars gl own d iter tgt m σ λys P σ₁=>I 0 m σ₁/\(∀(i:Nat) X,ys[i]? =some X->∀m σ,I i m σ->∀QB:Fl->Loc->Sto->Prop,(∀m σ,P σ->I (i+1) m σ->QB .next m σ)->(∀Y m σ,QS (.ret Y) m σ->QB (.ret Y) m σ)->AA C env vars gl own d (assign tgt env) X m σ λm₁ σ₁=>AS C env vars gl own d (execs body env) m₁ σ₁ QB)/\(∀m σ,I ys.length m σ->QS .next m σ))
  (hs:autoParam (∀x,foldedSetIterable iter env x=pure x) auF):AS C env vars gl own d (exec (.For tgt iter body [] p) env) m σ QS:=
 y18 I (λA G D s hA R=>wpAny_mono (h A G D s hA R) (λx s₁ h₁=>wpAny_mono h₁ (λit s₂ hpp=>by obtain⟨D',σ',xs,P,a,b,c1,c2,c3⟩:=hpp;exact⟨D',σ',xs,P,a,b,c1,λi X hX m σ hm=>c2 i X hX m σ hm _ (λm σ hP hI=>z60 hP hI) λY m σ q=>y2f q,c3⟩) λ_ _ e=>e) λ_ _ e=>e) hs
variable {x:Str} {pp:Pos} {caps:List Str} {elt c:Expr} {ms:Loc} {Z:List V->Sto->Prop}
theorem z43(I:Nat->List V->Sto->Prop)(hk:env.kindOf x=some .local):∀(xs:List V) (k:Nat) (acc:List V) (o:Option V) (σ:Sto),
  (∀(i:Nat) X,xs[i]? =some X->∀acc σ,I (k+i) acc σ->AT C env (x::caps) gl false d (eval elt env) (some X::ms) σ λY σ'=>P σ'/\I (k+i+1) (acc++[Y]) σ')->
  (∀acc σ,I (k+xs.length) acc σ->Z acc σ)->I k acc σ->z0S C env (x::caps) gl d (.Name x pp) elt [] P Z xs acc (o::ms) σ
 |[],k,acc,o,σ,_,hq,hI=>hq acc σ hI
 |X::xs,k,acc,o,σ,h,hq,hI=>by
  refine z0w Put.head ?_ (.inr hk)
  refine⟨λ_=>(h 0 X rfl acc σ hI).mono λY σ' ⟨hP,hI'⟩=>⟨hP,z43 I hk xs (k+1) (acc++[Y]) (some X) σ' (λi Y hY acc σ hm=> ?_) (λacc σ hm=>hq acc σ ?_) hI'⟩,λe=>by cases e⟩
  ·have:=h (i+1) Y (by simpa using hY) acc σ (by rw[show k+(i+1)=k+1+i by lia];exact hm)
   rw[show k+(i+1)+1=k+1+i+1 by lia] at this
   exact this
  ·rw[List.length_cons,show k+(xs.length+1)=k+1+xs.length by lia];exact hm
variable {Q:V->Sto->Prop}
theorem y5v{X Y:V}{k:Int}(h0:0<=k)(h1:k<2)(q:Q X σ)(q':Q Y σ):SubR C d (.lst [X,Y]) (.int k) σ Q:=by
 rcases(show k=0∨k=1 by lia) with rfl|rfl
 ·exact z2l (.lst _) (by decide) (by decide) (X:=X) rfl q
 ·exact z2l (.lst _) (by decide) (by decide) (X:=Y) rfl q'
theorem z04{x:V}{xs:List V}{P:Sto->Prop}{i:Nat}{X:V}(h:Has σ x (.list xs) P)(hi:i<1000)(hx:xs[i]? =some X)(q:Q X σ):SubR C d x (.int (i:Int)) σ Q:=
 z2l h (Int.natCast_nonneg i) (by lia) (by rw[Int.toNat_natCast];exact hx) q
theorem z3T{xs:List V}{k:Int}(h0:0<=k)(h1:k<xs.length)(hs:xs.length<2^40)(q:∀X∈xs,Q X σ):SubR C d (.lst xs) (.int k) σ Q:=by
 have hk:k.toNat<xs.length:=by lia
 exact z2l (.lst _) h0 (by lia) (X:=xs[k.toNat]) (List.getElem?_eq_getElem hk) (q _ (List.getElem_mem hk))
theorem y3E{x y:Str}(q:Q (.bool (x !=y)) σ):AC2 C d (compareOp .NotEq) (.str x) (.str y) σ Q:=λA G D s v u hA R hv hu=>by
 apply VR.strE hv;intro _;apply VR.strE hu;intro _;exact PyProof.Rows.ne_str (PostC.now R (.bool _) q)
theorem z8X{y:Str}{p' pe p:Pos}(q:∀a o,Fresh σ a->∃m',Put vars m y (.ref a) m'/\QS .next m' ((a,o,.list [])::σ))(hk:autoParam (own=true) auR)
  (hs:autoParam (swapsWith (.List [] pe) (some (.Name y p')) p.line env=pure false) auR):AS C env vars gl own d (exec (.Assign [.Name y p'] (.List [] pe) p) env) m σ QS:=
 z1K (z5k (z0v ⟨Nat.zero_le _,q⟩)) hk hs
theorem z8y{y:Str}{p' pe p:Pos}(q:∀a o,Fresh σ a->∃m',Put vars m y (.ref a) m'/\QS .next m' ((a,o,.dict [])::σ))(hk:autoParam (own=true) auR)
  (hs:autoParam (swapsWith (.Dict [] [] pe) (some (.Name y p')) p.line env=pure false) auR):AS C env vars gl own d (exec (.Assign [.Name y p'] (.Dict [] [] pe) p) env) m σ QS:=
 z1K (z2J q) hk hs
theorem z1O{a:Addr}{o:Obj}{xs:List V}{X:V}(hl:xs.length<=sizeLine)(q:∀o',Q .none ((a,o',.list (xs++[X]))::σ)):KW C d (.bi "list.append") [.ref a,X] ((a,o,.list xs)::σ) Q:=
 z7V (λo'=>Upd.head) hl q
theorem z4R{a:Addr}{o:Obj}{kvs:List (Str×V)}{k:Str}{X:V}{PS:Sto->Prop}(hn:(kvs.map (·.1)).Nodup)(hl:kvs.length<=sizeLine)(q:∀o',PS ((a,o',dS (z2c kvs k X))::σ)):SetR C d (.ref a) (.str k) X ((a,o,dS kvs)::σ) PS:=
 z5g (KK.str C.prog C.w) (σ':=λo'=>(a,o',dS (z2c kvs k X))::σ) (λo'=>Upd.head) hn hl q
theorem z1w{K:Type}[DecidableEq K]{kvs:List (K×V)}{k:K}{X:V}(h:k∉kvs.map (·.1)):z2c kvs k X=kvs++[(k,X)]:=by
 unfold z2c
 rw[if_neg]
 intro e
 obtain⟨p,hp,hk⟩:=List.any_eq_true.mp e
 exact h (List.mem_map.mpr ⟨p,hp,by simpa using hk⟩)
theorem z1k{K:Type}[DecidableEq K]{kvs:List (K×V)}{k:K}(h:k∉kvs.map (·.1)):vAt kvs k=none:=by
 unfold vAt
 rw[List.find?_eq_none.mpr]
 ·rfl
 ·intro p hp e;exact h (List.mem_map.mpr ⟨p,hp,by simpa using e⟩)
theorem z0X{K:Type}[DecidableEq K]{kvs:List (K×V)}{k:K}{X:V}(hn:(kvs.map (·.1)).Nodup)(h:(k,X)∈kvs):vAt kvs k=some X:=by
 induction kvs with
 |nil=>cases h
 |cons p r ih=>
  obtain⟨k',Y⟩:=p
  have hn':=List.nodup_cons.mp hn
  rcases List.mem_cons.mp h with e|h
  ·cases e;simp[vAt]
  ·have hne:k'≠k:=λe=>hn'.1 (by rw[e];exact List.mem_map.mpr ⟨_,h,rfl⟩)
   have:=ih hn'.2 h
   unfold vAt at this⊢
   rw[List.find?_cons];simpa[hne] using this
theorem z7f{P:Str->Prop}:∀{ys:List V},(∀y∈ys,∃w,y= .str w/\P w)->∃ws:List Str,ys=ws.map V.str/\∀w∈ws,P w
 |[],_=>⟨[],rfl,λ_ h=>by cases h⟩
 |y::ys,h=>by
  obtain⟨ws,rfl,hw⟩:=z7f λz hz=>h z (.tail _ hz)
  obtain⟨w,rfl,hp⟩:=h y (.head _)
  exact⟨w::ws,rfl,λz hz=>by rcases List.mem_cons.mp hz with rfl|hz;exact hp;exact hw z hz⟩
end
end
section
section
variable {C:Cx} {d:Nat} {σ:Sto} {Q:V->Sto->Prop}
theorem z1U{f:Addr}{xs:List V}(h:CW C d (.ref f) xs σ λx σ'=>∃a o ys τ,x= .ref a/\σ'=(a,o,.list ys)::τ/\Q (.lst ys) τ):CW C d (.ref f) xs σ Q:=λA G D s vs hA R hv=>
 codeAny_mono (h A G D s vs hA R hv) λr s' q=>by
  cases r with
  |error e=>exact q
  |ok fl=>
   cases fl<;>first|exact q.elim|skip
   obtain⟨x,D',σ',dx,hx,R',a,o,ys,τ,rfl,rfl,q⟩:=q
   cases hx
   obtain⟨R3,dx3,hv3⟩:=R'.freezeL (u:=[]) (v:=τ) rfl
   exact⟨.lst ys,_,τ,dx.trans dx3,hv3,R3,q⟩
end
end
section
section
variable {C:Cx} {env:Env} {vars:List Str} {gl:List (Str×V)} {own:Bool} {d:Nat} {m m':Loc} {σ:Sto} {Q:V->Sto->Prop} {QS:Fl->Loc->Sto->Prop} {G D:Gh} {s:Shared} {A:Around} {K:Type} [DecidableEq K]
theorem VRs.hd{w:World}{vs:List Value}{X:V}{xs:List V}(h:VRs w D vs (X::xs)):∃y r,vs=y::r/\VR w D y X/\VRs w D r xs:=by
 cases h with
 |cons h1 h2=>exact⟨_,_,rfl,h1,h2⟩
theorem VRs.lt{w:World}:∀{vs:List Value} {xs:List V} {X:V},VRs w D vs (xs++[X])->∃y r,vs=r++[y]/\VR w D y X/\VRs w D r xs
 |_,[],X,h=>by
  obtain⟨y,r,rfl,h1,h2⟩:=h.hd
  cases h2
  exact⟨y,[],rfl,h1,.nil⟩
 |_,x::xs,X,h=>by
  obtain⟨y,r,rfl,h1,h2⟩:=VRs.hd h
  obtain⟨z,r',rfl,h3,h4⟩:=VRs.lt h2
  exact⟨z,y::r',rfl,h3,.cons h1 h4⟩
theorem Has.p{x:V}{ao:AO}{P:Sto->Prop}(h:Has σ x ao P):P σ:=by cases h<;>first|trivial|assumption
theorem Has.mono{τ:Sto}{x:V}{ao:AO}{P:Sto->Prop}(h:Has σ x ao P)(hs:∀p∈σ,p∈τ):Has τ x ao P:=by
 cases h with
 |lst=>exact .lst _
 |dct=>exact .dct _
 |refL h=>exact .refL (hs _ h)
 |refD h=>exact .refD (hs _ h)
theorem y4s{a:Addr}{X:V}{xs:List V}(hm:At σ a (.list (xs++[X])))(hl:(xs++[X]).length<=sizeLine)(q:∀σ',UpdS σ σ' a (.list xs)->Q X σ'):KW C d (.bi "list.pop") [.ref a] σ Q:=λA G D s v vs hA R hv hss=>by
 apply VR.biE hv
 obtain⟨o,σ',U,US⟩:=hm.upd (.list xs)
 apply VRs.consE hss;intro _ _ h1 h2
 apply VRs.nilE h2
 apply VR.refE h1
 ·skip
  obtain⟨ws,n,rfl,hr⟩:∃ws n,o=z0r ws n/\VRs C.w D ws.toList (xs++[X]):=R.sto _ (U o).mem
  have ho:s.heap.get? a=some (z0r ws n):=R.pl _ (U (z0r ws n)).mem
  have hz:ws.size=(xs++[X]).length:=by rw[<-hr.length];simp
  obtain⟨y,r,e,hy,hr'⟩:=hr.lt
  have ew:ws=(r++[y]).toArray:=by rw[<-e,Array.toArray_toList]
  subst ew
  refine call_meets F.slot_list_pop ⟨_,ho,rfl⟩ F.entry_list_pop (F.args_list_pop_1 _) (MeetsSeq.list_pop_last a _ n y (by simp) (by rw[hz];exact hl)) ⟨ho,?_⟩
  have h1:=PyProof.Rows.get?_update_seq (c:="list") ho (λxs=>xs.eraseIdxIfInBounds ((r++[y]).toArray.size-1))
  have e3:((r++[y]).toArray.eraseIdxIfInBounds ((r++[y]).toArray.size-1)).toList=r:=by
   have:(r++[y]).eraseIdx r.length=r:=by rw[List.eraseIdx_append_of_length_le (Nat.le_refl _)];simp
   simpa[Array.eraseIdxIfInBounds] using this
  have:=R.upd (U _) s.toks (z0J _ _) (Heap.SameBut.update ..) rfl h1 ⟨_,_,rfl,by rw[e3];exact hr'⟩
  exact⟨X,D,_,DX.refl _ _,hy,this,q _ (US _)⟩
theorem y2s(kk:KK C.prog C.w K){a:Addr}{kvs:List (K×V)}(hs:z0K C)(hm:At σ a (.dict (z00 kk kvs)))(hn:(kvs.map (·.1)).Nodup)(hl:kvs.length<=sizeLine)
  (q:∀b o,Fresh σ b->Q (.ref b) ((b,o,.dict (z00 kk kvs))::σ)):KW C d (.type "dict") [.ref a] σ Q:=λA G D s v vs hA R hv hss=>by
 apply VR.typeE hv
 obtain⟨o,hm⟩:=hm
 apply VRs.consE hss;intro _ _ h1 h2
 apply VRs.nilE h2
 apply VR.refE h1
 ·skip
  obtain⟨cvs,hD,hk⟩:=RelC.dcH R kk hm hn
  refine kt_call_dict (R.notSys hs hm) hD (by rw[hk.length];exact hl) λh' hD' hsb=> ?_
  have R1:=R.newM (z1T #[] 0) (.dict []) ⟨#[],0,rfl,.nil⟩ rfl (λ_ _=>rfl)
  obtain⟨o',ho',hr'⟩:=HR.ofDict kk hD' hk
  exact⟨.ref _,D,_,DX.refl _ _,.ref _,R1.upd (Upd.head (o':=o') (x':= .dict (z00 kk kvs))) s.toks (z0J _ _) hsb rfl ho' hr',q _ _ R.fresh⟩
theorem z70{a:Addr}{kvs:List (Str×V)}(hs:z0K C)(hm:At σ a (dS kvs))(hn:(kvs.map (·.1)).Nodup)(hl:kvs.length<=sizeLine)
  (q:∀b o,Fresh σ b->Q (.ref b) ((b,o,dS kvs)::σ)):KW C d (.type "dict") [.ref a] σ Q:=y2s (KK.str C.prog C.w) hs hm hn hl q
end
end
section
section
variable {C:Cx} {env:Env} {vars:List Str} {gl:List (Str×V)} {own:Bool} {d:Nat} {m m':Loc} {σ:Sto} {Q:V->Sto->Prop} {QS:Fl->Loc->Sto->Prop} {G D:Gh} {s:Shared} {A:Around} {K:Type} [DecidableEq K]
noncomputable def y33(C:Cx)(A:Around)(s:Shared)(v u:Value):Prop:=∀(E:Value->Shared->Prop) (Z:Bool->Shared->Prop),Z true s->wpAny (model C.prog C.w) A (eqBool v u) Z E s
noncomputable def EqW(C:Cx)(σ:Sto)(x y:V):Prop:=∀(A:Around) (G D:Gh) (s:Shared) (v u:Value),A.units+70<cLine->RelC C G D σ s->VR C.w D v x->VR C.w D u y->y33 C A.in1 s v u
open AutoSeq1 (wpAny_loadPart')
open MeetsSeq MeetsSeq2 MeetsSeq3
theorem z6r(l b:Addr)(items items2:Array Value)(n n2:Nat)(hsz:items.size=items2.size)(k:Nat):
  ∀i:Nat,items.size-i=k->MeetsIn C.prog C.w (Builtin.«list.__eq__.loop» ⟨[.ref l,.ref b,rawInt i,rawInt 3],[]⟩)
   (λA R s=>s.heap.get? l=some (z0r items n)/\s.heap.get? b=some (z0r items2 n2)/\
    (∀j (h1:j<items.size) (h2:j<items2.size),y33 C A.in1 s items[j] items2[j])/\R (.ok (.ret (.bool false))) s):=by
 induction k with
 |zero=>
  intro i hk A R s h
  obtain⟨hp,g,d,tk,os⟩:=s;obtain⟨hl,hb,he,h⟩:=h
  wp_walk using wpAny_loadPart' hl,wpAny_loadPart' hb
  have hi1:items[((i:Nat):Int).toNat]? =none:=by simp;lia
  have hi2:items2[((i:Nat):Int).toNat]? =none:=by simp;lia
  rw[hi1,hi2]
  wp_walk using wpAny_loadPart' hl,wpAny_loadPart' hb
  show R (.ok (.ret (.bool (items.size !=items2.size)))) _
  rw[hsz]
  simpa using h
 |succ k ih=>
  intro i hk A R s h
  obtain⟨hp,g,d,tk,os⟩:=s;obtain⟨hl,hb,he,h⟩:=h
  wp_walk using wpAny_loadPart' hl,wpAny_loadPart' hb
  have hlt:i<items.size:=by lia
  have hlt2:i<items2.size:=by lia
  have hi1:items[((i:Nat):Int).toNat]? =some items[i]:=by simp[hlt]
  have hi2:items2[((i:Nat):Int).toNat]? =some items2[i]:=by simp[hlt2]
  have hc:((i:Int)+1)=((i+1:Nat):Int):=by push_cast;rfl
  rw[hi1,hi2]
  refine wpAny_bind (he i hlt hlt2 _ _ ?_)
  wp_walk
  rw[hc]
  exact⟨plainId_quiet plain_eq_loop _,codeAny_builtin entry_eq_loop (by
   rw[Around.under_plainId plain_eq_loop _]
   exact ih (i+1) (by lia) A R _ ⟨hl,hb,he,h⟩)⟩
theorem y2S(l b:Addr)(items items2:Array Value)(n n2:Nat)(hsz:items.size=items2.size):
  MeetsIn C.prog C.w (Builtin.«list.__ne__» ⟨[.ref l,.ref b],[]⟩)
   (λA R s=>s.heap.get? l=some (z0r items n)/\s.heap.get? b=some (z0r items2 n2)/\
    (∀j (h1:j<items.size) (h2:j<items2.size),y33 C A.in1 s items[j] items2[j])/\R (.ok (.ret (.bool false))) s):=by
 intro A R s h
 obtain⟨hp,g,d,tk,os⟩:=s;obtain⟨hl,hb,he,h⟩:=h
 have f3:=AutoSeq1.sub_list_list
 have hne:¬(items.size !=items2.size)=true:=by simp[hsz]
 wp_walk using wpAny_loadPart' hl,wpAny_loadPart' hb
 exact⟨plainId_quiet plain_eq_loop _,codeAny_builtin entry_eq_loop (by
  rw[Around.under_plainId plain_eq_loop _]
  exact z6r l b items items2 n n2 hsz _ 0 rfl A R _ ⟨hl,hb,he,h⟩)⟩
theorem y15{x y:V}{xs ys:List V}{P P':Sto->Prop}(hx:Has σ x (.list xs) P)(hy:Has σ y (.list ys) P')(hz:xs.length=ys.length)(h:∀(j:Nat) X Y,xs[j]? =some X->ys[j]? =some Y->EqW C σ X Y)(q:Q (.bool false) σ):AC2 C d (compareOp .NotEq) x y σ Q:=λA G D s v u hA R hv hu=>by
 apply Has.isListE hx R hv;intro a ws n ho hr
 apply Has.isListE hy R hu;intro b zs n' ho' hr'
 have e1:ws.size=xs.length:=by rw[<-hr.length];simp
 have e2:zs.size=ys.length:=by rw[<-hr'.length];simp
 refine wpAny_richCompare_same_room (op:= .NotEq) (T:="list") ⟨_,ho,rfl⟩ ⟨_,ho',rfl⟩ F.slot_list_ne (call_meetsIn F.slot_list_ne ⟨_,ho,rfl⟩ F.entry_list_ne (F.args_list_ne_2 _ _) (y2S a b ws zs n n' (by lia)) ⟨ho,ho',λj h1 h2=> ?_,?_⟩) hA.line0
 ·obtain⟨u1,hu1,r1⟩:=hr.get (List.getElem?_eq_getElem (by lia:j<xs.length))
  obtain⟨u2,hu2,r2⟩:=hr'.get (List.getElem?_eq_getElem (by lia:j<ys.length))
  rw[Array.getElem?_toList,Array.getElem?_eq_getElem h1] at hu1
  rw[Array.getElem?_toList,Array.getElem?_eq_getElem h2] at hu2
  cases hu1;cases hu2
  exact h j _ _ (List.getElem?_eq_getElem (by lia)) (List.getElem?_eq_getElem (by lia)) A G D s _ _ (by have:=hA.units;show A.units+70<9900;lia) R r1 r2
 ·exact⟨(λx=>nomatch x),PostC.now R (.bool _) q⟩
end
end
section
noncomputable def z2Q(c:Nat):Bool:=decide (97<=c)&&decide (c<=122)
noncomputable def Lt(x:Str):Prop:=∀c∈x.cps.toList,z2Q c=true
theorem Lt.append{x y:Str}(hx:Lt x)(hy:Lt y):Lt (x++y):=by
 intro c hc
 have:c∈(x.cps++y.cps).toList:=hc
 rw[Array.toList_append,List.mem_append] at this
 rcases this with h|h
 ·exact hx c h
 ·exact hy c h
theorem z1v(x y:Str):(x++y).length=x.length+y.length:=by
 show(x.cps++y.cps).size=_
 rw[Array.size_append];rfl
theorem Lt.slice{x:Str}(hx:Lt x)(l u:Option Int):Lt (Txt.slice x l u):=by
 unfold Txt.slice
 split
 ·exact hx
 ·intro c hc
  simp only[List.mem_filterMap] at hc
  obtain⟨i,_,e⟩:=hc
  exact hx c (by simpa using Array.mem_of_getElem? e)
theorem z3i{α:Type}(xs:Array α):∀(l:List Nat),(∀i∈l,i<xs.size)->(l.filterMap (xs[·]?)).length=l.length
 |[],_=>rfl
 |i::l,h=>by
  have hi:=h i (.head _)
  rw[List.filterMap_cons,Array.getElem?_eq_getElem hi]
  simp[z3i xs l λj hj=>h j (.tail _ hj)]
set_option tactic.hygienic true in
theorem z51{x:Str}(l u:Option Int)(h:∀i∈Builtin.Str.strSliceIndices l u 1 x.length,i<x.length):(Txt.slice x l u).length=(Builtin.Str.strSliceIndices l u 1 x.length).length:=by
 unfold Txt.slice
 split
 ·rename_i h1;simp at h1;exact h1.symm
 ·show(List.toArray _).size=_
  rw[List.size_toArray,z3i x.cps _ h]
theorem sr1{a b:Nat}(h:a<=b):sliceRange (a:Int) (b:Int) 1=(List.range (b-a)).map λk=>a+k:=by
 obtain⟨c,rfl⟩:=Nat.exists_eq_add_of_le h
 have e:(if(a:Int)<((a+c:Nat):Int) then(((a+c:Nat):Int)-a+1-1)/1 else 0)=(c:Int):=by
  rw[Int.ediv_one]
  split<;>lia
 show(List.range (if(a:Int)<((a+c:Nat):Int) then(((a+c:Nat):Int)-a+1-1)/1 else 0).toNat).map _=_
 rw[e,Int.toNat_natCast,Nat.add_sub_cancel_left]
 refine List.map_congr_left λk _=> ?_
 rw[Int.one_mul]
 exact Int.toNat_natCast (a+k)
theorem z83{n l:Nat}(h:n<=l):max 0 (min (if(n:Int)<0 then(n:Int)+l else n) (l:Int))=(n:Int):=by
 rw[if_neg (Int.not_lt.mpr (Int.natCast_nonneg n)),Int.min_eq_left (Int.ofNat_le.mpr h),Int.max_eq_right (Int.natCast_nonneg n)]
theorem z6j{x:Str}{n:Nat}(h:n<=x.length):(Txt.slice x none (some (n:Int))).length=n:=by
 have e:Builtin.Str.strSliceIndices none (some (n:Int)) 1 x.length=(List.range (n-0)).map λk=>0+k:=by
  show sliceRange ((0:Nat):Int) (max 0 (min (if(n:Int)<0 then(n:Int)+x.length else n) (x.length:Int))) 1=_
  rw[z83 h,sr1 (Nat.zero_le n)]
 rw[z51,e,List.length_map,List.length_range]
 ·rfl
 ·rw[e];intro i hi
  obtain⟨j,hj,rfl⟩:=List.mem_map.mp hi
  rw[Nat.zero_add];exact Nat.lt_of_lt_of_le (List.mem_range.mp hj) h
theorem z5O{x:Str}{n:Nat}(h:n<=x.length):(Txt.slice x (some (n:Int)) none).length=x.length-n:=by
 have e:Builtin.Str.strSliceIndices (some (n:Int)) none 1 x.length=(List.range (x.length-n)).map λk=>n+k:=by
  show sliceRange (max 0 (min (if(n:Int)<0 then(n:Int)+x.length else n) (x.length:Int))) (x.length:Int) 1=_
  rw[z83 h,sr1 h]
 rw[z51,e,List.length_map,List.length_range]
 rw[e];intro i hi
 obtain⟨j,hj,rfl⟩:=List.mem_map.mp hi
 exact Nat.add_lt_of_lt_sub' (List.mem_range.mp hj)
theorem y1Y(ps:List Str):∀(acc:Array Nat),(∀c∈acc.toList,z2Q c=true)->(∀p∈ps,Lt p/\p.length=1)->
  (∀c∈(ps.foldl (λacc p=>acc++(Str.ofString "").cps++p.cps) acc).toList,z2Q c=true)/\(ps.foldl (λacc p=>acc++(Str.ofString "").cps++p.cps) acc).size=acc.size+ps.length:=by
 have e0:(Str.ofString "").cps= #[]:=by decide+kernel
 rw[e0]
 induction ps with
 |nil=>intro acc h _;exact⟨h,rfl⟩
 |cons p ps ih=>
  intro acc h hp
  have h1:=hp p (.head _)
  have:=ih (acc++ #[]++p.cps) (by
   intro c hc
   simp only[Array.append_empty,Array.toList_append,List.mem_append] at hc
   rcases hc with hc|hc
   ·exact h c hc
   ·exact h1.1 c hc) (λq hq=>hp q (.tail _ hq))
  refine⟨this.1,?_⟩
  rw[List.foldl_cons,this.2]
  have:p.cps.size=1:=h1.2
  simp[this];lia
theorem y2A{ps:List Str}(hp:∀p∈ps,Lt p/\p.length=1):Lt (Txt.join "" ps)/\(Txt.join "" ps).length=ps.length:=by
 unfold Txt.join Builtin.Str.glued
 cases ps with
 |nil=>exact⟨λc hc=>by simp[Str.empty] at hc,rfl⟩
 |cons p ps=>
  have h1:=hp p (.head _)
  have:=y1Y ps p.cps h1.1 λq hq=>hp q (.tail _ hq)
  refine⟨this.1,?_⟩
  show(ps.foldl (λacc p=>acc++(Str.ofString "").cps++p.cps) p.cps).size=_
  rw[this.2]
  have:p.cps.size=1:=h1.2
  simp[this];lia
theorem z6u{ps:List Str}(hp:∀p∈ps,p.length=1)(hl:ps.length<=1000):JoinOk "" ps=true:=by
 unfold JoinOk
 have e0:(Str.ofString "").length=0:=by decide+kernel
 have:∀(l:List Str) (n:Nat),(∀p∈l,p.length=1)->l.foldl (λ(a:Nat) (p:Str)=>a+p.length+(Str.ofString "").length) n=n+l.length:=by
  intro l
  induction l with
  |nil=>intro n _;rfl
  |cons p l ih=>intro n h;rw[List.foldl_cons,ih _ (λq hq=>h q (.tail _ hq)),h p (.head _),e0];simp;lia
 have h2:ps.toArray.foldl (λ(a:Nat) (p:Str)=>a+p.length+(Str.ofString "").length) 0=ps.length:=by
  rw[<-Array.foldl_toList];rw[this _ _ hp];simp
 rw[h2]
 unfold Builtin.Str.tooLong
 simp
 show ps.length<=16777216
 lia
theorem z2A{α:Type}(xs:List α):∀(l:List Nat),(∀i∈l,i<xs.length)->(l.filterMap (xs[·]?)).length=l.length
 |[],_=>rfl
 |i::l,h=>by
  have hi:=h i (.head _)
  rw[List.filterMap_cons,List.getElem?_eq_getElem hi]
  simp[z2A xs l λj hj=>h j (.tail _ hj)]
theorem srm{n:Nat}:sliceRange ((n:Int)-1) (-1) (-1)=(List.range n).map λk=>n-1-k:=by
 have e:(if(n:Int)-1> -1 then((n:Int)-1- -1- -1-1)/ -(-1) else 0)=(n:Int):=by
  rw[show-(-1:Int)=1 from rfl,Int.ediv_one]
  split<;>lia
 show(List.range (if(n:Int)-1> -1 then((n:Int)-1- -1- -1-1)/ -(-1) else 0).toNat).map _=_
 rw[e,Int.toNat_natCast]
 exact List.map_congr_left λk hk=>by have:=List.mem_range.mp hk;lia
theorem y0K{xs:List V}{k:Int}(h:k=1∨k= -1):(slL xs none none (some k)).length=xs.length:=by
 have key:∀l:List Nat,(∀i∈l,i<xs.length)->l.length=xs.length->(l.filterMap (xs[·]?)).length=xs.length:=λl h1 h2=>(z2A xs l h1).trans h2
 rcases h with rfl|rfl
 ·have e:sliceRange ((0:Nat):Int) (xs.length:Int) 1=_:=sr1 (Nat.zero_le xs.length)
  show((sliceRange ((0:Nat):Int) (xs.length:Int) 1).filterMap (xs[·]?)).length=_
  rw[e]
  refine key _ (λi hi=> ?_) (by rw[List.length_map,List.length_range];rfl)
  obtain⟨j,hj,rfl⟩:=List.mem_map.mp hi
  rw[Nat.zero_add];exact List.mem_range.mp hj
 ·show((sliceRange ((xs.length:Int)-1) (-1) (-1)).filterMap (xs[·]?)).length=_
  rw[srm]
  refine key _ (λi hi=> ?_) (by rw[List.length_map,List.length_range])
  obtain⟨j,hj,rfl⟩:=List.mem_map.mp hi
  have hj:=List.mem_range.mp hj
  lia
theorem let_size:("abcdefghijklmnopqrstuvwxyz":Str).cps.size=26:=by decide+kernel
theorem let_lt:Lt ("abcdefghijklmnopqrstuvwxyz":Str):=by
 have:("abcdefghijklmnopqrstuvwxyz":Str).cps.toList.all z2Q=true:=by decide+kernel
 intro c hc
 exact List.all_eq_true.mp this c hc
theorem z8R{k:Int}(h0:0<=k)(h1:k<26):∃c,("abcdefghijklmnopqrstuvwxyz":Str).cps[k.toNat]? =some c/\z2Q c=true:=by
 have hk:k.toNat<("abcdefghijklmnopqrstuvwxyz":Str).cps.size:=by rw[let_size];lia
 refine⟨_,Array.getElem?_eq_getElem hk,let_lt _ (by simp)⟩
theorem let_small:∀c<128,(!(Builtin.Str.occurrences ("abcdefghijklmnopqrstuvwxyz":Str) ⟨#[c]⟩ 0 (Str.length "abcdefghijklmnopqrstuvwxyz") 1).isEmpty)=z2Q c:=by
 decide+kernel
theorem y0O{c:Nat}(h:z2Q c=true):Lt ⟨#[c]⟩:=by
 intro k hk
 simp at hk
 subst hk;exact h
structure Ware(x:Str):Prop where
 lo:1<=x.length
 hi:x.length<=8
 lt:Lt x
end
section
inductive Bf(nx:Str->List Str):Nat->List Str->List Str->List Str->Prop
 |nil {f:List Str}:Bf nx 0 f [] f
 |skip {n:Nat} {f w r:List Str} {x:Str}:x∈f->Bf nx n f w r->Bf nx (n+1) f (x::w) r
 |take {n:Nat} {f w r:List Str} {x:Str}:x∉f->Bf nx n (f++[x]) (w++nx x) r->Bf nx (n+1) f (x::w) r
section
variable {nx:Str->List Str}
theorem Bf.len{n:Nat}{f w r:List Str}(h:Bf nx n f w r):w.length<=n:=by
 induction h with
 |nil=>exact Nat.le_refl _
 |skip _ _ ih=>simp;lia
 |take _ _ ih=>simp at ih⊢;lia
theorem Bf.rlen{n:Nat}{f w r:List Str}(h:Bf nx n f w r):r.length<=f.length+n:=by
 induction h with
 |nil=>exact Nat.le_refl _
 |skip _ _ ih=>lia
 |take _ _ ih=>simp at ih;lia
theorem Bf.all{P:Str->Prop}(hn:∀x,∀y∈nx x,P y){n:Nat}{f w r:List Str}(h:Bf nx n f w r):(∀x∈f,P x)->(∀x∈w,P x)->∀x∈r,P x:=by
 induction h with
 |nil=>exactλh _=>h
 |skip _ _ ih=>exactλh1 h2=>ih h1 λx hx=>h2 x (.tail _ hx)
 | @take n f w r x _ _ ih=>
  intro h1 h2
  refine ih (λy hy=> ?_) λy hy=> ?_
  ·rcases List.mem_append.mp hy with h|h
   ·exact h1 y h
   ·rw[List.mem_singleton.mp h];exact h2 _ (.head _)
  ·rcases List.mem_append.mp hy with h|h
   ·exact h2 y (.tail _ h)
   ·exact hn x y h
theorem Bf.drop{n:Nat}{f u r:List Str}(h:Bf nx n f u r):∀{w1 w2:List Str} {y:Str},u=w1++y::w2->(y∈f∨y∈w1)->∃k,k<=n/\Bf nx k f (w1++w2) r:=by
 induction h with
 |nil=>intro w1 w2 y e _;simp at e
 | @skip n f w r x hx h ih=>
  intro w1 w2 y e hy
  cases w1 with
  |nil=>simp at e;obtain⟨rfl,rfl⟩:=e;exact⟨n,by lia,h⟩
  |cons z w1=>
   simp at e;obtain⟨rfl,rfl⟩:=e
   obtain⟨k,hk,hb⟩:=ih rfl (by
    rcases hy with h|h
    ·exact .inl h
    ·rcases List.mem_cons.mp h with rfl|h
     ·exact .inl hx
     ·exact .inr h)
   exact⟨k+1,by lia,.skip hx hb⟩
 | @take n f w r x hx h ih=>
  intro w1 w2 y e hy
  cases w1 with
  |nil=>
   simp at e;obtain⟨rfl,rfl⟩:=e
   rcases hy with h|h
   ·exact absurd h hx
   ·cases h
  |cons z w1=>
   simp at e;obtain⟨rfl,rfl⟩:=e
   obtain⟨k,hk,hb⟩:=ih (w1:=w1) (w2:=w2++nx x) (y:=y) (by simp) (by
    rcases hy with h|h
    ·exact .inl (List.mem_append_left _ h)
    ·rcases List.mem_cons.mp h with rfl|h
     ·exact .inl (List.mem_append_right _ (.head _))
     ·exact .inr h)
   exact⟨k+1,by lia,.take hx (by simpa using hb)⟩
noncomputable def z1c(f ys:List Str):List Str:=ys.foldl (λg y=>if g.any (·==y) then g else g++[y]) f
theorem any_mem{xs:List Str}{k:Str}:xs.any (·==k)=true↔k∈xs:=by simp[List.any_eq_true]
theorem addNew_nodup:∀{ys f:List Str},f.Nodup->(z1c f ys).Nodup
 |[],f,h=>h
 |y::ys,f,h=>by
  show(z1c (if f.any (·==y) then f else f++[y]) ys).Nodup
  refine addNew_nodup ?_
  by_cases e:f.any (·==y)=true
  ·rw[if_pos e];exact h
  ·rw[if_neg e]
   exact List.nodup_append.mpr ⟨h,by simp,λa ha b hb=>by rw[List.mem_singleton.mp hb];exactλe2=>e (any_mem.mpr (e2▸ha))⟩
theorem z8a(f ys:List Str)(y:Str):z1c f (ys++[y])=if(z1c f ys).any (·==y) then z1c f ys else z1c f ys++[y]:=by
 unfold z1c;rw[List.foldl_append];rfl
theorem addNew_len:∀(ys f:List Str),(z1c f ys).length<=f.length+ys.length
 |[],f=>Nat.le_refl _
 |y::ys,f=>by
  show(z1c (if f.any (·==y) then f else f++[y]) ys).length<=_
  have:=addNew_len ys (if f.any (·==y) then f else f++[y])
  split at this<;>simp at this⊢<;>split<;>simp_all<;>lia
theorem Bf.news{r f:List Str}:∀{ys w:List Str} {n:Nat},Bf nx n f (w++ys) r->∃k v,k<=n/\Bf nx k f v r/\z1c (f++w) ys=f++v
 |[],w,n,h=>⟨n,w,Nat.le_refl _,by simpa using h,rfl⟩
 |y::ys,w,n,h=>by
  show∃k v,k<=n/\Bf nx k f v r/\z1c (if(f++w).any (·==y) then f++w else(f++w)++[y]) ys=f++v
  by_cases e:(f++w).any (·==y)=true
  ·rw[if_pos e]
   obtain⟨k,hk,hb⟩:=h.drop rfl (List.mem_append.mp (any_mem.mp e))
   obtain⟨k',v,hk',hb',e'⟩:=Bf.news hb
   exact⟨k',v,by lia,hb',e'⟩
  ·rw[if_neg e]
   obtain⟨k',v,hk',hb',e'⟩:=Bf.news (ys:=ys) (w:=w++[y]) (n:=n) (by simpa using h)
   exact⟨k',v,hk',hb',by rw[<-e'];simp⟩
noncomputable def rest(nx:Str->List Str)(U f:List Str):Nat:=((U.filter λx=> !f.any (·==x)).map λx=>(nx x).length).sum
theorem z9b(U f:List Str)(x:Str):rest nx U (f++[x])<=rest nx U f:=by
 induction U with
 |nil=>exact Nat.le_refl _
 |cons u U ih=>
  unfold rest at*
  simp only[List.filter_cons]
  by_cases e:f.any (·==u)=true
  ·have e2:(f++[x]).any (·==u)=true:=by rw[List.any_append,e];rfl
   simp only[e,e2,Bool.not_true,Bool.false_eq_true,if_false];exact ih
  ·have e':f.any (·==u)=false:=eq_false_of_ne_true e
   simp only[e',Bool.not_false,if_true]
   split
   ·simp only[List.map_cons,List.sum_cons];lia
   ·simp only[List.map_cons,List.sum_cons];lia
theorem y2t{U f:List Str}{x:Str}(hx:x∈U)(hf:x∉f):rest nx U (f++[x])+(nx x).length<=rest nx U f:=by
 induction U with
 |nil=>cases hx
 |cons u U ih=>
  by_cases e:u=x
  ·subst e
   have h1:f.any (·==u)=false:=by
    cases h:f.any (·==u) with
    |false=>rfl
    |true=>exact absurd (any_mem.mp h) hf
   have h2:(f++[u]).any (·==u)=true:=any_mem.mpr (by simp)
   have:=z9b (nx:=nx) U f u
   unfold rest at*
   simp only[List.filter_cons,h1,h2,Bool.not_true,Bool.not_false,Bool.false_eq_true,if_false,if_true,List.map_cons,List.sum_cons]
   lia
  ·have ih:=ih (by
    rcases List.mem_cons.mp hx with h|h
    ·exact absurd h.symm e
    ·exact h)
   have h2:(f++[x]).any (·==u)=f.any (·==u):=by
    rw[List.any_append]
    have:([x].any λy=>y==u)=false:=by simp;exactλh=>e h.symm
    rw[this,Bool.or_false]
   unfold rest at*
   simp only[List.filter_cons,h2]
   split
   ·simp only[List.map_cons,List.sum_cons];lia
   ·exact ih
theorem y1B{U:List Str}(hU:∀x,x∉U->nx x=[]):∀(n:Nat) (f w:List Str),w.length+rest nx U f<=n->∃k r,k<=n/\Bf nx k f w r
 |n,f,[],_=>⟨0,f,Nat.zero_le _,.nil⟩
 |0,f,x::w,h=>by simp at h
 |n+1,f,x::w,h=>by
  simp at h
  by_cases e:x∈f
  ·obtain⟨k,r,hk,hb⟩:=y1B hU n f w (by lia)
   exact⟨k+1,r,by lia,.skip e hb⟩
  ·obtain⟨k,r,hk,hb⟩:=y1B hU n (f++[x]) (w++nx x) (by
    by_cases hx:x∈U
    ·have:=y2t (nx:=nx) hx e;simp;lia
    ·have:=z9b (nx:=nx) U f x;rw[hU x hx];simp;lia)
   exact⟨k+1,r,by lia,.take e hb⟩
theorem y0G{U f:List Str}{b:Nat}(h:∀x,(nx x).length<=b):rest nx U f<=b*U.length:=by
 induction U with
 |nil=>exact Nat.zero_le _
 |cons u U ih=>
  have:=h u
  unfold rest at*
  simp only[List.filter_cons]
  rw[List.length_cons,Nat.mul_succ]
  split
  ·simp;lia
  ·lia
end
end
section
section
variable {M:Model} {A:Around} {E:Value->Shared->Prop} {s:Shared}
end
section
variable {C:Cx} {env:Env} {vars:List Str} {gl gl':List (Str×V)} {own:Bool} {d:Nat} {m m':Loc} {σ σ':Sto}
variable {A:Around} {G D D₀ D₁:Gh} {s:Shared}
theorem z4J{Q:V->Sto->Prop}{x y:V}{xs ys:List V}{P P':Sto->Prop}(h:Has σ x (.list xs) P)(h':Has σ y (.list ys) P')(hl:xs.length+ys.length<=sizeLine)(q:∀a o,Fresh σ a->Q (.ref a) ((a,o,.list (xs++ys))::σ)):AC2 C d (binaryOp .Add) x y σ Q:=λA G D s v u hA R hv hu=>by
 apply Has.isListE h R hv;intro a ws n ho hr
 apply Has.isListE h' R hu;intro b zs n' ho' hr'
 have e1:ws.size=xs.length:=by rw[<-hr.length];simp
 have e2:zs.size=ys.length:=by rw[<-hr'.length];simp
 refine concat_meets ⟨_,ho,rfl⟩ ⟨_,ho',rfl⟩ noFill_list_add seq_list_add F.slot_list_add F.entry_list_add (F.args_list_add_2 _ _) (PyProof.Rows.list_addW a b ws zs n n' none none #[] #[] (by lia)) ⟨ho,ho',?_⟩
 have e:ws++zs=(ws.toList++zs.toList).toArray:=by simp
 rw[e]
 exact⟨.ref _,D,_,DX.refl _ _,.ref _,R.newM (z0r (ws.toList++zs.toList).toArray 0) (.list (xs++ys)) ⟨_,0,rfl,by simpa using hr.append hr'⟩ rfl (λ_ _=>rfl),q _ _ R.fresh⟩
end
end
section
section
variable {C:Cx} {env:Env} {vars:List Str} {gl:List (Str×V)} {own:Bool} {d:Nat} {m m':Loc} {σ:Sto} {Q:V->Sto->Prop} {QS:Fl->Loc->Sto->Prop} {G D:Gh} {s:Shared} {A:Around} {K:Type} [DecidableEq K]
inductive F2{α β:Type}(R:α->β->Prop):List α->List β->Prop
 |nil:F2 R [] []
 |cons {a:α} {b:β} {as:List α} {bs:List β}:R a b->F2 R as bs->F2 R (a::as) (b::bs)
theorem VRs.set{w:World}{D:Gh}:∀{vs:List Value} {xs:List V} {j:Nat} {u:Value} {X:V},VRs w D vs xs->VR w D u X->VRs w D (vs.set j u) (xs.set j X)
 |[],xs,j,u,X,h,_=>by cases h;exact .nil
 |v::vs,xs,0,u,X,h,hu=>by cases h with|cons _ h2=>exact .cons hu h2
 |v::vs,xs,j+1,u,X,h,hu=>by cases h with|cons h1 h2=>exact .cons h1 (VRs.set h2 hu)
theorem y5a{a:Addr}{xs:List V}{j:Nat}{X:V}{PS:Sto->Prop}(h:At σ a (.list xs))(hj:j<xs.length)(h6:j<1000)(q:∀σ',UpdS σ σ' a (.list (xs.set j X))->PS σ'):SetR C d (.ref a) (.int (j:Int)) X σ PS:=λA G D s o k' u hA R ho hk hu=>by
 apply VR.refE ho
 apply VR.intE hk;intro t
 obtain⟨oo,σ',U,US⟩:=h.upd (.list (xs.set j X))
 obtain⟨ws,n,rfl,hr⟩:∃ws n,oo=z0r ws n/\VRs C.w D ws.toList xs:=R.sto _ (U oo).mem
 have ho:s.heap.get? a=some (z0r ws n):=R.pl _ (U (z0r ws n)).mem
 have hz:ws.size=xs.length:=by rw[<-hr.length];simp
 refine W.ki_setAt (items:=ws) ho (Int.natCast_nonneg j) (by lia) (by lia) ?_
 have h1:=PyProof.Rows.get?_update_seq (c:="list") ho (λxs=>xs.setIfInBounds (j:Int).toNat u)
 have e3:(ws.setIfInBounds (j:Int).toNat u).toList=ws.toList.set j u:=by simp
 have:=R.upd (U _) s.toks (z0J _ _) (Heap.SameBut.update ..) rfl h1 ⟨_,_,rfl,by rw[e3];exact hr.set hu⟩
 exact⟨D,_,DX.refl _ _,this,q _ (US _)⟩
theorem z8w{caps:List Str}{x:Str}{elt:Expr}{pp:Pos}{P:Sto->Prop}{Z:List V->Sto->Prop}{ms:Loc}{Gd:V->Prop}(hk:env.kindOf x=some .local)(hP:P σ)(xs:List V):
  ∀(acc:List V) (o:Option V),(∀X∈xs,∀K:V->Sto->Prop,(∀Y,Gd Y->K Y σ)->AT C env (x::caps) gl false d (eval elt env) (some X::ms) σ K)->(∀ys:List V,ys.length=xs.length->(∀y∈ys,Gd y)->Z (acc++ys) σ)->
   z0S C env (x::caps) gl d (.Name x pp) elt [] P Z xs acc (o::ms) σ:=by
 induction xs with
 |nil=>intro acc o _ q;simpa[z0S] using q [] rfl (λ_ h=>by cases h)
 |cons X xs ih=>
  intro acc o h q
  refine z0w Put.head ?_ (.inr hk)
  refine⟨λ_=>h X (.head _) _ λY hY=>⟨hP,ih (acc++[Y]) (some X) (λY hY=>h Y (.tail _ hY)) λys hl hs=> ?_⟩,λe=>by cases e⟩
  rw[List.append_assoc]
  refine q (Y::ys) (by rw[List.length_cons,List.length_cons,hl]) λy hm=> ?_
  rcases List.mem_cons.mp hm with rfl|hm
  ·exact hY
  ·exact hs y hm
theorem z8z{caps:List Str}{x y:Str}{elt:Expr}{p1 p2 pt:Pos}{kt:Nat}{P:Sto->Prop}{Z:List V->Sto->Prop}{ms:Loc}{Gd:V×V->V->Prop}(hk1:env.kindOf x=some .local)(hk2:env.kindOf y=some .local)(hP:P σ)(ps:List (V×V)):
  ∀(acc:List V) (o1 o2:Option V),(∀p∈ps,∀K:V->Sto->Prop,(∀Y,Gd p Y->K Y σ)->AT C env (x::y::caps) gl false d (eval elt env) (some p.1::some p.2::ms) σ K)->(∀ys:List V,F2 Gd ps ys->Z (acc++ys) σ)->
   z0S C env (x::y::caps) gl d (.Tuple [.Name x p1,.Name y p2] kt pt) elt [] P Z (ps.map λp=>V.tup [p.1,p.2]) acc (o1::o2::ms) σ:=by
 induction ps with
 |nil=>intro acc o1 o2 _ q;simpa[z0S] using q [] .nil
 |cons p ps ih=>
  intro acc o1 o2 h q
  refine y0i (z0w Put.head (z0w (Put.tail Put.head) ?_ (.inr hk2)) (.inr hk1))
  refine⟨λ_=>h p (.head _) _ λY hY=>⟨hP,ih (acc++[Y]) _ _ (λY hY=>h Y (.tail _ hY)) λys hs=> ?_⟩,λe=>by cases e⟩
  rw[List.append_assoc]
  exact q (Y::ys) (.cons hY hs)
theorem y3Q{kvs:List (K×V)}{k:K}{X:V}(h:vAt kvs k=some X):(k,X)∈kvs:=by
 unfold vAt at h
 obtain⟨⟨k',Y⟩,e,rfl⟩:=Option.map_eq_some_iff.mp h
 have h2:=List.find?_some e
 have h3:k'=k:=by simpa using h2
 rw[<-h3];exact List.mem_of_find?_eq_some e
open AutoSeq1 (wpAny_loadPart')
open MeetsSeq
theorem y2O(l b:Addr)(items items2:Array Value)(n n2:Nat)(hsz:(items.size !=items2.size)=true):
  MeetsIn C.prog C.w (Builtin.«list.__ne__» ⟨[.ref l,.ref b],[]⟩)
   (λA R s=>s.heap.get? l=some (z0r items n)/\s.heap.get? b=some (z0r items2 n2)/\R (.ok (.ret (.bool true))) s):=by
 intro A R s h
 obtain⟨hp,g,d,tk,os⟩:=s;obtain⟨hl,hb,h⟩:=h
 have f3:=AutoSeq1.sub_list_list
 wp_walk using wpAny_loadPart' hl,wpAny_loadPart' hb
 exact h
theorem z4c{x:V}{xs:List V}{P:Sto->Prop}(hx:Has σ x (.list xs) P)(q:Q (.bool (!xs.isEmpty)) σ):AC2 C d (compareOp .NotEq) x (.lst []) σ Q:=by
 cases xs with
 |nil=>exact y15 hx (.lst _) rfl (λj X Y h=>by cases h) q
 |cons X xs=>
  intro A G D s v u hA R hv hu
  apply Has.isListE hx R hv;intro a ws n ho hr
  apply Has.isListE (Has.lst (σ:=σ) []) R hu;intro b zs n' ho' hr'
  have e1:ws.size=xs.length+1:=by rw[<-Array.length_toList,hr.length,List.length_cons]
  have e2:zs.size=0:=by rw[<-Array.length_toList,hr'.length];rfl
  refine wpAny_richCompare_same_room (op:= .NotEq) (T:="list") ⟨_,ho,rfl⟩ ⟨_,ho',rfl⟩ F.slot_list_ne (call_meetsIn F.slot_list_ne ⟨_,ho,rfl⟩ F.entry_list_ne (F.args_list_ne_2 _ _) (y2O a b ws zs n n' (by rw[e1,e2];rfl)) ⟨ho,ho',?_⟩) hA.line0
  exact⟨(λx=>nomatch x),PostC.now R (.bool _) q⟩
end
end
section
section
variable {C:Cx} {env:Env} {vars:List Str} {gl:List (Str×V)} {own:Bool} {d:Nat} {m m':Loc} {σ:Sto} {Q:V->Sto->Prop} {QI:List V->(Sto->Prop)->Sto->Prop}
theorem y4U{np p:Pos}{e tgt:Expr}(h:AT C env vars gl own d (eval (.Name "reversed" np) env) m σ λF σ₁=>F= .type "reversed"/\AL C env vars gl own d (spliced (backTo p (starEach [e] env))) m σ₁ λXs σ₂=>∃X xs P,Xs=[X]/\Has σ₂ X (.list xs) P/\QI xs.reverse P σ₂)
  (he:autoParam (starEach [e] env=(false,eval e env)::starEach [] env) auR) (hplain:autoParam ((backTo p (starEach [] env)).any (·.1)=false) auR):
  AI C env vars gl own d (.Call (.Name "reversed" np) [e] [] p) tgt m σ QI:=λA G D s hA R=>by
 refine wpAny_Call_ofName (h.run hA R λv s₁ F D₁ σ₁ a b c hpp=> ?_)
 obtain⟨hF,hk⟩:=hpp
 subst hF
 refine z1n (F:= .type "reversed") trivial b (by rw[he];exact hplain) ?_
 rw[he] at hk⊢
 refine Calls.evalArgs_plain (AL.run hk hA c λvs s₂ Xs D₂ σ₂ a' b' c' hpp=> ?_)
 obtain⟨X,xs,P,hX,hH,q⟩:=hpp
 refine⟨c'.toRelC.baseIn,?_⟩
 subst hX
 apply VR.typeE b
 apply VRs.consE b';intro _ _ h1 h2
 apply VRs.nilE h2
 apply Has.runLE hH c'.toRelC h1;intro ax vs n ho hr hP hst
 have hl:s₂.heap.IsList ax vs:=⟨_,ho,rfl,n,rfl⟩
 have hne:ax≠s₂.heap.objs.size:=Nat.ne_of_lt (Heap.lt_size ho)
 have hz:vs.size=xs.length:=by rw[<-hr.length,Array.length_toList]
 have hit:(s₂.heap.push (revObj ax ((vs.size:Int)-1))).IsRevIter s₂.heap.objs.size ax ((vs.size:Int)-1-((0:Nat):Int)):=⟨_,Heap.get?_push_size _ rfl,rfl,by simp[revObj]⟩
 refine call_reversed_list hl (wpAny_pyIter_revIter hit ⟨D₂,σ₂,xs.reverse,P,a.trans a',⟨s₂.heap.objs.size,_,_,_,rfl,IW.two (Walks.listRev hA.h s₂.heap.objs.size ax hne vs) (by rw[List.length_reverse];exact hz) ?_ (λi h st=>by obtain⟨_,⟨o,ho,hc,_⟩,_⟩:=st;exact⟨o,_,ho,hc,by decide⟩) (λh st=>by obtain⟨_,_,o,ho,_⟩:=st;exact⟨o,ho⟩),⟨Nat.zero_le _,hit,hl.push _⟩,c'.push _,c'.offNew (z0r #[] 0),hP,z9z ho hst⟩,q⟩)
 ·intro i u X e hX
  have hi:i<xs.length:=by rw[<-List.length_reverse];exact(List.getElem?_eq_some_iff.mp hX).1
  rw[List.getElem?_reverse hi] at hX
  obtain⟨u',e',r⟩:=hr.get hX
  rw[Array.getElem?_toList,<-hz,e] at e';cases e';exact r
theorem y4e{x:V}{ns:List Int}{k:Int}{P:Sto->Prop}(h:Has σ x (.list (ns.map V.int)) P)(q:Q (.bool (ns.any (·==k))) σ):AC2 C d (compareOp .In) (.int k) x σ Q:=λA G D s v u hA R hv hu=>by
 apply Has.isLE h R hu;intro a ws hL hr
 apply VR.intE hv;intro t
 exact PyProof.Rows.in_list_ints (vs:=ws.toList) (by simpa using hL) hr.ints (PostC.now R (.bool _) q)
theorem y44{t:Sem Value}(h:(foot σ).Nodup->AT C env vars gl own d t m σ Q):AT C env vars gl own d t m σ Q:=λA G D s hA R=>h R.toRelC.nd A G D s hA R
end
end
section
section
variable {C:Cx} {env:Env} {vars:List Str} {gl:List (Str×V)} {own:Bool} {d:Nat} {m:Loc} {σ:Sto} {Q:V->Sto->Prop} {QI:List V->(Sto->Prop)->Sto->Prop}
noncomputable def z7n(xs ys:List V):List V:=(xs.zip ys).map λp=>V.tup [p.1,p.2]
theorem z6x{xs ys:List V}{i:Nat}{X:V}(h:(z7n xs ys)[i]? =some X):∃Y Z,xs[i]? =some Y/\ys[i]? =some Z/\X= .tup [Y,Z]:=by
 unfold z7n at h
 rw[List.getElem?_map] at h
 cases e:(xs.zip ys)[i]? with
 |none=>rw[e] at h;cases h
 |some p=>rw[e] at h;cases h;obtain⟨h1,h2⟩:=List.getElem?_zip_eq_some.mp e;exact⟨_,_,h1,h2,rfl⟩
theorem IW.more{A:Around}{D:Gh}{tgt:Expr}{I:Addr}{fp wr:List Addr}{xs:List V}{St:Nat->Heap->Prop}(W:IW C A tgt I fp wr D xs St){t:Addr}(ht:t∈fp)(hl:∀i h,St i h->∃o,h.get? t=some o):IW C A tgt I fp (t::wr) D xs St where
 live:=λi h st a ha=>by
  rcases List.mem_cons.mp ha with rfl|ha
  ·exact hl i h st
  ·exact W.live i h st a ha
 sub:=λb hb=>by
  rcases List.mem_cons.mp hb with rfl|hb
  ·exact ht
  ·exact W.sub b hb
 old:=λb hb hn=>W.old b hb λh=>hn (.tail _ h)
 frame:=W.frame
 item:=λi X s K hX st h=>W.item i X s K hX st λv s₁ hq=>h v s₁ λQ' q=>hq Q' λh' tk a b c=>q h' tk a b λb o hb e=>c b o (λh=>hb (.tail _ h)) e
 self:=W.self
 done:=λs K st h=>W.done s K st λh' tk c=>h h' tk λb o hb e=>c b o (λh=>hb (.tail _ h)) e
theorem y1t{np p:Pos}{e1 e2:Expr}{elts:List Expr}{k:Nat}{pos:Pos}(h:AT C env vars gl own d (eval (.Name "zip" np) env) m σ λF σ₁=>F= .type "zip"/\AL C env vars gl own d (spliced (backTo p (starEach [e1,e2] env))) m σ₁ λXs σ₂=>∃X Y xs ys P P',Xs=[X,Y]/\Has σ₂ X (.list xs) P/\Has σ₂ Y (.list ys) P'/\QI (z7n xs ys) (λσ=>P σ/\P' σ) σ₂)
  (he:autoParam (starEach [e1,e2] env=(false,eval e1 env)::starEach [e2] env) auR) (hplain:autoParam ((backTo p (starEach [e2] env)).any (·.1)=false) auR):
  AI C env vars gl own d (.Call (.Name "zip" np) [e1,e2] [] p) (.Tuple elts k pos) m σ QI:=λA G D s hA R=>by
 refine wpAny_Call_ofName (h.run hA R λv s₁ F D₁ σ₁ a b c hpp=> ?_)
 obtain⟨hF,hk⟩:=hpp
 subst hF
 refine z1n (F:= .type "zip") trivial b (by rw[he];exact hplain) ?_
 rw[he] at hk⊢
 refine Calls.evalArgs_plain (AL.run hk hA c λvs s₂ Xs D₂ σ₂ a' b' c' hpp=> ?_)
 obtain⟨X,Y,xs,ys,P,P',hX,hH,hH',q⟩:=hpp
 refine⟨c'.toRelC.baseIn,?_⟩
 subst hX
 apply VR.typeE b
 apply VRs.consE b';intro _ _ h1 h2'
 apply VRs.consE h2';intro _ _ h2 h3
 apply VRs.nilE h3
 apply Has.runLE hH c'.toRelC h1;intro ax ws n ho hr hP hst
 apply Has.runLE hH' c'.toRelC h2;intro ay us n' ho' hr' hP' hst'
 refine call_zip_2 (xs:=ws) (ys:=us) ⟨_,ho,rfl,n,rfl⟩ ⟨_,ho',rfl,n',rfl⟩ λh' z1 z2 z3 z4 z5 hsz hkp=>wpAny_pyIter_zip z1 ?_
 have R':RelF C env vars gl own G D₂ m σ₂ {s₂ with heap:=h'}:=c'.back (c'.lifted.keep s₂.toks hkp) (DX.refl _ _)
 have offn:∀b,s₂.heap.objs.size<=b->G b=none/\D₂ b=none/\b∉foot σ₂/\¬z2U env vars b:=λb hb=>⟨by
   cases e:G b with
   |none=>rfl
   |some o=>exact absurd (Heap.lt_size (c'.g _ _ e)) (Nat.not_lt.mpr hb),by
   cases e:D₂ b with
   |none=>rfl
   |some o=>exact absurd (Heap.lt_size (c'.d _ _ e)) (Nat.not_lt.mpr hb),λhf=>absurd (c'.toRelC.footLt hf) (Nat.not_lt.mpr hb),λhm=>by
   obtain⟨o,eo⟩:=c'.mineLives hm
   exact absurd (Heap.lt_size eo) (Nat.not_lt.mpr hb)⟩
 have hlt0:=Heap.lt_size ho
 have hlt0':=Heap.lt_size ho'
 generalize hN:s₂.heap.objs.size=N at*
 have hlt: @LT.lt Nat _ ax N:=hlt0
 have hlt': @LT.lt Nat _ ay N:=hlt0'
 have Dz:ZipApart (N+4) (N+2) (N+3) N (N+1) ax ay:=by constructor<;>first|exact Nat.ne_of_lt (by lia)|exact Nat.ne_of_gt (by lia)
 refine⟨D₂,σ₂,z7n xs ys,(λσ=>P σ/\P' σ),a.trans a',⟨N+4,_,_,_,rfl,IW.more (t:=N+2) (IW.ofWalksT (WalksT.zip2 hA.h (N+4) (N+2) (N+3) N (N+1) ax ay Dz ws us) (by simp[z7n];rw[<-hr.length,<-hr'.length];simp) ?_ ?_ ?_) (by simp) (λi h st=>⟨_,st.2.1⟩),⟨z1,z2,⟨_,_,z3⟩,z4,z5,⟨_,hkp _ _ ho,rfl,n,rfl⟩,⟨_,hkp _ _ ho',rfl,n',rfl⟩⟩,R',?_,⟨hP,hP'⟩,?_⟩,q⟩
 ·rintro i vals X ⟨x,y,hx,hy,rfl⟩ hX
  obtain⟨Y,Z,hY,hZ,rfl⟩:=z6x hX
  obtain⟨u,e,r⟩:=hr.get hY
  obtain⟨u',e',r'⟩:=hr'.get hZ
  rw[Array.getElem?_toList,hx] at e;cases e
  rw[Array.getElem?_toList,hy] at e';cases e'
  exact⟨_,rfl,.cons r (.cons r' .nil)⟩
 ·intro i h st
  obtain⟨y1,_,⟨_,_,y3⟩,⟨_,y4,_⟩,⟨_,y5,_⟩,_⟩:=st
  exact(List.forall_mem_cons.mpr ⟨⟨_,y1⟩,(List.forall_mem_cons.mpr ⟨⟨_,y3⟩,(List.forall_mem_cons.mpr ⟨⟨_,y4⟩,(List.forall_mem_cons.mpr ⟨⟨_,y5⟩,(λ_ h=>nomatch h)⟩)⟩)⟩)⟩)
 ·intro b hb _ h st e1
  obtain⟨y1,y2,⟨_,_,y3⟩,⟨_,y4,_⟩,⟨_,y5,_⟩,⟨_,y6,_⟩,⟨_,y7,_⟩⟩:=st
  obtain⟨o,ho⟩:=(show∀b∈[N+4,N+2,N+3,N,N+1,ax,ay],∃o,h.get? b=some o from(List.forall_mem_cons.mpr ⟨⟨_,y1⟩,(List.forall_mem_cons.mpr ⟨⟨_,y2⟩,(List.forall_mem_cons.mpr ⟨⟨_,y3⟩,(List.forall_mem_cons.mpr ⟨⟨_,y4⟩,(List.forall_mem_cons.mpr ⟨⟨_,y5⟩,(List.forall_mem_cons.mpr ⟨⟨_,y6⟩,(List.forall_mem_cons.mpr ⟨⟨_,y7⟩,(λ_ h=>nomatch h)⟩)⟩)⟩)⟩)⟩)⟩)⟩)) b hb
  rw[ho] at e1;cases e1
 ·exactλb hb=>offn b ((show∀b∈[N+2,N+4,N+3,N,N+1],N<=b from(List.forall_mem_cons.mpr ⟨Nat.le_add_right _ _,(List.forall_mem_cons.mpr ⟨Nat.le_add_right _ _,(List.forall_mem_cons.mpr ⟨Nat.le_add_right _ _,(List.forall_mem_cons.mpr ⟨Nat.le_refl _,(List.forall_mem_cons.mpr ⟨Nat.le_add_right _ _,(λ_ h=>nomatch h)⟩)⟩)⟩)⟩)⟩)) b hb)
 ·intro G' D' σ' s' Rx hsb hP2
  exact(List.forall_mem_cons.mpr ⟨λhn=>absurd (.tail _ (.head _)) hn,(List.forall_mem_cons.mpr ⟨λhn=>absurd (.head _) hn,(List.forall_mem_cons.mpr ⟨λhn=>absurd (.tail _ (.tail _ (.head _))) hn,(List.forall_mem_cons.mpr ⟨λhn=>absurd (.tail _ (.tail _ (.tail _ (.head _)))) hn,(List.forall_mem_cons.mpr ⟨λhn=>absurd (.tail _ (.tail _ (.tail _ (.tail _ (.head _))))) hn,(List.forall_mem_cons.mpr ⟨λ_ o2 e2=>by rw[hkp _ _ ho] at e2;cases e2;exact hst G' D' σ' s' Rx hsb hP2.1,(List.forall_mem_cons.mpr ⟨λ_ o2 e2=>by rw[hkp _ _ ho'] at e2;cases e2;exact hst' G' D' σ' s' Rx hsb hP2.2,(λ_ h=>nomatch h)⟩)⟩)⟩)⟩)⟩)⟩)⟩)
noncomputable def EqV(C:Cx)(σ:Sto)(n:Nat)(x y:V):Prop:=∀(A:Around) (G D:Gh) (s:Shared) (v u:Value),A.units+n<cLine->RelC C G D σ s->VR C.w D v x->VR C.w D u y->SeqAt.EqAt A s v u true
theorem EqV.mono{n n':Nat}{x y:V}(h:EqV C σ n x y)(hn:n<=n'):EqV C σ n' x y:=λA G D s v u hu=>h A G D s v u (Nat.lt_of_le_of_lt (Nat.add_le_add_left hn _) hu)
theorem EqV.none:EqV C σ 0 .none .none:=λA G D s v u hl R hv hu=>by rw[hv.noneI,hu.noneI];exact .same _
theorem EqV.bool{b:Bool}:EqV C σ 0 (.bool b) (.bool b):=λA G D s v u hl R hv hu=>by rw[hv.boolI,hu.boolI];exact .same _
theorem EqV.ref{a:Addr}:EqV C σ 0 (.ref a) (.ref a):=λA G D s v u hl R hv hu=>by rw[hv.refI,hu.refI];exact .same _
theorem EqV.int{i:Int}:EqV C σ 0 (.int i) (.int i):=λA G D s v u hl R hv hu=>by
 apply VR.intE hv;intro t1;apply VR.intE hu;intro t2
 have:=SeqAt.EqAt.int_int (A:=A) (s:=s) i t1 i t2
 rw[beq_self_eq_true] at this;exact this
theorem EqV.str{i:Str}:EqV C σ 0 (.str i) (.str i):=λA G D s v u hl R hv hu=>by
 apply VR.strE hv;intro t1;apply VR.strE hu;intro t2
 have:=SeqAt.EqAt.str_str (A:=A) (s:=s) i t1 i t2
 rw[beq_self_eq_true] at this;exact this
theorem z6E{n:Nat}{xs ys:List V}{A:Around}{G D:Gh}{s:Shared}{ws zs:Array Value}(hl:A.units+(n+1)<cLine)(R:RelC C G D σ s)(hr:VRs C.w D ws.toList xs)(hr':VRs C.w D zs.toList ys)
  (h:∀(j:Nat) X Y,xs[j]? =some X->ys[j]? =some Y->EqV C σ n X Y):∀j (h1:j<ws.size) (h2:j<zs.size),SeqAt.EqAt A.in1 s ws[j] zs[j] true:=λj h1 h2=>by
 obtain⟨X,eX,rX⟩:=hr.get' (i:=j) (u:=ws[j]) (by rw[Array.getElem?_toList];exact Array.getElem?_eq_getElem h1)
 obtain⟨Y,eY,rY⟩:=hr'.get' (i:=j) (u:=zs[j]) (by rw[Array.getElem?_toList];exact Array.getElem?_eq_getElem h2)
 exact h j X Y eX eY A.in1 G D s _ _ (by show A.units+1+n<cLine;lia) R rX rY
theorem z2R(n:Nat):(List.range n).all (λ_=>true)=true:=by simp
theorem EqV.tup{n:Nat}{xs ys:List V}(hz:xs.length=ys.length)(h:∀(j:Nat) X Y,xs[j]? =some X->ys[j]? =some Y->EqV C σ n X Y):EqV C σ (n+1) (.tup xs) (.tup ys):=λA G D s v u hl R hv hu=>by
 apply VR.isTE R hv;intro a ws _ hT hr
 apply VR.isTE R hu;intro b zs _ hT' hr'
 by_cases e:a=b
 ·subst e;exact .same _
 ·have:=SeqAt.RcAt.tuples (e:=λ_=>true) hT hT' (by lia) (z6E hl R hr hr' h)
  rw[z2R,show(ws.size==zs.size)=true by rw[<-Array.length_toList,hr.length,<-Array.length_toList,hr'.length,hz];simp] at this
  exact .of_refs e this
theorem EqV.list{n:Nat}{x y:V}{xs ys:List V}{P P':Sto->Prop}(hx:Has σ x (.list xs) P)(hy:Has σ y (.list ys) P')(hz:xs.length=ys.length)(h:∀(j:Nat) X Y,xs[j]? =some X->ys[j]? =some Y->EqV C σ n X Y):EqV C σ (n+1) x y:=λA G D s v u hl R hv hu=>by
 apply Has.isListE hx R hv;intro a ws k ho hr
 apply Has.isListE hy R hu;intro b zs k' ho' hr'
 by_cases e:a=b
 ·subst e;exact .same _
 ·have:=SeqAt.RcAt.lists (e:=λ_=>true) ⟨_,ho,rfl,k,rfl⟩ ⟨_,ho',rfl,k',rfl⟩ (by rw[<-Array.length_toList,hr.length,<-Array.length_toList,hr'.length,hz]) (by lia) (z6E hl R hr hr' h)
  rw[z2R] at this
  exact .of_refs e this
theorem EqV.le{n:Nat}{x y:V}(h:EqV C σ 0 x y):EqV C σ n x y:=h.mono (Nat.zero_le _)
theorem z4Z{A:Around}{d n:Nat}(hA:AOk A d)(hn:n<=100):A.units+n<cLine:=by have:=hA.units;show A.units+n<9900;lia
theorem y4f{n:Nat}{xs ys:List V}(hz:xs.length=ys.length)(h:∀(j:Nat) X Y,xs[j]? =some X->ys[j]? =some Y->EqV C σ n X Y)(hn:n<=60)(q:Q (.bool false) σ):AC2 C d (compareOp .NotEq) (.tup xs) (.tup ys) σ Q:=λA G D s v u hA R hv hu=>by
 apply VR.isTE R hv;intro a ws _ hT hr
 apply VR.isTE R hu;intro b zs _ hT' hr'
 have:=SeqAt.RcNeAt.tuples (e:=λ_=>true) hT hT' hA.line0 (z6E (z4Z hA (by lia)) R hr hr' h)
 rw[z2R,show(ws.size==zs.size)=true by rw[<-Array.length_toList,hr.length,<-Array.length_toList,hr'.length,hz];simp] at this
 exact this C.prog C.w _ _ (PostC.now R (.bool _) q)
theorem y1K{n:Nat}{x y:V}{xs ys:List V}{P P':Sto->Prop}(hx:Has σ x (.list xs) P)(hy:Has σ y (.list ys) P')(hz:xs.length=ys.length)(h:∀(j:Nat) X Y,xs[j]? =some X->ys[j]? =some Y->EqV C σ n X Y)(hn:n<=60)(q:Q (.bool false) σ):AC2 C d (compareOp .NotEq) x y σ Q:=λA G D s v u hA R hv hu=>by
 apply Has.isListE hx R hv;intro a ws k ho hr
 apply Has.isListE hy R hu;intro b zs k' ho' hr'
 have:=SeqAt.RcNeAt.lists (e:=λ_=>true) ⟨_,ho,rfl,k,rfl⟩ ⟨_,ho',rfl,k',rfl⟩ (by rw[<-Array.length_toList,hr.length,<-Array.length_toList,hr'.length,hz]) hA.line0 (z6E (z4Z hA (by lia)) R hr hr' h)
 rw[z2R] at this
 exact this C.prog C.w _ _ (PostC.now R (.bool _) q)
theorem z7P{x:V}{xs:List V}{P:Sto->Prop}(h:Has σ x (.list xs) P)(hl:xs.length<=sizeLine)(q:Q (.tup xs) σ):KW C d (.type "tuple") [x] σ Q:=λA G D s v vs hA R hv hss=>by
 apply VR.typeE hv
 apply VRs.consE hss;intro _ _ h1 h2
 apply VRs.nilE h2
 apply Has.isListE h R h1;intro a ws n ho hr
 refine call_tuple_list ⟨_,ho,rfl,n,rfl⟩ (λh' hk=> ?_) (by rw[<-Array.length_toList,hr.length];exact hl)
 obtain⟨R',dx⟩:=(R.keep s.toks hk).newF (y3U ws 0)
 exact⟨.tup xs,_,σ,dx,.tup (vs:=ws.toList) (n:=0) (z0P ..) rfl (by rw[Array.toArray_toList]) (hr.mono dx.sub),R',q⟩
theorem M_extend:MethIs "list" "extend" "list.extend":=⟨F.plainAttrs_list,F.slot_list_extend,F.type_list_extend⟩
theorem y0b{a:Addr}{x:V}{xs:List V}{P:Sto->Prop}(hm:At σ a (.list []))(hx:Has σ x (.list xs) P)(hl:xs.length<=sizeLine)(q:∀σ',UpdS σ σ' a (.list xs)->Q .none σ'):KW C d (.bi "list.extend") [.ref a,x] σ Q:=λA G D s v vs hA R hv hss=>by
 apply VR.biE hv
 obtain⟨o,σ',U,US⟩:=hm.upd (.list xs)
 apply VRs.consE hss;intro _ _ h1 h2'
 apply VRs.consE h2';intro _ _ h2 h3
 apply VRs.nilE h3
 apply VR.refE h1
 obtain⟨ws,n,rfl,hr⟩:∃ws n,o=z0r ws n/\VRs C.w D ws.toList []:=R.sto _ (U o).mem
 have ho:s.heap.get? a=some (z0r ws n):=R.pl _ (U (z0r ws n)).mem
 have e0:ws= #[]:=by have:=hr.nilI;exact Array.toList_inj.mp (by rw[this])
 subst e0
 apply Has.isListE hx R h2;intro b zs n' ho' hr'
 have hz:zs.size=xs.length:=by rw[<-Array.length_toList,hr'.length]
 refine call_meets F.slot_list_extend ⟨_,ho,rfl⟩ F.entry_list_extend (F.args_list_extend_2 _ _) (AutoSeq1.list_extend_list_list_0 a #[] n b zs n' (by simp) (Nat.zero_le _) (by rw[hz];show 0+_<=_;lia)) ⟨ho,ho',?_⟩
 have h1:=PyProof.Rows.get?_update_seq (c:="list") ho (λx=>x++zs)
 have:=R.upd (U _) s.toks (z0J _ _) (Heap.SameBut.update ..) rfl h1 ⟨_,_,rfl,by simpa using hr'⟩
 exact⟨.none,D,_,DX.refl _ _,.none,this,q _ (US _)⟩
theorem VRs.erase{w:World}{D:Gh}:∀{vs:List Value} {xs:List V} {j:Nat},VRs w D vs xs->VRs w D (vs.eraseIdx j) (xs.eraseIdx j):=λ{vs}=>by
 induction vs with
 |nil=>intro xs j h;cases h;exact .nil
 |cons v vs ih=>
  intro xs j h
  cases h with
  |cons a b=>
   cases j with
   |zero=>exact b
   |succ j=>exact .cons a (ih b)
theorem y4T{a:Addr}{xs:List V}{i:Int}{j:Nat}{X:V}(hi:i=(j:Int))(hm:At σ a (.list xs))(hX:xs[j]? =some X)(hl:xs.length<=1000)(q:∀σ',UpdS σ σ' a (.list (xs.eraseIdx j))->Q X σ'):KW C d (.bi "list.pop") [.ref a,.int i] σ Q:=λA G D s v vs hA R hv hss=>by
 apply VR.biE hv
 obtain⟨o,σ',U,US⟩:=hm.upd (.list (xs.eraseIdx j))
 apply VRs.consE hss;intro _ _ h1 h2'
 apply VRs.consE h2';intro _ _ h2 h3
 apply VRs.nilE h3
 apply VR.refE h1
 apply VR.intE h2;intro tk
 obtain⟨ws,n,rfl,hr⟩:∃ws n,o=z0r ws n/\VRs C.w D ws.toList xs:=R.sto _ (U o).mem
 have ho:s.heap.get? a=some (z0r ws n):=R.pl _ (U (z0r ws n)).mem
 have hz:ws.size=xs.length:=by rw[<-Array.length_toList,hr.length]
 have hj:=(List.getElem?_eq_some_iff.mp hX).1
 obtain⟨y,hy,ry⟩:=hr.get hX
 rw[Array.getElem?_toList] at hy
 have hfit:Builtin.List.listFitsIndex i=true:=by
  unfold Builtin.List.listFitsIndex
  rw[Bool.and_eq_true]
  exact⟨decide_eq_true (by lia),decide_eq_true (by lia)⟩
 have hki:seqIndex? i ws.size=some j:=by
  unfold seqIndex?
  simp only[show¬(i<0) by lia,if_false,hz]
  rw[if_pos (by rw[Bool.and_eq_true];exact⟨decide_eq_true (by lia),decide_eq_true (by lia)⟩),hi,Int.toNat_natCast]
 have hs1:ws.size<=sizeLine:=by rw[hz];exact Nat.le_trans hl (by decide)
 have:=MeetsSeq.list_pop_at a ws n i tk j y hfit hki hy hs1
 refine call_meets F.slot_list_pop ⟨_,ho,rfl⟩ F.entry_list_pop (F.args_list_pop_2 _ _) this ⟨ho,?_⟩
 have h1:=PyProof.Rows.get?_update_seq (c:="list") ho (λxs=>xs.eraseIdxIfInBounds j)
 have e3:(ws.eraseIdxIfInBounds j).toList=ws.toList.eraseIdx j:=by simp[Array.eraseIdxIfInBounds,hz,hj]
 have:=R.upd (U _) s.toks (z0J _ _) (Heap.SameBut.update ..) rfl h1 ⟨_,_,rfl,by rw[e3];exact hr.erase⟩
 exact⟨X,D,_,DX.refl _ _,ry,this,q _ (US _)⟩
end
end
section
noncomputable def z4H(K:W.Frag)(a:Addr):FuncData:=match K.lookup a with
 |some o=>match o.data with
  | .func fd=>fd
  |_=>default
 |none=>default
noncomputable def y3V(K:W.Frag)(a:Addr):Bool:=match K.lookup a with
 |some o=>match o.data with
  | .func _=>true
  |_=>false
 |none=>false
noncomputable def z8v(fd:FuncData):List Stmt:=match fd.body with
 | .stmts b=>b
 |_=>[]
noncomputable def y4v(fd:FuncData):Bool:=match fd.body with
 | .stmts _=>true
 |_=>false
noncomputable def y5j(K:W.Frag)(a:Addr)(vars gs:List Str):Bool:=
 y3V K a&&(y4v (z4H K a)&&((z4H K a).closure.isEmpty&&(W.codeIn K (z4H K a).code (z4H K a).qualname&&(Nat.beq (z4H K a).globals mainGlobals&&(Nat.beq (z4H K a).builtins builtinsNs&&z6L (z4H K a).scope vars gs)))))
section
variable {C:Cx} {d:Nat} {σ:Sto} {Q:V->Sto->Prop}
theorem y39{K:W.Frag}{a:Addr}(h:y3V K a=true):∃o,K.lookup a=some o/\o.data= .func (z4H K a):=by
 unfold y3V at h
 unfold z4H
 cases e:K.lookup a with
 |none=>rw[e] at h;cases h
 |some o=>
  rw[e] at h
  refine⟨o,rfl,?_⟩
  have h:(match o.data with
   | .func _=>true
   |_=>false)=true:=h
  show o.data= .func (match o.data with
   | .func fd=>fd
   |_=>default)
  cases e2:o.data<;>rw[e2] at h<;>first|(cases h;done)|rfl
theorem y3S{fd:FuncData}(h:y4v fd=true):fd.body= .stmts (z8v fd):=by
 unfold y4v at h
 unfold z8v
 cases e:fd.body<;>rw[e] at h<;>first|(cases h;done)|rfl
theorem z0G{K:W.Frag}(H:K.In C.base){a:Addr}(vars:List Str)(gl:List (Str×V)){xs:List V}(e:y5j K a vars (gl.map (·.1))=true)(e8:∀vs:List Value,vs.length=xs.length->bindArgs (z4H K a) ⟨vs,[]⟩=pure ((vars.take xs.length).zip vs))(e9:Nat.ble xs.length vars.length=true)(hgl:∀p∈gl,z0f C p.1 p.2)
  (h:∀env,env.scope=(z4H K a).scope->AS C env vars gl true d (execs (z8v (z4H K a)) env) (xs.map some++(vars.drop xs.length).map λ_=>none) σ (z99 Q)):CW C (d+1) (.ref a) xs σ Q:=by
 unfold y5j at e
 simp only[Bool.and_eq_true] at e
 obtain⟨e1,e2,e3,e4,e5,e6,e7⟩:=e
 obtain⟨o,k1,k2⟩:=y39 e1
 have hl:(vars.take xs.length).length=xs.length:=by rw[List.length_take];exact Nat.min_eq_left (Nat.le_of_ble_eq_true e9)
 refine y5z (params:=vars.take xs.length) (others:=vars.drop xs.length) ⟨⟨o,H a o k1,k2⟩,y3S e2,List.isEmpty_iff.mp e3,W.codeRec_of H e4,Nat.eq_of_beq_eq_true e5,Nat.eq_of_beq_eq_true e6,λvs hv=>e8 vs (hv.trans hl)⟩ hl.symm ?_ hgl ?_
 ·rw[List.take_append_drop];exact e7
 ·rw[List.take_append_drop];exact h
theorem vs0{P:List Value->Prop}(h:P []):∀vs:List Value,vs.length=0->P vs:=λvs e=>by rw[List.length_eq_zero_iff.mp e];exact h
theorem vsS{P:List Value->Prop}{n:Nat}(h:∀a,∀vs:List Value,vs.length=n->P (a::vs)):∀vs:List Value,vs.length=n+1->P vs:=λvs e=>by
 cases vs with
 |nil=>cases e
 |cons a vs=>exact h a vs (Nat.succ.inj e)
theorem vs1{P:List Value->Prop}(h:∀a,P [a]):∀vs:List Value,vs.length=1->P vs:=vsS λa=>vs0 (P:=λvs=>P (a::vs)) (h a)
theorem vs2{P:List Value->Prop}(h:∀a b,P [a,b]):∀vs:List Value,vs.length=2->P vs:=vsS λa=>vs1 (P:=λvs=>P (a::vs)) (h a)
theorem vs3{P:List Value->Prop}(h:∀a b c,P [a,b,c]):∀vs:List Value,vs.length=3->P vs:=vsS λa=>vs2 (P:=λvs=>P (a::vs)) (h a)
theorem vs4{P:List Value->Prop}(h:∀a b c d,P [a,b,c,d]):∀vs:List Value,vs.length=4->P vs:=vsS λa=>vs3 (P:=λvs=>P (a::vs)) (h a)
theorem vs5{P:List Value->Prop}(h:∀a b c d e,P [a,b,c,d,e]):∀vs:List Value,vs.length=5->P vs:=vsS λa=>vs4 (P:=λvs=>P (a::vs)) (h a)
theorem vs6{P:List Value->Prop}(h:∀a b c d e f,P [a,b,c,d,e,f]):∀vs:List Value,vs.length=6->P vs:=vsS λa=>vs5 (P:=λvs=>P (a::vs)) (h a)
end
end
section
section
variable {C:Cx} {env:Env} {vars:List Str} {gl:List (Str×V)} {own:Bool} {d:Nat} {m:Loc} {σ τ ρ:Sto} {Q:V->Sto->Prop} {QS:Fl->Loc->Sto->Prop}
theorem z94(h:List.Perm ρ σ):List.Perm (foot ρ) (foot σ):=by
 induction h with
 |nil=>exact .refl _
 |cons p _ ih=>obtain⟨a,o,x⟩:=p;exact ih.append_left _
 |swap p q l=>
  obtain⟨a,o,x⟩:=p
  obtain⟨b,o',y⟩:=q
  exact List.perm_append_comm_assoc ..
 |trans _ _ a b=>exact a.trans b
theorem y3j{b:Addr}(h:b∈foot σ):∃p∈σ,b∈z0V p.1 p.2.2:=by
 induction σ with
 |nil=>cases h
 |cons p r ih=>
  obtain⟨a,o,x⟩:=p
  rcases List.mem_append.mp h with h|h
  ·exact⟨_,.head _,h⟩
  ·obtain⟨p,hp,hb⟩:=ih h
   exact⟨p,.tail _ hp,hb⟩
open Classical in
theorem z6d{f:Addr}{xs:List V}(hp:List.Perm ρ (σ++τ))(h:CW C d (.ref f) xs τ λr τ'=>(foot (σ++τ')).Nodup->Q r (σ++τ')):CW C d (.ref f) xs ρ Q:=by
 intro A G D s vs hA R hv
 have fp:=z94 hp
 rw[z0F] at fp
 obtain⟨n1,n2,n3⟩:=List.nodup_append.mp (fp.nodup_iff.mp R.nd)
 have inF:∀b∈foot σ,b∈foot ρ:=λb hb=>fp.mem_iff.mpr (List.mem_append_left _ hb)
 have inT:∀b∈foot τ,b∈foot ρ:=λb hb=>fp.mem_iff.mpr (List.mem_append_right _ hb)
 have mS:∀p∈σ,p∈ρ:=λp h=>hp.mem_iff.mpr (List.mem_append_left _ h)
 have mT:∀p∈τ,p∈ρ:=λp h=>hp.mem_iff.mpr (List.mem_append_right _ h)
 have lives:∀b∈foot σ,∃o,s.heap.get? b=some o:=λb hb=>by
  obtain⟨p,hp,hb⟩:=y3j hb
  exact(R.pl p (mS p hp)).lives b hb
 generalize hG:(λb=>if b∈foot σ then s.heap.get? b else G b:Gh)=G'
 have gIn:∀b∈foot σ,G' b=s.heap.get? b:=λb hb=>by rw[<-hG];exact if_pos hb
 have gOut:∀b,b∉foot σ->G' b=G b:=λb hb=>by rw[<-hG];exact if_neg hb
 clear hG
 have gG:∀b o,G b=some o->G' b=some o:=λb o e=>by
  rw[gOut b λhb=>by rw[R.offG b (inF b hb)] at e;cases e];exact e
 have R':RelC C G' D τ s:=⟨R.same,λb o e=>(by
   by_cases hb:b∈foot σ
   ·rw[gIn b hb] at e;exact e
   ·rw[gOut b hb] at e;exact R.g b o e),R.d,λb o e=>gG b o (R.base b o e),n2,
  λb hb=>(by rw[gOut b λh=>n3 b h b hb rfl];exact R.offG b (inT b hb)),λb hb=>R.offD b (inT b hb),λp hp=>R.pl p (mT p hp),λp hp=>R.sto p (mT p hp)⟩
 refine codeAny_mono (h A G' D s vs hA R' hv) λr s' q=> ?_
 cases r with
 |error e=>exact q
 |ok fl=>
  cases fl<;>first|exact q.elim|skip
  obtain⟨x,D',τ',dx,hx,R2,q⟩:=q
  have nd2:(foot (σ++τ')).Nodup:=by
   rw[z0F]
   refine List.nodup_append.mpr ⟨n1,R2.nd,λa ha b hb e=> ?_⟩
   subst e
   have e:=R2.offG a hb
   obtain⟨o,ho⟩:=lives a ha
   rw[gIn a ha,ho] at e;cases e
  refine⟨x,D',σ++τ',dx.less λb g=> ?_,hx,⟨R2.same,λb o e=>R2.g b o (gG b o e),R2.d,R.base,nd2,λb hb=> ?_,λb hb=> ?_,λp hp=> ?_,λp hp=> ?_⟩,q nd2⟩
  ·cases e:G b with
   |none=>exact absurd e g
   |some o=>rw[gG b o e];exact nofun
  ·rw[z0F] at hb
   rcases List.mem_append.mp hb with hb|hb
   ·exact R.offG b (inF b hb)
   ·cases e:G b with
    |none=>rfl
    |some o=>rw[<-gG b o e];exact R2.offG b hb
  ·rw[z0F] at hb
   rcases List.mem_append.mp hb with hb|hb
   ·exact dx.off b (R.offD b (inF b hb)) (by obtain⟨o,ho⟩:=lives b hb;rw[gIn b hb,ho];exact nofun)
   ·exact R2.offD b hb
  ·rcases List.mem_append.mp hp with hp|hp
   ·exact(R.pl p (mS p hp)).at λb hb ob e=>R2.g b ob (by rw[gIn b (z19 (a:=p.1) (ob:=p.2.1) (o:=p.2.2) hp b hb)];exact e)
   ·exact R2.pl p hp
  ·rcases List.mem_append.mp hp with hp|hp
   ·exact(R.sto p (mS p hp)).mono dx.sub
   ·exact R2.sto p hp
theorem y3Y{t:Sem Flow}{i:Nat}{x:Str}{a:Addr}{xs:List V}(hi:vars[i]? =some x)(hk:env.kindOf x=some .local)(hm:m[i]? =some (some (.ref a)))(ha:At σ a (.list xs))
  (h:∀σ',(∀p∈σ,p.1≠a->p∈σ')->AS C env vars gl own d t (m.set i (some (.lst xs))) σ' QS):AS C env vars gl own d t m σ QS:=by
 intro A G D s hA R
 obtain⟨o,ha⟩:=ha
 obtain⟨u,v,rfl⟩:=List.append_of_mem ha
 obtain⟨R1,dx,hv⟩:=R.lifted.freezeL rfl
 have R2:=R.back R1 dx
 have hl:i<m.length:=(List.getElem?_eq_some_iff.mp hm).1
 refine z4b (R.dx dx) (h (u++v) (λp hp hn=> ?_) A G _ s hA {R2 with ns:= ?_,cl:= ?_})
 ·rcases List.mem_append.mp hp with h|h
  ·exact List.mem_append_left _ h
  ·rcases List.mem_cons.mp h with rfl|h
   ·exact absurd rfl hn
   ·exact List.mem_append_right _ h
 ·obtain⟨mm,hmm,hx⟩:=R2.ns
  refine⟨mm,hmm,λj y Y h1 h2 h3=> ?_⟩
  by_cases e:i=j
  ·subst e
   rw[List.getElem?_set_self hl] at h3
   cases h3
   rw[hi] at h1;cases h1
   obtain⟨w,e1,e2⟩:=hx i x _ hi hk hm
   obtain rfl:=e2.refI
   exact⟨_,e1,hv⟩
  ·rw[List.getElem?_set_ne e] at h3
   exact hx j y Y h1 h2 h3
 ·intro j y c h1 h2 h3
  have e:i≠j:=λe=>by subst e;rw[hi] at h1;cases h1;rw[hk] at h2;cases h2
  obtain⟨a1,⟨ov,a2,a3⟩,a4⟩:=R2.cl j y c h1 h2 h3
  exact⟨a1,⟨ov,a2,λX hX=>a3 X (by rw[List.getElem?_set_ne e] at hX;exact hX)⟩,a4⟩
theorem y1k{x:V}{xs:List V}{P:Sto->Prop}{k:Int}(h:Has σ x (.list xs) P)(h0:0<=k)(h1:k<xs.length)(hs:xs.length<2^40)(q:∀X∈xs,Q X σ):SubR C d x (.int k) σ Q:=by
 have hk:k.toNat<xs.length:=by lia
 exact z2l h h0 (by lia) (X:=xs[k.toNat]) (List.getElem?_eq_getElem hk) (q _ (List.getElem_mem hk))
end
end
section
set_option genSizeOf false
set_option genInjectivity false
inductive TK where
 |str|int|bool|tup|lst|dct
noncomputable def TK.n:TK->String
 | .str=>"str"| .int=>"int"| .bool=>"bool"| .tup=>"tuple"| .lst=>"list"| .dct=>"dict"
noncomputable def TK.no:TK->Nat
 | .str=>0| .int=>1| .bool=>2| .tup=>3| .lst=>4| .dct=>5
noncomputable def TK.is(a b:TK):Bool:=Nat.beq a.no b.no||(Nat.beq a.no 2&&Nat.beq b.no 1)
noncomputable def tkOf:V->Option (Option TK)
 | .none=>some none| .bool _=>some (some .bool)| .int _=>some (some .int)| .str _=>some (some .str)| .tup _=>some (some .tup)| .lst _=>some (some .lst)| .dct _=>some (some .dct)|_=>none
noncomputable def y2G(x:V)(t:TK):Option Bool:=match tkOf x with
 |some (some k)=>some (k.is t)
 |some none=>some false
 |none=>none
noncomputable def inO(X:V):Option Int:=match X with
 | .int a=>some a
 |_=>none
noncomputable def stO(X:V):Option Str:=match X with
 | .str a=>some a
 |_=>none
noncomputable def boO(X:V):Option Bool:=match X with
 | .bool a=>some a
 |_=>none
noncomputable def tuO(X:V):Option (List V):=match X with
 | .tup a=>some a
 |_=>none
noncomputable def two{α β:Type}(x y:Option α)(f:α->α->Option β)(o:Option β):Option β:=match x with
 |some a=>match y with
  |some b=>f a b
  |none=>none
 |none=>o
noncomputable def z5L(X Y:V)(f:Int->Int->Option V):Option V:=two (inO X) (inO Y) f none
noncomputable def y3l(b:Int)(f:Nat->Option V):Option V:=match b with
 | .ofNat (k+1)=>f k
 |_=>none
noncomputable def y2J(op:Operator)(X Y:V):Option V:=match op with
 | .Add=>z5L X Y λa b=>some (.int (a+b))
 | .Sub=>z5L X Y λa b=>some (.int (a-b))
 | .Mod=>z5L X Y λa b=>y3l b λk=>some (.int (a.fmod (.ofNat (k+1))))
 | .FloorDiv=>z5L X Y λa b=>y3l b λk=>match Nat.blt (k+1) 1073741824 with
  |true=>some (.int (a.fdiv (.ofNat (k+1))))
  |false=>none
 |_=>none
noncomputable def eqV(X Y:V)(n:Bool->V):Option V:=two (inO X) (inO Y) (λa b=>some (n (decide (a=b)))) (two (stO X) (stO Y) (λa b=>some (n (a==b))) none)
noncomputable def isV(X Y:V)(n:Bool->V):Option V:=match Y.isNone with
 |true=>some (n X.isNone)
 |false=>two (boO X) (boO Y) (λa b=>some (n (a==b))) none
noncomputable def y0n(op:CmpOp)(X Y:V):Option V:=match op with
 | .Lt=>z5L X Y λa b=>some (.bool (decide (a<b)))
 | .LtE=>z5L X Y λa b=>some (.bool (decide (a<=b)))
 | .Gt=>z5L X Y λa b=>some (.bool (decide (b<a)))
 | .GtE=>z5L X Y λa b=>some (.bool (decide (b<=a)))
 | .Eq=>eqV X Y .bool
 | .NotEq=>eqV X Y λb=> .bool (!b)
 | .Is=>isV X Y .bool
 | .IsNot=>isV X Y λb=> .bool (!b)
 |_=>none
noncomputable def y14(X:V)(k:Nat):Option V:=match tuO X with
 |some xs=>xs[k]?
 |none=>none
structure Leaf(P:Prop):Prop where
 out:P
section
variable {C:Cx} {d:Nat} {X Y Z:V} {σ:Sto} {Q:V->Sto->Prop}
theorem ffo{α:Type}{a:α}{P:Prop}(h:none=some a):P:=nomatch h
theorem z3R{a:Int}(h:inO X=some a):X= .int a:=by
 cases X<;>first|exact congrArg V.int (Option.some.inj h)|exact ffo h
theorem z8f{a:Str}(h:stO X=some a):X= .str a:=by
 cases X<;>first|exact congrArg V.str (Option.some.inj h)|exact ffo h
theorem y3C{a:Bool}(h:boO X=some a):X= .bool a:=by
 cases X<;>first|exact congrArg V.bool (Option.some.inj h)|exact ffo h
theorem y1Z{a:List V}(h:tuO X=some a):X= .tup a:=by
 cases X<;>first|exact congrArg V.tup (Option.some.inj h)|exact ffo h
theorem V.isN_i(h:X.isNone=true):X= .none:=by
 cases X<;>first|rfl|exact ff h
theorem z9k{α:Type}{x y:Option α}{f:α->α->Option V}{o:Option V}(h:two x y f o=some Z):(∃a b,x=some a/\y=some b/\f a b=some Z)∨o=some Z:=by
 cases x with
 |none=>exact .inr h
 |some a=>cases y with
  |none=>exact nomatch h
  |some b=>exact .inl ⟨a,b,rfl,rfl,h⟩
theorem z5s{f:Int->Int->Option V}(h:z5L X Y f=some Z):∃a b,X= .int a/\Y= .int b/\f a b=some Z:=by
 rcases z9k h with⟨a,b,e1,e2,h⟩|h
 ·exact⟨a,b,z3R e1,z3R e2,h⟩
 ·exact nomatch h
theorem z8b{b:Int}{f:Nat->Option V}(h:y3l b f=some Z):∃k:Nat,b=((k+1:Nat):Int)/\f k=some Z:=by
 unfold y3l at h
 split at h
 ·exact⟨_,rfl,h⟩
 ·cases h
theorem y1s{k:Nat}:((k+1:Nat):Int)≠0:=by lia
theorem z2Z{f:Int->Int->V}{g:Value->Value->Sem Value}(h:z5L X Y (λa b=>some (f a b))=some Z)(q:Q Z σ)(k:∀a b,Q (f a b) σ->AC2 C d g (.int a) (.int b) σ Q):AC2 C d g X Y σ Q:=by
 obtain⟨a,b,rfl,rfl,h⟩:=z5s h
 exact k a b (Option.some.inj h▸q)
theorem y2u{op:Operator}(h:y2J op X Y=some Z)(q:Q Z σ):AC2 C d (binaryOp op) X Y σ Q:=by
 cases op with
 |Add=>exact z2Z h q λ_ _ q=>z5X q
 |Sub=>exact z2Z h q λ_ _ q=>y5q q
 |Mod=>
  obtain⟨a,b,rfl,rfl,h'⟩:=z5s h
  obtain⟨k,rfl,h2⟩:=z8b h'
  exact z57 (Option.some.inj h2▸q) y1s
 |FloorDiv=>
  obtain⟨a,b,rfl,rfl,h'⟩:=z5s h
  obtain⟨k,rfl,h2⟩:=z8b h'
  cases hk:Nat.blt (k+1) 1073741824 with
  |true=>rw[hk] at h2;exact z58 (Option.some.inj h2▸q) y1s (Nat.blt_eq.mp hk)
  |false=>rw[hk] at h2;exact nomatch h2
 |_=>exact ffo h
theorem y1I{n:Bool->V}{op:CmpOp}(h:eqV X Y n=some Z)(q:Q Z σ)(h1:∀a b:Int,Q (n (decide (a=b))) σ->AC2 C d (compareOp op) (.int a) (.int b) σ Q)(h2:∀a b:Str,Q (n (a==b)) σ->AC2 C d (compareOp op) (.str a) (.str b) σ Q):AC2 C d (compareOp op) X Y σ Q:=by
 rcases z9k h with⟨a,b,e1,e2,h⟩|h
 ·rw[z3R e1,z3R e2];exact h1 a b (Option.some.inj h▸q)
 ·rcases z9k h with⟨a,b,e1,e2,h⟩|h
  ·rw[z8f e1,z8f e2];exact h2 a b (Option.some.inj h▸q)
  ·exact nomatch h
theorem y0m{n:Bool->V}{op:CmpOp}(h:isV X Y n=some Z)(q:Q Z σ)(h1:Q (n X.isNone) σ->AC2 C d (compareOp op) X .none σ Q)(h2:∀a b:Bool,Q (n (a==b)) σ->AC2 C d (compareOp op) (.bool a) (.bool b) σ Q):AC2 C d (compareOp op) X Y σ Q:=by
 unfold isV at h
 cases hn:Y.isNone with
 |true=>rw[hn] at h;rw[V.isN_i hn];exact h1 (Option.some.inj h▸q)
 |false=>
  rw[hn] at h
  rcases z9k h with⟨a,b,e1,e2,h⟩|h
  ·rw[y3C e1,y3C e2];exact h2 a b (Option.some.inj h▸q)
  ·exact nomatch h
theorem z26{op:CmpOp}(h:y0n op X Y=some Z)(q:Q Z σ):AC2 C d (compareOp op) X Y σ Q:=by
 cases op with
 |Lt=>exact z2Z h q λ_ _ q=>y45 q
 |LtE=>exact z2Z h q λ_ _ q=>y5A q
 |Gt=>exact z2Z h q λ_ _ q=>y5J q
 |GtE=>exact z2Z h q λ_ _ q=>y5O q
 |Eq=>exact y1I h q (λ_ _ q=>y5K q) λ_ _ q=>y3B q
 |NotEq=>exact y1I (n:=λb=> .bool (!b)) h q (λ_ _ q=>y0P q) λ_ _ q=>y3E q
 |Is=>exact y0m h q (λq=>y1p q) λ_ _ q=>y4i q
 |IsNot=>exact y0m (n:=λb=> .bool (!b)) h q (λq=>z8r q) λ_ _ q=>z96 q
 |_=>exact ffo h
theorem y1C{k:Nat}(h:y14 X k=some Z)(hk:Nat.blt k 1000=true)(q:Q Z σ):SubR C d X (.int (k:Int)) σ Q:=by
 unfold y14 at h
 cases e:tuO X with
 |none=>rw[e] at h;exact nomatch h
 |some xs=>
  rw[e] at h;rw[y1Z e]
  exact z3f (Int.natCast_nonneg k) (Int.ofNat_lt.mpr (Nat.lt_trans (Nat.blt_eq.mp hk) (by decide))) h q
theorem y4q{i:Int}{t:TK}(q:Q (.bool (TK.int.is t)) σ):KW C d (.bi "isinstance") [.int i,.type t.n] σ Q:=z8O λA G D s v R h1=>by
 apply VR.intE h1;intro _
 cases t with
 |str=>exact IsiPair.int_str (PostC.now (R.tok _) (.bool _) q)
 |int=>exact IsiPair.int_int (PostC.now R (.bool _) q)
 |bool=>exact IsiPair.int_bool (PostC.now (R.tok _) (.bool _) q)
 |tup=>exact IsiPair.int_tuple (PostC.now (R.tok _) (.bool _) q)
 |lst=>exact IsiPair.int_list (PostC.now (R.tok _) (.bool _) q)
 |dct=>exact IsiPair.int_dict (PostC.now (R.tok _) (.bool _) q)
theorem y3d{b:Bool}{t:TK}(q:Q (.bool (TK.bool.is t)) σ):KW C d (.bi "isinstance") [.bool b,.type t.n] σ Q:=z8O λA G D s v R h1=>by
 apply VR.boolE h1
 cases t with
 |str=>exact IsiPair.bool_str (PostC.now (R.tok _) (.bool _) q)
 |int=>exact IsiPair.bool_int (PostC.now R (.bool _) q)
 |bool=>exact IsiPair.bool_bool (PostC.now R (.bool _) q)
 |tup=>exact IsiPair.bool_tuple (PostC.now (R.tok _) (.bool _) q)
 |lst=>exact IsiPair.bool_list (PostC.now (R.tok _) (.bool _) q)
 |dct=>exact IsiPair.bool_dict (PostC.now (R.tok _) (.bool _) q)
theorem y3Z{x:Str}{t:TK}(q:Q (.bool (TK.str.is t)) σ):KW C d (.bi "isinstance") [.str x,.type t.n] σ Q:=z8O λA G D s v R h1=>by
 apply VR.strE h1;intro _
 cases t with
 |str=>exact IsiPair.str_str (PostC.now R (.bool _) q)
 |int=>exact IsiPair.str_int (PostC.now (R.tok _) (.bool _) q)
 |bool=>exact IsiPair.str_bool (PostC.now (R.tok _) (.bool _) q)
 |tup=>exact IsiPair.str_tuple (PostC.now (R.tok _) (.bool _) q)
 |lst=>exact IsiPair.str_list (PostC.now (R.tok _) (.bool _) q)
 |dct=>exact IsiPair.str_dict (PostC.now (R.tok _) (.bool _) q)
theorem is_none{t:TK}(q:Q (.bool false) σ):KW C d (.bi "isinstance") [.none,.type t.n] σ Q:=z8O λA G D s v R h1=>by
 apply VR.noneE h1
 cases t with
 |str=>exact IsiPair.NoneType_str (PostC.now (R.tok _) (.bool _) q)
 |int=>exact IsiPair.NoneType_int (PostC.now (R.tok _) (.bool _) q)
 |bool=>exact IsiPair.NoneType_bool (PostC.now (R.tok _) (.bool _) q)
 |tup=>exact IsiPair.NoneType_tuple (PostC.now (R.tok _) (.bool _) q)
 |lst=>exact IsiPair.NoneType_list (PostC.now (R.tok _) (.bool _) q)
 |dct=>exact IsiPair.NoneType_dict (PostC.now (R.tok _) (.bool _) q)
theorem y4g{xs:List V}{t:TK}(q:Q (.bool (TK.tup.is t)) σ):KW C d (.bi "isinstance") [.tup xs,.type t.n] σ Q:=z8O λA G D s v R h1=>by
 obtain⟨a,o,vs,n,rfl,e,hc,hd,hr⟩:=h1.tupI
 cases t with
 |str=>exact IsiPair.tuple_str (R.d _ _ e) hc (PostC.now (R.tok _) (.bool _) q)
 |int=>exact IsiPair.tuple_int (R.d _ _ e) hc (PostC.now (R.tok _) (.bool _) q)
 |bool=>exact IsiPair.tuple_bool (R.d _ _ e) hc (PostC.now (R.tok _) (.bool _) q)
 |tup=>exact IsiPair.tuple_tuple (R.d _ _ e) hc (PostC.now R (.bool _) q)
 |lst=>exact IsiPair.tuple_list (R.d _ _ e) hc (PostC.now (R.tok _) (.bool _) q)
 |dct=>exact IsiPair.tuple_dict (R.d _ _ e) hc (PostC.now (R.tok _) (.bool _) q)
theorem y0Z{x:V}{xs:List V}{P:Sto->Prop}(h:Has σ x (.list xs) P){t:TK}(q:Q (.bool (TK.lst.is t)) σ):KW C d (.bi "isinstance") [x,.type t.n] σ Q:=z8O λA G D s v R h1=>by
 apply Has.isListE h R h1;intro a ws n ho hr
 cases t with
 |str=>exact IsiPair.list_str ho rfl (PostC.now (R.tok _) (.bool _) q)
 |int=>exact IsiPair.list_int ho rfl (PostC.now (R.tok _) (.bool _) q)
 |bool=>exact IsiPair.list_bool ho rfl (PostC.now (R.tok _) (.bool _) q)
 |tup=>exact IsiPair.list_tuple ho rfl (PostC.now (R.tok _) (.bool _) q)
 |lst=>exact IsiPair.list_list ho rfl (PostC.now R (.bool _) q)
 |dct=>exact IsiPair.list_dict ho rfl (PostC.now (R.tok _) (.bool _) q)
theorem y2k{x:V}{xs:List (V×V)}{P:Sto->Prop}(h:Has σ x (.dict xs) P){t:TK}(q:Q (.bool (TK.dct.is t)) σ):KW C d (.bi "isinstance") [x,.type t.n] σ Q:=z8O λA G D s v R h1=>by
 apply Has.isDictE h R h1;intro a ws n ho
 cases t with
 |str=>exact IsiPair.dict_str ho rfl (PostC.now (R.tok _) (.bool _) q)
 |int=>exact IsiPair.dict_int ho rfl (PostC.now (R.tok _) (.bool _) q)
 |bool=>exact IsiPair.dict_bool ho rfl (PostC.now (R.tok _) (.bool _) q)
 |tup=>exact IsiPair.dict_tuple ho rfl (PostC.now (R.tok _) (.bool _) q)
 |lst=>exact IsiPair.dict_list ho rfl (PostC.now (R.tok _) (.bool _) q)
 |dct=>exact IsiPair.dict_dict ho rfl (PostC.now R (.bool _) q)
theorem z3z{t:TK}{b:Bool}(h:y2G X t=some b)(q:Q (.bool b) σ):KW C d (.bi "isinstance") [X,.type t.n] σ Q:=by
 have k:∀{a:Bool},some a=some b->Q (.bool a) σ:=λh=>(Option.some.inj h).symm▸q
 cases X with
 |none=>exact is_none (k h)
 |bool _=>exact y3d (k h)
 |int _=>exact y4q (k h)
 |str _=>exact y3Z (k h)
 |tup _=>exact y4g (k h)
 |lst _=>exact y0Z (.lst _) (k h)
 |dct _=>exact y2k (.dct _) (k h)
 |_=>exact nomatch h
noncomputable def cQ(o:Option V)(σ:Sto)(Q:V->Sto->Prop)(L:Prop):Prop:=match o with
 |some Z=>Q Z σ
 |none=>Leaf L
theorem z4j{a b:Int}{L:Prop}(h:0<b)(q:Q (.int (a.fmod b)) σ):cQ (y2J .Mod (.int a) (.int b)) σ Q L:=by
 obtain⟨k,rfl⟩:∃k:Nat,b=((k+1:Nat):Int):=⟨b.toNat-1,by lia⟩
 exact q
theorem z09{a:Int}{n:Nat}{L:Prop}(h:0<n)(q:∀k:Nat,k<n->Q (.int (k:Int)) σ):cQ (y2J .Mod (.int a) (.int (n:Int))) σ Q L:=by
 have hp:(0:Int)<(n:Int):=Int.ofNat_lt.mpr h
 refine z4j hp ?_
 obtain⟨k,e⟩:=Int.eq_ofNat_of_zero_le (Int.fmod_nonneg_of_pos a hp)
 rw[e]
 exact q k (Int.ofNat_lt.mp (e▸Int.fmod_lt_of_pos a hp))
theorem z0L{x:V}{xs:List V}{P:Sto->Prop}{n:Nat}(h:Has σ x (.list xs) P)(hn:xs.length=n)(hl:xs.length<=sizeLine)(q:Q (.int (n:Int)) σ):KW C d (.bi "len") [x] σ Q:=z2h h hl (by rw[hn];exact q)
noncomputable def cB(o:Option V)(σ:Sto)(Q:Bool->Sto->Prop)(L:Prop):Prop:=match o with
 |some (.bool b)=>Q b σ
 |_=>Leaf L
noncomputable def cIf(b:Bool)(A B:Prop):Prop:=match b with
 |true=>A
 |false=>B
theorem z0A{b:Bool}{A B:Prop}(h:b=true)(a:A):cIf b A B:=by subst h;exact a
theorem z0D{b:Bool}{A B:Prop}(h:b=false)(a:B):cIf b A B:=by subst h;exact a
theorem z0o{b:Bool}{A B:Prop}(h:b=true->A)(k:b=false->B):cIf b A B:=by
 cases b with
 |true=>exact h rfl
 |false=>exact k rfl
theorem z4u{b:Bool}{A B:Prop}(w:cIf b A B):(b=true->A)/\(b=false->B):=by
 cases b with
 |true=>exact⟨λ_=>w,λe=>nomatch e⟩
 |false=>exact⟨(λe=>nomatch e),λ_=>w⟩
end
set_option genCtorIdx false in
inductive T where
 |loc (i:Nat) (x:Str) (p:Pos)|glb (i:Nat) (X:V) (x:Str) (p:Pos)|con (c:Const) (k:Nat) (p:Pos)|raw (e:Expr)|no
 |sub (a b:T) (p:Pos)|subT (a:T) (k u:Nat) (q p:Pos)|binc (o:Operator) (a b:T) (p:Pos)|cmp (o:CmpOp) (a b:T) (p:Pos)|cmpc (o:CmpOp) (a b:T) (p:Pos)|cmp2 (o o2:CmpOp) (a b c:T) (p:Pos)
 |una (o:UnaryOp) (a:T) (p:Pos)|vbo (o:BoolOp) (as:T) (p:Pos)|tup (as:T) (k:Nat) (p:Pos)|lst (as:T) (p:Pos)|call (f:Nat) (G:V) (x:Str) (q:Pos) (as:T) (p:Pos)|len (f:Nat) (x:Str) (q:Pos) (a:T) (p:Pos)|isi (f g:Nat) (t:TK) (x y:Str) (q r:Pos) (a:T) (p:Pos)
 |meth (ty id:String) (a:T) (n:Str) (q:Pos) (as:T) (p:Pos)|methI (c f:Nat) (a:T) (n:Str) (q:Pos) (as:T) (p:Pos)|slc (a b c:T) (p:Pos)
 |att (c:Nat) (a:T) (n:Str) (p:Pos)|dic (p:Pos)|nil|cons (a as:T)
 |bnot (a:T) (p:Pos)|bcmp (o:CmpOp) (a b:T) (p:Pos)|bcmpc (o:CmpOp) (a b:T) (p:Pos)|bcmp2 (o o2:CmpOp) (a b c:T) (p:Pos)|bvalc (a:T)|bbo (o:BoolOp) (as:T) (p:Pos)
 |bnil|bcons (a as:T)
 |setI (e a b:T) (u p:Pos)|rawS (s:Stmt)|asg (i:Nat) (x:Str) (q:Pos) (e:T) (p:Pos)|asgL (i:Nat) (x:Str) (q r p:Pos)|asgD (i:Nat) (x:Str) (q r p:Pos)|asg2 (i j:Nat) (x y:Str) (q r:Pos) (k:Nat) (u:Pos) (e:T) (p:Pos)|asg3 (i j l:Nat) (x y z:Str) (q r s:Pos) (k:Nat) (u:Pos) (e:T) (p:Pos)
 |ret (e:T) (p:Pos)|exp (e:T) (p:Pos)|ife (c a b:T) (p:Pos)
 |forR (f:Nat) (x:Str) (q:Pos) (a:T) (u:Pos) (i:Nat) (y:Str) (q2:Pos) (b:T) (p:Pos)|forL (a:T) (i:Nat) (y:Str) (q2:Pos) (b:T) (p:Pos)|forL2 (a:T) (i j:Nat) (y z:Str) (q2 q3:Pos) (k:Nat) (u:Pos) (b:T) (p:Pos)
 |forDS (a:T) (i:Nat) (y:Str) (q2:Pos) (b:T) (p:Pos)|forDI (a:T) (i:Nat) (y:Str) (q2:Pos) (b:T) (p:Pos)
 |forV (f:Nat) (x:Str) (q:Pos) (a:T) (u:Pos) (i:Nat) (y:Str) (q2:Pos) (b:T) (p:Pos)|forE (f:Nat) (x:Str) (q:Pos) (a:T) (u:Pos) (i j:Nat) (y z:Str) (q2 q3:Pos) (k:Nat) (v:Pos) (b:T) (p:Pos)
 |done|seq (s r:T)|cut (s r:T)|dseq (s r:T)
structure Fx where
 C:Cx
 env:Env
 vars:List Str
 gl:List (Str×V)
 own:Bool
 d:Nat
 fns:List Nat
 ml:List (Nat×Str×Nat)
 al:List (Nat×Str)
set_option genCtorIdx false in
inductive Ins where
 |loc (i:Nat)|psh (X:V)|len|raw (e:Expr)|sub|subT (k:Nat)|binc (o:Operator)|cmp (o:CmpOp)|cmpc (o:CmpOp)|cm2 (o:CmpOp) (r:List Ins)|una (o:UnaryOp)
 |vop (o:BoolOp) (r:List Ins)|tup (n:Nat)|lst (n:Nat)|call (G:V) (n:Nat)|isi (t:TK)|mty (ty:String)|meth (G:V) (n:Nat)|mI (c:Nat) (nm:Str)|slc
 |tcmp (o:CmpOp)|tcmpc (o:CmpOp)|tcm2 (o:CmpOp) (r:List Ins)|tvalc|not|mop (o:BoolOp) (r:List Ins)
 |ife (a b:List Ins)|asg (i:Nat)|asgL (i:Nat)|asgD (i:Nat)|asg2 (i j:Nat)|asg3 (i j l:Nat)|ret|pop|att (c:Nat) (nm:Str)|dic|setI|drp|rawS (s:Stmt)|cut (a:List Ins)|forR (i:Nat) (b:List Ins)|forL (i:Nat) (b:List Ins)|forL2 (i j:Nat) (b:List Ins)|forDS (i:Nat) (b:List Ins)|forDI (i:Nat) (b:List Ins)|forV (i:Nat) (b:List Ins)|forE (i j:Nat) (b:List Ins)
inductive Cat where
 |e|o|l|b|m|s|r
structure Den where
 k:Cat
 ok:Fx->Bool
 ex:Expr
 exs:List Expr
 st:Stmt
 sts:List Stmt
 c:List Ins->List Ins
 cv:BoolOp->List Ins->List Ins
noncomputable def D0:Den:=⟨.o,λ_=>true,.Name "" ⟨0,0,0,0⟩,[],.Pass ⟨0,0,0,0⟩,[],λc=> .psh .none::c,λ_ c=>c⟩
noncomputable def dE(ex:Expr)(ok:Fx->Bool)(c:List Ins->List Ins):Den:={D0 with k:= .e,ok:=ok,ex:=ex,c:=c}
noncomputable def dL(exs:List Expr)(ok:Fx->Bool)(c:List Ins->List Ins)(cv:BoolOp->List Ins->List Ins):Den:={D0 with k:= .l,ok:=ok,exs:=exs,c:=c,cv:=cv}
noncomputable def dB(ex:Expr)(ok:Fx->Bool)(c:List Ins->List Ins):Den:={D0 with k:= .b,ok:=ok,ex:=ex,c:=c}
noncomputable def dM(exs:List Expr)(ok:Fx->Bool)(cv:BoolOp->List Ins->List Ins):Den:={D0 with k:= .m,ok:=ok,exs:=exs,cv:=cv}
noncomputable def d1(st:Stmt)(ok:Fx->Bool)(c:List Ins->List Ins):Den:={D0 with k:= .s,ok:=ok,st:=st,c:=c}
noncomputable def dS1(sts:List Stmt)(ok:Fx->Bool)(c:List Ins->List Ins):Den:={D0 with k:= .r,ok:=ok,sts:=sts,c:=c}
noncomputable def okE(F:Fx)(D:Den):Bool:=match D.k with| .e=>D.ok F|_=>false
noncomputable def okO(F:Fx)(D:Den):Bool:=match D.k with| .e=>D.ok F| .o=>true|_=>false
noncomputable def exo(D:Den):Option Expr:=match D.k with| .e=>some D.ex|_=>none
noncomputable def okL(F:Fx)(D:Den):Bool:=match D.k with| .l=>D.ok F|_=>false
noncomputable def okB(F:Fx)(D:Den):Bool:=match D.k with| .b=>D.ok F|_=>false
noncomputable def okM(F:Fx)(D:Den):Bool:=match D.k with| .m=>D.ok F|_=>false
noncomputable def ok1(F:Fx)(D:Den):Bool:=match D.k with| .s=>D.ok F|_=>false
noncomputable def okS(F:Fx)(D:Den):Bool:=match D.k with| .r=>D.ok F|_=>false
noncomputable def isK(e:Expr)(n:Nat):Bool:=Nat.beq e.ctorIdx n
noncomputable def z3q(e:Expr):Bool:= !isK e 22
noncomputable def z5q(e:Expr):Bool:=isK e 23||(isK e 21||(isK e 16||(isK e 2||isK e 20)))
noncomputable def y4t(e:Expr):Bool:=isK e 23
noncomputable def z8T(e:Expr):Bool:= !isK e 16
noncomputable def z3t(e:Expr):Bool:= !(isK e 8||(isK e 9||isK e 10))
noncomputable def y1h(e:Expr):Bool:= !isK e 25
noncomputable def y0v(e:Expr):Bool:= !(isK e 0||(isK e 1||(isK e 3||(isK e 5||isK e 15))))
noncomputable def conV:Const->Option V
 | .int k=>some (.int k)| .str k=>some (.str k)| .bool k=>some (.bool k)| .none=>some .none|_=>none
noncomputable def veq(X Y:V):Bool:=match X with
 | .bi a=>match Y with| .bi b=>a==b|_=>false
 | .type a=>match Y with| .type b=>a==b|_=>false
 | .ref a=>match Y with| .ref b=>Nat.beq a b|_=>false
 | .int a=>match Y with| .int b=>a==b|_=>false
 | .str a=>match Y with| .str b=>a==b|_=>false
 |_=>false
noncomputable def okG(x:Str)(X:V):Option (Str×V)->Bool
 |some p=>(p.1==x)&&veq p.2 X
 |none=>false
noncomputable def isF(fns:List Nat):V->Bool
 | .bi _=>true
 | .type _=>true
 | .ref a=>fns.contains a
 |_=>false
noncomputable def y4F(id:String)(n:Str)(o:Option (Str×V)):Bool:=okG n (.bi id) o
noncomputable def y2b(id:String)(n:Str)(o:Option (Str×V)):Bool:=okG n (.type id) o
noncomputable def bms:List (String×Str×String):=[("list","append","list.append"),("list","pop","list.pop"),("list","clear","list.clear"),("dict","get","dict.get"),("dict","pop","dict.pop"),("dict","setdefault","dict.setdefault"),("dict","update","dict.update"),("dict","clear","dict.clear"),("str","join","str.join")]
noncomputable def z1B(m:Loc)(i:Nat)(X:V)(k:Loc->Prop):Prop:=match Nat.blt i m.length with
 |true=>k (m.set i (some X))
 |false=>False
noncomputable def st1(s:List V)(k:V->List V->Prop):Prop:=match s with
 |X::s=>k X s
 |[]=>False
noncomputable def nlF(s:List V)(k:Prop):Prop:=match s with
 |[]=>k
 |_::_=>False
noncomputable def tpF(X:V)(k:List V->Prop):Prop:=match X with
 | .tup xs=>k xs
 |_=>False
noncomputable def y1j(X:V)(k:V->V->Prop):Prop:=tpF X λxs=>st1 xs λx xs=>st1 xs λy xs=>nlF xs (k x y)
noncomputable def y43(X:V)(k:V->V->V->Prop):Prop:=tpF X λxs=>st1 xs λx xs=>st1 xs λy xs=>st1 xs λz xs=>nlF xs (k x y z)
noncomputable def z12(R:Loc->Sto->Prop)(Q:Fl->Loc->Sto->Prop):Fl->Loc->Sto->Prop
 | .next,m,σ=>R m σ
 |f,m,σ=>Q f m σ
noncomputable def den:T->Den
 | .loc i x p=>dE (.Name x p) (λF=>F.vars[i]? ==some x) λc=> .loc i::c
 | .glb i X x p=>dE (.Name x p) (λF=>okG x X F.gl[i]?) λc=> .psh X::c
 | .con k n p=>dE (.Constant k n p) (λ_=>(conV k).isSome) λc=> .psh ((conV k).getD .none)::c
 | .raw e=>dE e (λ_=>true) λc=> .raw e::c
 | .no=>D0
 | .sub a b p=>dE (.Subscript (den a).ex (den b).ex p) (λF=>okE F (den a)&&okE F (den b)) λc=>(den a).c ((den b).c (.sub::c))
 | .subT a k u q p=>dE (.Subscript (den a).ex (.Constant (.int (k:Int)) u q) p) (λF=>okE F (den a)&&Nat.blt k 1000) λc=>(den a).c (.subT k::c)
 | .binc o a b p=>dE (.BinOp (den a).ex o (den b).ex p) (λF=>okE F (den a)&&okE F (den b)) λc=>(den a).c ((den b).c (.binc o::c))
 | .cmp o a b p=>dE (.Compare (den a).ex [o] [(den b).ex] p) (λF=>okE F (den a)&&(okE F (den b)&& !behindInMarks o (den b).ex)) λc=>(den a).c ((den b).c (.cmp o::c))
 | .cmpc o a b p=>dE (.Compare (den a).ex [o] [(den b).ex] p) (λF=>okE F (den a)&&(okE F (den b)&& !behindInMarks o (den b).ex)) λc=>(den a).c ((den b).c (.cmpc o::c))
 | .cmp2 o o2 a b e p=>dE (.Compare (den a).ex [o,o2] [(den b).ex,(den e).ex] p) (λF=>okE F (den a)&&(okE F (den b)&&(okE F (den e)&& !behindInMarks o2 (den e).ex))) λc=>(den a).c ((den b).c (.cm2 o ((den e).c [.cmpc o2])::c))
 | .una o a p=>dE (.UnaryOp o (den a).ex p) (λF=>okE F (den a)) λc=>(den a).c (.una o::c)
 | .vbo o as p=>dE (.BoolOp o (den as).exs p) (λF=>okL F (den as)&& !(den as).exs.isEmpty) λc=>(den as).cv o c
 | .tup as k p=>dE (.Tuple (den as).exs k p) (λF=>okL F (den as)&&Nat.ble (den as).exs.length 1000) λc=>(den as).c (.tup (den as).exs.length::c)
 | .lst as p=>dE (.List (den as).exs p) (λF=>okL F (den as)&&Nat.ble (den as).exs.length 1000) λc=>(den as).c (.lst (den as).exs.length::c)
 | .call f G x q as p=>dE (.Call (.Name x q) (den as).exs [] p) (λF=>(okG x G F.gl[f]? &&isF F.fns G)&&okL F (den as)) λc=>(den as).c (.call G (den as).exs.length::c)
 | .len f x q a p=>dE (.Call (.Name x q) [(den a).ex] [] p) (λF=>okE F (den a)&&(z3q (den a).ex&&y4F "len" x F.gl[f]?)) λc=>(den a).c (.len::c)
 | .isi f g t x y q r a p=>dE (.Call (.Name x q) [(den a).ex,.Name y r] [] p) (λF=>okE F (den a)&&(z3q (den a).ex&&(y4F "isinstance" x F.gl[f]? &&y2b t.n y F.gl[g]?))) λc=>(den a).c (.isi t::c)
 | .meth ty id a n q as p=>dE (.Call (.Attribute (den a).ex n q) (den as).exs [] p) (λF=>(okE F (den a)&&okL F (den as))&&((z8T (den a).ex&&(q.endLine==p.line&&Nat.blt (den as).exs.length 30))&&bms.contains (ty,n,id))) λc=>(den a).c (.mty ty::(den as).c (.meth (.bi id) (den as).exs.length::c))
 | .methI c' f a n q as p=>dE (.Call (.Attribute (den a).ex n q) (den as).exs [] p) (λF=>(okE F (den a)&&okL F (den as))&&((z8T (den a).ex&&(q.endLine==p.line&&Nat.blt (den as).exs.length 30))&&F.ml.contains (c',n,f))) λc=>(den a).c (.mI c' n::(den as).c (.meth (.ref f) (den as).exs.length::c))
 | .slc a b e p=>dE (.Slice (exo (den a)) (exo (den b)) (exo (den e)) p) (λF=>okO F (den a)&&(okO F (den b)&&okO F (den e))) λc=>(den a).c ((den b).c ((den e).c (.slc::c)))
 | .att k a n p=>dE (.Attribute (den a).ex n p) (λF=>okE F (den a)&&(y4t (den a).ex&&F.al.contains (k,n))) λc=>(den a).c (.att k n::c)
 | .dic p=>dE (.Dict [] [] p) (λ_=>true) λc=> .dic::c
 | .nil=>dL [] (λ_=>true) (λc=>c) λ_ c=>c
 | .cons a as=>dL ((den a).ex::(den as).exs) (λF=>okE F (den a)&&(z3q (den a).ex&&okL F (den as))) (λc=>(den a).c ((den as).c c)) λo c=>match(den as).exs with
   |[]=>(den a).c c
   |_::_=>(den a).c (.vop o ((den as).cv o [])::c)
 | .bnot a p=>dB (.UnaryOp .Not (den a).ex p) (λF=>okB F (den a)) λc=>(den a).c (.not::c)
 | .bcmp o a b p=>dB (.Compare (den a).ex [o] [(den b).ex] p) (λF=>okE F (den a)&&(okE F (den b)&& !behindInMarks o (den b).ex)) λc=>(den a).c ((den b).c (.tcmp o::c))
 | .bcmpc o a b p=>dB (.Compare (den a).ex [o] [(den b).ex] p) (λF=>okE F (den a)&&(okE F (den b)&& !behindInMarks o (den b).ex)) λc=>(den a).c ((den b).c (.tcmpc o::c))
 | .bcmp2 o o2 a b e p=>dB (.Compare (den a).ex [o,o2] [(den b).ex,(den e).ex] p) (λF=>okE F (den a)&&(okE F (den b)&&(okE F (den e)&& !behindInMarks o2 (den e).ex))) λc=>(den a).c ((den b).c (.tcm2 o ((den e).c [.tcmpc o2])::c))
 | .bvalc a=>dB (den a).ex (λF=>okE F (den a)&&y0v (den a).ex) λc=>(den a).c (.tvalc::c)
 | .bbo o as p=>dB (.BoolOp o (den as).exs p) (λF=>okM F (den as)) λc=>(den as).cv o c
 | .bnil=>dM [] (λ_=>true) λo c=>match o with
   | .And=> .psh (.bool true)::c
   | .Or=> .psh (.bool false)::c
 | .bcons a as=>dM ((den a).ex::(den as).exs) (λF=>okB F (den a)&&okM F (den as)) λo c=>(den a).c (.mop o ((den as).cv o [])::c)
 | .setI e a b u p=>d1 (.Assign [.Subscript (den a).ex (den b).ex u] (den e).ex p) (λF=>z3t (den e).ex&&(okE F (den e)&&(okE F (den a)&&okE F (den b)))) λc=>(den e).c ((den a).c ((den b).c (.setI::c)))
 | .rawS s=>d1 s (λ_=>true) λc=> .rawS s::c
 | .asg i x q e p=>d1 (.Assign [.Name x q] (den e).ex p) (λF=>F.vars[i]? ==some x&&(z3t (den e).ex&&okE F (den e))) λc=>(den e).c (.asg i::c)
 | .asgL i x q r p=>d1 (.Assign [.Name x q] (.List [] r) p) (λF=>F.vars[i]? ==some x) λc=> .asgL i::c
 | .asgD i x q r p=>d1 (.Assign [.Name x q] (.Dict [] [] r) p) (λF=>F.vars[i]? ==some x) λc=> .asgD i::c
 | .asg2 i j x y q r k u e p=>d1 (.Assign [.Tuple [.Name x q,.Name y r] k u] (den e).ex p) (λF=>F.vars[i]? ==some x&&(F.vars[j]? ==some y&&(z3t (den e).ex&&(y1h (den e).ex&&okE F (den e))))) λc=>(den e).c (.asg2 i j::c)
 | .asg3 i j l x y z q r s k u e p=>d1 (.Assign [.Tuple [.Name x q,.Name y r,.Name z s] k u] (den e).ex p) (λF=>F.vars[i]? ==some x&&(F.vars[j]? ==some y&&(F.vars[l]? ==some z&&(z3t (den e).ex&&(y1h (den e).ex&&okE F (den e)))))) λc=>(den e).c (.asg3 i j l::c)
 | .ret e p=>d1 (.Return (some (den e).ex) p) (λF=>okE F (den e)) λc=>(den e).c (.ret::c)
 | .exp e p=>d1 (.Expr (den e).ex p) (λF=>z3t (den e).ex&&okE F (den e)) λc=>(den e).c (.pop::c)
 | .ife e a b p=>d1 (.If (den e).ex (den a).sts (den b).sts p) (λF=>okB F (den e)&&(okS F (den a)&&okS F (den b))) λc=>(den e).c (.ife ((den a).c []) ((den b).c [])::c)
 | .forR f x q a u i y q2 b p=>d1 (.For (.Name y q2) (.Call (.Name x q) [(den a).ex] [] u) (den b).sts [] p) (λF=>okE F (den a)&&(z3q (den a).ex&&(y2b "range" x F.gl[f]? &&(F.vars[i]? ==some y&&okS F (den b))))) λc=>(den a).c (.forR i ((den b).c [])::c)
 | .forL a i y q2 b p=>d1 (.For (.Name y q2) (den a).ex (den b).sts [] p) (λF=>okE F (den a)&&(z5q (den a).ex&&(F.vars[i]? ==some y&&okS F (den b)))) λc=>(den a).c (.forL i ((den b).c [])::c)
 | .forL2 a i j y z q2 q3 k u b p=>d1 (.For (.Tuple [.Name y q2,.Name z q3] k u) (den a).ex (den b).sts [] p) (λF=>okE F (den a)&&(z5q (den a).ex&&(F.vars[i]? ==some y&&(F.vars[j]? ==some z&&okS F (den b))))) λc=>(den a).c (.forL2 i j ((den b).c [])::c)
 | .forDS a i y q2 b p=>d1 (.For (.Name y q2) (den a).ex (den b).sts [] p) (λF=>okE F (den a)&&(z5q (den a).ex&&(F.vars[i]? ==some y&&okS F (den b)))) λc=>(den a).c (.forDS i ((den b).c [])::c)
 | .forDI a i y q2 b p=>d1 (.For (.Name y q2) (den a).ex (den b).sts [] p) (λF=>okE F (den a)&&(z5q (den a).ex&&(F.vars[i]? ==some y&&okS F (den b)))) λc=>(den a).c (.forDI i ((den b).c [])::c)
 | .forV f x q a u i y q2 b p=>d1 (.For (.Name y q2) (.Call (.Name x q) [(den a).ex] [] u) (den b).sts [] p) (λF=>okE F (den a)&&(z3q (den a).ex&&((x==("reversed":Str))&&(y2b "reversed" x F.gl[f]? &&(F.vars[i]? ==some y&&okS F (den b)))))) λc=>(den a).c (.forV i ((den b).c [])::c)
 | .forE f x q a u i j y z q2 q3 k v b p=>d1 (.For (.Tuple [.Name y q2,.Name z q3] k v) (.Call (.Name x q) [(den a).ex] [] u) (den b).sts [] p) (λF=>okE F (den a)&&(z3q (den a).ex&&((x==("enumerate":Str))&&(y2b "enumerate" x F.gl[f]? &&(F.vars[i]? ==some y&&(F.vars[j]? ==some z&&okS F (den b))))))) λc=>(den a).c (.forE i j ((den b).c [])::c)
 | .done=>dS1 [] (λ_=>true) λc=>c
 | .seq s r=>dS1 ((den s).st::(den r).sts) (λF=>ok1 F (den s)&&okS F (den r)) λc=>(den s).c ((den r).c c)
 | .cut s r=>dS1 ((den s).st::(den r).sts) (λF=>ok1 F (den s)&&okS F (den r)) λc=> .cut ((den s).c [])::(den r).c c
 | .dseq s r=>dS1 ((den s).st::(den r).sts) (λF=>ok1 F (den s)&&okS F (den r)) λc=>(den s).c (.drp::(den r).c c)
noncomputable def inf:Ins->Nat×Nat×Nat×Nat×List Ins×List Ins×V
 | .loc i=>(1,i,0,0,[],[],.none)| .psh X=>(2,0,0,0,[],[],X)| .subT k=>(3,k,0,0,[],[],.none)| .cmp _=>(6,0,0,0,[],[],.none)| .cm2 _ r=>(8,0,0,0,r,[],.none)| .isi t=>(9,t.no,0,0,[],[],.none)| .len=>(10,0,0,0,[],[],.none)
 | .mty ty=>(11,0,0,0,[],[],.bi ty)| .rawS _=>(13,0,0,0,[],[],.none)| .tcmp _=>(14,0,0,0,[],[],.none)| .tcm2 _ r=>(15,0,0,0,r,[],.none)| .asgL i=>(17,i,0,0,[],[],.none)| .asgD i=>(18,i,0,0,[],[],.none)| .asg2 i j=>(19,i,j,0,[],[],.none)
 | .forR i b=>(20,i,0,0,b,[],.none)| .forV i b=>(21,i,0,0,b,[],.none)| .forE i j b=>(22,i,j,0,b,[],.none)| .forL i b=>(23,i,0,0,b,[],.none)| .forL2 i j b=>(24,i,j,0,b,[],.none)| .forDS i b=>(25,i,0,0,b,[],.none)| .forDI i b=>(26,i,0,0,b,[],.none)
 | .drp=>(27,0,0,0,[],[],.none)| .cut a=>(28,0,0,0,a,[],.none)| .vop _ r=>(0,0,0,0,r,[],.none)| .mop _ r=>(0,0,0,0,r,[],.none)| .ife a b=>(0,0,0,0,a,b,.none)| .asg i=>(0,i,0,0,[],[],.none)| .asg3 i j l=>(0,i,j,l,[],[],.none)| .att k _=>(0,k,0,0,[],[],.none)| .mI k _=>(0,k,0,0,[],[],.none)
 | .call G _=>(0,0,0,0,[],[],G)| .meth G _=>(0,0,0,0,[],[],G)|_=>(0,0,0,0,[],[],.none)
noncomputable abbrev RR:=T×List Ins
noncomputable def hd(k:RR):Nat×Nat×Nat×Nat×List Ins×List Ins×V:=inf (k.2.headD .slc)
noncomputable def ik(k:RR)(n:Nat):Bool:=Nat.beq (hd k).1 n
noncomputable def on(k:RR)(t:T):RR:=(t,k.2.tail)
noncomputable def n1(k:RR):Nat:=(hd k).2.1
noncomputable def n2(k:RR):Nat:=(hd k).2.2.1
noncomputable def bl(k:RR):List Ins:=(hd k).2.2.2.2.1
noncomputable def vl(k:RR):V:=(hd k).2.2.2.2.2.2
noncomputable def nm:Expr->Str×Pos
 | .Name x p=>(x,p)
 |_=>("",⟨0,0,0,0⟩)
noncomputable def lsE:Expr->List Expr×Nat×Pos×Expr
 | .Tuple es k p=>(es,k,p,.Slice none none none p)
 | .Call f es _ p=>(es,0,p,f)
 |e=>([],0,⟨0,0,0,0⟩,e)
noncomputable def cnK:Expr->Nat
 | .Constant _ k _=>k
 |_=>0
noncomputable def biS:V->String
 | .bi s=>s
 |_=>""
noncomputable def rfN:V->Nat
 | .ref a=>a
 |_=>0
noncomputable def tkN:Nat->TK
 |0=> .str|1=> .int|2=> .bool|3=> .tup|4=> .lst|_=> .dct
noncomputable def y5N(e:Expr):List Ins->Bool
 | .raw x::_=>x.pos==e.pos
 |_=>false
noncomputable def rdL(f:Expr->RR->RR):List Expr->RR->RR
 |[],k=>(.nil,k.2)
 |x::xs,k=>(.cons (f x k).1 (rdL f xs (f x k)).1,(rdL f xs (f x k)).2)
noncomputable def rdV(f:Expr->RR->RR):List Expr->RR->RR
 |[],k=>k
 |x::xs,k=>cond xs.isEmpty (.cons (f x k).1 .nil,(f x k).2) (on (f x k) (.cons (f x k).1 (rdV f xs (.no,bl (f x k))).1))
noncomputable def rdM(f:Expr->RR->RR):List Expr->RR->RR
 |[],k=>on k .bnil
 |x::xs,k=>on (f x k) (.bcons (f x k).1 (rdM f xs (.no,bl (f x k))).1)
noncomputable def rdO(f:Expr->RR->RR)(e:Option Expr)(k:RR):RR:=match e with
 |some e=>f e k
 |none=>on k .no
noncomputable def rdE(gl:List (Str×V)):Nat->Expr->RR->RR
 |0,_,k=>k
 |n+1,e,k=>cond (y5N e k.2) (on k (.raw e))<|let f:=rdE gl n;let ix:=λx:Str=>gl.findIdx λy=>y.1==x;match e with
  | .Name x p=>on k (cond (ik k 1) (.loc (n1 k) x p) (.glb (ix x) (vl k) x p))
  | .Constant c u p=>on k (.con c u p)
  | .Subscript a b p=>cond (ik (f a k) 3) (on (f a k) (.subT (f a k).1 (n1 (f a k)) (cnK b) b.pos p)) (on (f b (f a k)) (.sub (f a k).1 (f b (f a k)).1 p))
  | .BinOp a o b p=>on (f b (f a k)) (.binc o (f a k).1 (f b (f a k)).1 p)
  | .Compare a os cs p=>let B:=f (cs.headD e) (f a k);let o:=os.headD .Eq;on B (cond (ik B 8) (.cmp2 o (os.tail.headD .Eq) (f a k).1 B.1 (f (cs.tail.headD e) (.no,bl B)).1 p) (cond (ik B 6) (.cmp o (f a k).1 B.1 p) (.cmpc o (f a k).1 B.1 p)))
  | .UnaryOp o a p=>on (f a k) (.una o (f a k).1 p)
  | .BoolOp o es p=>(.vbo o (rdV f es k).1 p,(rdV f es k).2)
  | .Tuple es u p=>on (rdL f es k) (.tup (rdL f es k).1 u p)
  | .List es p=>on (rdL f es k) (.lst (rdL f es k).1 p)
  | .Dict _ _ p=>on k (.dic p)
  | .Slice a b c p=>let A:=rdO f a k;let B:=rdO f b A;let C:=rdO f c B;on C (.slc A.1 B.1 C.1 p)
  | .Attribute a x p=>on (f a k) (.att (n1 (f a k)) (f a k).1 x p)
  | .Call g es _ p=>match g with
   | .Name x q=>let A:=f (es.headD g) k;let L:=rdL f es k;cond (!es.isEmpty&&ik A 9) (let y:=nm (es.tail.headD e);on A (.isi (ix x) (ix y.1) (tkN (n1 A)) x y.1 q y.2 A.1 p)) (cond (!es.isEmpty&&ik A 10) (on A (.len (ix x) x q A.1 p)) (on L (.call (ix x) (vl L) x q L.1 p)))
   | .Attribute a x q=>let A:=f a k;let L:=rdL f es (on A .no);on L (cond (ik A 11) (.meth (biS (vl A)) (biS (vl L)) A.1 x q L.1 p) (.methI (n1 A) (rfN (vl L)) A.1 x q L.1 p))
   |_=>k
  |_=>k
noncomputable def rdB(f:Expr->RR->RR):Nat->Expr->RR->RR
 |0,_,k=>k
 |n+1,e,k=>match e with
  | .UnaryOp _ a p=>let A:=rdB f n a k;on A (.bnot A.1 p)
  | .Compare a os cs p=>let B:=f (cs.headD e) (f a k);let o:=os.headD .Eq;on B (cond (ik B 15) (.bcmp2 o (os.tail.headD .Eq) (f a k).1 B.1 (f (cs.tail.headD e) (.no,bl B)).1 p) (cond (ik B 14) (.bcmp o (f a k).1 B.1 p) (.bcmpc o (f a k).1 B.1 p)))
  | .BoolOp o es p=>(.bbo o (rdM (rdB f n) es k).1 p,(rdM (rdB f n) es k).2)
  |_=>on (f e k) (.bvalc (f e k).1)
noncomputable def rdR(f:Stmt->RR->RR):List Stmt->RR->RR
 |[],k=>(.done,k.2)
 |s::ss,k=>cond (ik k 28) (let A:=f s (.no,bl k);let B:=rdR f ss (on k .no);(.cut A.1 B.1,B.2)) (let A:=f s k;cond (ik A 27) (let B:=rdR f ss (on A .no);(.dseq A.1 B.1,B.2)) (let B:=rdR f ss A;(.seq A.1 B.1,B.2)))
noncomputable def rdS(f g:Expr->RR->RR)(gl:List (Str×V)):Nat->Stmt->RR->RR
 |0,_,k=>k
 |n+1,s,k=>cond (ik k 13) (on k (.rawS s))<|let R:=λss l=>(rdR (rdS f g gl n) ss (.no,l)).1;let ix:=λx:Str=>gl.findIdx λy=>y.1==x;match s with
  | .Assign ts e p=>let A:=f e k;match ts.headD e with
   | .Name x q=>cond (ik k 17) (on k (.asgL (n1 k) x q e.pos p)) (cond (ik k 18) (on k (.asgD (n1 k) x q e.pos p)) (on A (.asg (n1 A) x q A.1 p)))
   | .Tuple es u q=>let x:=nm (es.headD e);let y:=nm (es.tail.headD e);let z:=nm (es.tail.tail.headD e);on A (cond (ik A 19) (.asg2 (n1 A) (n2 A) x.1 y.1 x.2 y.2 u q A.1 p) (.asg3 (n1 A) (n2 A) (hd A).2.2.2.1 x.1 y.1 z.1 x.2 y.2 z.2 u q A.1 p))
   | .Subscript a b u=>let B:=f a A;let C:=f b B;on C (.setI A.1 B.1 C.1 u p)
   |_=>k
  | .Return o p=>on (rdO f o k) (.ret (rdO f o k).1 p)
  | .Expr e p=>on (f e k) (.exp (f e k).1 p)
  | .If c a b p=>let A:=g c k;on A (.ife A.1 (R a (bl A)) (R b (hd A).2.2.2.2.2.1) p)
  | .For t it b _ p=>let c:=lsE it;let x:=nm c.2.2.2;let A:=f (c.1.headD it) k;let B:=f it k;let y:=nm t;let ys:=lsE t;let v:=nm (ys.1.headD it);let w:=nm (ys.1.tail.headD it)
   cond (ik A 20) (on A (.forR (ix x.1) x.1 x.2 A.1 c.2.2.1 (n1 A) y.1 y.2 (R b (bl A)) p))
   (cond (ik A 21) (on A (.forV (ix x.1) x.1 x.2 A.1 c.2.2.1 (n1 A) y.1 y.2 (R b (bl A)) p))
   (cond (ik A 22) (on A (.forE (ix x.1) x.1 x.2 A.1 c.2.2.1 (n1 A) (n2 A) v.1 w.1 v.2 w.2 ys.2.1 ys.2.2.1 (R b (bl A)) p))
   (on B (cond (ik B 23) (.forL B.1 (n1 B) y.1 y.2 (R b (bl B)) p) (cond (ik B 24) (.forL2 B.1 (n1 B) (n2 B) v.1 w.1 v.2 w.2 ys.2.1 ys.2.2.1 (R b (bl B)) p) (cond (ik B 25) (.forDS B.1 (n1 B) y.1 y.2 (R b (bl B)) p) (.forDI B.1 (n1 B) y.1 y.2 (R b (bl B)) p)))))))
  |_=>k
noncomputable def rdT(gl:List (Str×V))(k:List Ins)(ss:List Stmt):T:=(rdR (rdS (rdE gl 30) (rdB (rdE gl 30) 30) gl 30) ss (.no,k)).1
noncomputable def z5J{α:Type}:Nat->List α->(α->Prop)->Prop
 |_,[],_=>False
 |0,x::_,K=>K x
 |n+1,_::l,K=>z5J n l K
noncomputable def exK:List Nat->Expr->(Expr->Prop)->Prop
 |[],e,K=>K e
 |i::r,e,K=>match e with
  | .BoolOp _ es _=>z5J i es λe=>exK r e K
  | .Compare a _ cs _=>z5J i (a::cs) λe=>exK r e K
  | .Call f es _ _=>z5J i (f::es) λe=>exK r e K
  | .Subscript a b _=>z5J i [a,b] λe=>exK r e K
  | .Tuple es _ _=>z5J i es λe=>exK r e K
  | .UnaryOp _ a _=>exK r a K
  | .BinOp a _ b _=>z5J i [a,b] λe=>exK r e K
  |_=>False
noncomputable def exS(s:Stmt)(K:Expr->Prop):Prop:=match s with
 | .Assign _ e _=>K e
 | .Return (some e) _=>K e
 | .Expr e _=>K e
 | .If c _ _ _=>K c
 | .For _ it _ _ _=>K it
 |_=>False
noncomputable def blS:Stmt->List (List Stmt)
 | .If _ a b _=>[a,b]
 | .For _ _ b _ _=>[b]
 | .While _ b _ _=>[b]
 |_=>[]
noncomputable def stK:List Nat->List Stmt->(Stmt->Prop)->Prop
 |i::j::r,ss,K=>z5J i ss λs=>z5J j (blS s) λss=>stK r ss K
 |i::[],ss,K=>z5J i ss K
 |[],_,_=>False
noncomputable def allK:List (List Nat×Option (List Nat))->List Stmt->(List (Stmt ⊕ Expr)->Prop)->Prop
 |[],_,K=>K []
 |p::ps,ss,K=>stK p.1 ss λs=>match p.2 with
  |none=>allK ps ss λl=>K (.inl s::l)
  |some q=>exS s λe=>exK q e λe=>allK ps ss λl=>K (.inr e::l)
structure TC where
 k:List Ins
 r:List (Stmt ⊕ Expr):=[]
 p:List (List Nat×Option (List Nat)):=[]
noncomputable def st2(s:List V)(k:V->V->List V->Prop):Prop:=st1 s λY s=>st1 s λX s=>k X Y s
noncomputable def stB(s:List V)(k:Bool->List V->Prop):Prop:=st1 s λX s=>match X with
 | .bool b=>k b s
 |_=>False
noncomputable def stN:Nat->List V->List V->(List V->List V->Prop)->Prop
 |0,s,acc,k=>k acc s
 |n+1,s,acc,k=>st1 s λX s=>stN n s (X::acc) k
section
variable (F:Fx)
noncomputable abbrev Fx.at(t:Sem Value)(m:Loc)(σ:Sto)(Q:V->Sto->Prop):Prop:=AT F.C F.env F.vars F.gl F.own F.d t m σ Q
noncomputable def y32(o:Option (Option V))(Q:V->Prop):Prop:=match o with
 |some (some X)=>Q X
 |_=>False
noncomputable def y2L(X:V)(k:List V->Prop)(L:Prop):Prop:=match X with
 | .tup xs=>k xs
 |_=>Leaf L
noncomputable def oI(o:BoolOp)(b:Bool)(x y:Prop):Prop:=match o with
 | .And=>cIf b x y
 | .Or=>cIf b y x
noncomputable def boV(o:BoolOp):V:=match o with
 | .And=> .bool false
 | .Or=> .bool true
noncomputable def tvW(X:V)(k:Bool->Prop)(L:Prop):Prop:=match X with
 | .bool b=>k b
 |_=>Leaf L
inductive LoopL(X:V)(m:Loc)(σ:Sto)(Q:Fl->Loc->Sto->Prop)(B:V->(Fl->Loc->Sto->Prop)->Loc->Sto->Prop)(R:Loc->Sto->Prop):Prop
 |mk (xs:List V) (P:Sto->Prop) (I:Nat->Loc->Sto->Prop):Has σ X (.list xs) P->I 0 m σ->(∀(i:Nat) Y,xs[i]? =some Y->∀m σ,I i m σ->∀QB:Fl->Loc->Sto->Prop,(∀m σ,P σ->I (i+1) m σ->QB .next m σ)->(∀Z m σ,Q (.ret Z) m σ->QB (.ret Z) m σ)->B Y QB m σ)->(∀m σ,I xs.length m σ->R m σ)->LoopL X m σ Q B R
inductive LoopG(g:List V->List V)(X:V)(m:Loc)(σ:Sto)(Q:Fl->Loc->Sto->Prop)(B:V->(Fl->Loc->Sto->Prop)->Loc->Sto->Prop)(R:Loc->Sto->Prop):Prop
 |mk (xs:List V) (P:Sto->Prop) (I:Nat->Loc->Sto->Prop):Has σ X (.list xs) P->I 0 m σ->(∀(i:Nat) Y,(g xs)[i]? =some Y->∀m σ,I i m σ->∀QB:Fl->Loc->Sto->Prop,(∀m σ,P σ->I (i+1) m σ->QB .next m σ)->(∀Z m σ,Q (.ret Z) m σ->QB (.ret Z) m σ)->B Y QB m σ)->(∀m σ,I (g xs).length m σ->R m σ)->LoopG g X m σ Q B R
inductive LoopR(X:V)(m:Loc)(σ:Sto)(Q:Fl->Loc->Sto->Prop)(B:V->(Fl->Loc->Sto->Prop)->Loc->Sto->Prop)(R:Loc->Sto->Prop):Prop
 |mk (n:Nat) (I:Nat->Loc->Sto->Prop):X= .int (n:Int)->n<=1000->I 0 m σ->(∀i:Nat,i<n->∀m σ,I i m σ->∀QB:Fl->Loc->Sto->Prop,(∀m σ,I (i+1) m σ->QB .next m σ)->(∀Z m σ,Q (.ret Z) m σ->QB (.ret Z) m σ)->B (.int (i:Int)) QB m σ)->(∀m σ,I n m σ->R m σ)->LoopR X m σ Q B R
inductive LoopD{C:Cx}{K:Type}[DecidableEq K](kk:KK C.prog C.w K)(X:V)(m:Loc)(σ:Sto)(Q:Fl->Loc->Sto->Prop)(B:V->(Fl->Loc->Sto->Prop)->Loc->Sto->Prop)(R:Loc->Sto->Prop):Prop
 |mk (a:Addr) (o:Obj) (kvs:List (K×V)) (I:Nat->Loc->Sto->Prop):X= .ref a->z0K C->(a,o,AO.dict (z00 kk kvs))∈σ->(kvs.map (·.1)).Nodup->I 0 m σ->(∀(i:Nat) (p:K×V),kvs[i]? =some p->∀m σ,I i m σ->∀QB:Fl->Loc->Sto->Prop,(∀m σ,(a,o,AO.dict (z00 kk kvs))∈σ->I (i+1) m σ->QB .next m σ)->(∀Z m σ,Q (.ret Z) m σ->QB (.ret Z) m σ)->B (kk.v p.1) QB m σ)->(∀m σ,I kvs.length m σ->R m σ)->LoopD kk X m σ Q B R
noncomputable abbrev WT:=List Ins->List (List Ins)->Loc->List V->Sto->Prop
noncomputable def stp(w:(Fl->Loc->Sto->Prop)->WT)(Q:Fl->Loc->Sto->Prop)(i:Ins)(c:List Ins)(r:List (List Ins))(m:Loc)(s:List V)(σ:Sto):Prop:=match i with
 | .loc i=>y32 m[i]? λX=>w Q c r m (X::s) σ
 | .len=>st1 s λX s=>y2L X (λxs=>cIf (Nat.ble xs.length 1000) (w Q c r m (.int (xs.length:Int)::s) σ) (Leaf (KW F.C F.d (.bi "len") [X] σ λY σ=>w Q c r m (Y::s) σ))) (KW F.C F.d (.bi "len") [X] σ λY σ=>w Q c r m (Y::s) σ)
 | .psh X=>w Q c r m (X::s) σ
 | .raw e=>Leaf (F.at (eval e F.env) m σ λX σ=>w Q c r m (X::s) σ)
 | .sub=>st2 s λX I s=>Leaf (SubR F.C F.d X I σ λY σ=>w Q c r m (Y::s) σ)
 | .subT k=>st1 s λX s=>cQ (y14 X k) σ (λY σ=>w Q c r m (Y::s) σ) (SubR F.C F.d X (.int (k:Int)) σ λY σ=>w Q c r m (Y::s) σ)
 | .binc o=>st2 s λX Y s=>cQ (y2J o X Y) σ (λZ σ=>w Q c r m (Z::s) σ) (AC2 F.C F.d (binaryOp o) X Y σ λZ σ=>w Q c r m (Z::s) σ)
 | .cmp o=>st2 s λX Y s=>Leaf (AC2 F.C F.d (compareOp o) X Y σ λZ σ=>w Q c r m (Z::s) σ)
 | .cmpc o=>st2 s λX Y s=>cQ (y0n o X Y) σ (λZ σ=>w Q c r m (Z::s) σ) (AC2 F.C F.d (compareOp o) X Y σ λZ σ=>w Q c r m (Z::s) σ)
 | .cm2 o e=>st2 s λX Y s=>cB (y0n o X Y) σ (λb σ=>cIf b (w Q e (c::r) m (Y::s) σ) (w Q c r m (.bool false::s) σ)) (AC2 F.C F.d (compareOp o) X Y σ λZ σ=>∃b,TR F.C F.d Z σ b/\(b=false->w Q c r m (Z::s) σ)/\(b=true->w Q e (c::r) m (Y::s) σ))
 | .una o=>st1 s λX s=>Leaf (AC1 F.C F.d (unaryOp o) X σ λZ σ=>w Q c r m (Z::s) σ)
 | .vop o e=>st1 s λX s=>tvW X (λb=>oI o b (w Q e (c::r) m s σ) (w Q c r m (X::s) σ)) (∃b,TR F.C F.d X σ b/\oI o b (w Q e (c::r) m s σ) (w Q c r m (X::s) σ))
 | .tup n=>stN n s [] λXs s=>w Q c r m (.tup Xs::s) σ
 | .lst n=>stN n s [] λXs s=>w Q c r m (.lst Xs::s) σ
 | .call G n=>stN n s [] λXs s=>Leaf (KW F.C F.d G Xs σ λY σ=>w Q c r m (Y::s) σ)
 | .isi t=>st1 s λX s=>cQ ((y2G X t).map .bool) σ (λY σ=>w Q c r m (Y::s) σ) (KW F.C F.d (.bi "isinstance") [X,.type t.n] σ λY σ=>w Q c r m (Y::s) σ)
 | .mty ty=>st1 s λX s=>Leaf (TyR F.C X σ ty/\w Q c r m (X::s) σ)
 | .meth G n=>stN n s [] λXs s=>st1 s λX s=>Leaf (KW F.C F.d G (X::Xs) σ λY σ=>w Q c r m (Y::s) σ)
 | .mI k nm=>st1 s λX s=>Leaf (z53 k nm X σ λx=>w Q c r m (.ref x::s) σ)
 | .slc=>st2 s λY Z s=>st1 s λX s=>w Q c r m (.slc X Y Z::s) σ
 | .tcmp o=>st2 s λX Y s=>Leaf (AC2 F.C F.d (compareOp o) X Y σ λZ σ=>TRX F.C F.d Z σ λb σ=>w Q c r m (.bool b::s) σ)
 | .tcmpc o=>st2 s λX Y s=>cB (y0n o X Y) σ (λb σ=>w Q c r m (.bool b::s) σ) (AC2 F.C F.d (compareOp o) X Y σ λZ σ=>TRX F.C F.d Z σ λb σ=>w Q c r m (.bool b::s) σ)
 | .tcm2 o e=>st2 s λX Y s=>cB (y0n o X Y) σ (λb σ=>cIf b (w Q e (c::r) m (Y::s) σ) (w Q c r m (.bool false::s) σ)) (AC2 F.C F.d (compareOp o) X Y σ λZ σ=>∃b,TR F.C F.d Z σ b/\(b=false->w Q c r m (.bool false::s) σ)/\(b=true->w Q e (c::r) m (Y::s) σ))
 | .tvalc=>st1 s λX s=>tvW X (λb=>w Q c r m (.bool b::s) σ) (TRX F.C F.d X σ λb σ=>w Q c r m (.bool b::s) σ)
 | .not=>stB s λb s=>w Q c r m (.bool (!b)::s) σ
 | .mop o e=>stB s λb s=>oI o b (w Q e (c::r) m s σ) (w Q c r m (boV o::s) σ)
 | .ife a b=>stB s λv s=>cIf v (w Q a (c::r) m s σ) (w Q b (c::r) m s σ)
 | .asg i=>st1 s λX s=>z1B m i X λm=>w Q c r m s σ
 | .asgL i=>∀a o,Fresh σ a->z1B m i (.ref a) λm=>w Q c r m s ((a,o,.list [])::σ)
 | .asgD i=>∀a o,Fresh σ a->z1B m i (.ref a) λm=>w Q c r m s ((a,o,.dict [])::σ)
 | .asg2 i j=>st1 s λX s=>y1j X λx y=>z1B m i x λm=>z1B m j y λm=>w Q c r m s σ
 | .asg3 i j l=>st1 s λX s=>y43 X λx y z=>z1B m i x λm=>z1B m j y λm=>z1B m l z λm=>w Q c r m s σ
 | .ret=>st1 s λX _=>Q (.ret X) m σ
 | .pop=>st1 s λ_ s=>w Q c r m s σ
 | .att k nm=>st1 s λX s=>Leaf (z9g k nm X σ λY=>w Q c r m (Y::s) σ)
 | .dic=>∀a o,Fresh σ a->w Q c r m (.ref a::s) ((a,o,.dict [])::σ)
 | .setI=>st2 s λO I s=>st1 s λX s=>Leaf (SetR F.C F.d O I X σ λσ=>w Q c r m s σ)
 | .drp=>Leaf (∃τ,τ.Sublist σ/\w Q c r m s τ)
 | .rawS t=>Leaf (AS F.C F.env F.vars F.gl F.own F.d (exec t F.env) m σ (z12 (λm σ=>w Q c r m s σ) Q))
 | .forR i b=>st1 s λX s=>Leaf (LoopR X m σ Q (λY QB m σ=>z1B m i Y λm=>w QB b [] m [] σ) λm σ=>w Q c r m s σ)
 | .forDS i b=>st1 s λX s=>Leaf (LoopD (KK.str F.C.prog F.C.w) X m σ Q (λY QB m σ=>z1B m i Y λm=>w QB b [] m [] σ) λm σ=>w Q c r m s σ)
 | .forDI i b=>st1 s λX s=>Leaf (LoopD (KK.int F.C.prog F.C.w) X m σ Q (λY QB m σ=>z1B m i Y λm=>w QB b [] m [] σ) λm σ=>w Q c r m s σ)
 | .forV i b=>st1 s λX s=>Leaf (LoopG List.reverse X m σ Q (λY QB m σ=>z1B m i Y λm=>w QB b [] m [] σ) λm σ=>w Q c r m s σ)
 | .forE i j b=>st1 s λX s=>Leaf (LoopG z3U X m σ Q (λY QB m σ=>y1j Y λy z=>z1B m i y λm=>z1B m j z λm=>w QB b [] m [] σ) λm σ=>w Q c r m s σ)
 | .forL i b=>st1 s λX s=>Leaf (LoopL X m σ Q (λY QB m σ=>z1B m i Y λm=>w QB b [] m [] σ) λm σ=>w Q c r m s σ)
 | .forL2 i j b=>st1 s λX s=>Leaf (LoopL X m σ Q (λY QB m σ=>y1j Y λy z=>z1B m i y λm=>z1B m j z λm=>w QB b [] m [] σ) λm σ=>w Q c r m s σ)
 | .cut a=>Leaf (∃I:Loc->Sto->Prop,(∀K:Fl->Loc->Sto->Prop,(∀m σ,I m σ->K .next m σ)->(∀f m σ,(f= .next->False)->Q f m σ->K f m σ)->w K a [] m s σ)/\∀m σ,I m σ->w Q c r m s σ)
noncomputable def W:Nat->(Fl->Loc->Sto->Prop)->WT
 |0,_,_,_,_,_,_=>False
 |n+1,Q,c,r,m,s,σ=>match c with
  |[]=>match r with
   |[]=>Q .next m σ
   |c::r=>W n Q c r m s σ
  |i::c=>stp F (W n) Q i c r m s σ
end
section
variable {C:Cx} {env:Env} {vars:List Str} {gl:List (Str×V)} {own:Bool} {d:Nat}
theorem AC2.mono{f:Value->Value->Sem Value}{x y:V}{σ:Sto}{Q Q':V->Sto->Prop}(h:AC2 C d f x y σ Q)(hQ:∀z σ',Q z σ'->Q' z σ'):AC2 C d f x y σ Q':=λA G D s v u hA R hv hu=>
 wpAny_mono (h A G D s v u hA R hv hu) (λ_ _ hp=>by obtain⟨z,D',σ',a,b,c,e⟩:=hp;exact⟨z,D',σ',a,b,c,hQ _ _ e⟩) λ_ _ e=>e
theorem AL.mono{t:Sem (List Value)}{m:Loc}{σ:Sto}{Q Q':List V->Sto->Prop}(h:AL C env vars gl own d t m σ Q)(hQ:∀xs σ',Q xs σ'->Q' xs σ'):AL C env vars gl own d t m σ Q':=λA G D s hA R=>
 wpAny_mono (h A G D s hA R) (λ_ _ hp=>by obtain⟨xs,D',σ',a,b,c,e⟩:=hp;exact⟨xs,D',σ',a,b,c,hQ _ _ e⟩) λ_ _ e=>e
theorem AB.mono{t:Sem Bool}{m:Loc}{σ:Sto}{P P':Bool->Sto->Prop}(h:AB C env vars gl own d t m σ P)(hP:∀b σ,P b σ->P' b σ):AB C env vars gl own d t m σ P':=
 λA G D s hA R=>h.run hA R λb s' D' σ' a c e=>⟨D',σ',a,c,hP _ _ e⟩
theorem y5r{x:Str}{X:V}:∀{vars:List Str} {m:Loc} {i:Nat},vars[i]? =some x->m[i]? =some (some X)->Lk vars m x X:=λ{vars}=>by
 induction vars with
 |nil=>intro m i h k;cases h
 |cons a vs ih=>
  intro m i h k
  cases m with
  |nil=>cases k
  |cons b m=>
   cases i with
   |zero=>cases Option.some.inj h;cases Option.some.inj k;exact .head
   |succ i=>exact .tail (ih h k)
theorem y23{x:Str}{X:V}:∀{vars:List Str} {m:Loc} {i:Nat},vars[i]? =some x->i<m.length->Put vars m x X (m.set i (some X)):=λ{vars}=>by
 induction vars with
 |nil=>intro m i h;cases h
 |cons a vs ih=>
  intro m i h w
  cases m with
  |nil=>cases w
  |cons b m=>
   cases i with
   |zero=>cases Option.some.inj h;exact .head
   |succ i=>exact .tail (ih h (Nat.lt_of_succ_lt_succ w))
set_option tactic.hygienic true in
theorem z1P{x:Str}{X:V}{vars:List Str}{m:Loc}{i:Nat}{k:Loc->Prop}(h:vars[i]? =some x)(w:z1B m i X k):∃m',Put vars m x X m'/\k m':=by
 unfold z1B at w
 split at w
 ·rename_i hb;exact⟨_,y23 h (Nat.blt_eq.mp hb),w⟩
 ·exact w.elim
theorem z1f{e:Expr}{rest:List Expr}(h:z3q e=true):starEach (e::rest) env=(false,eval e env)::starEach rest env:=by
 cases e<;>first|rfl|exact ff h
theorem z9D{o:Expr}{name:Str}(h:z8T o=true):attributeBase o name env (eval o env)=eval o env:=by
 cases o<;>first|rfl|exact ff h
theorem y3g{o:Expr}{name:Str}(h:y4t o=true):attributeBase o name env (eval o env)=eval o env:=
 Expr.Name.elim (motive_1:=λo=>attributeBase o name env (eval o env)=eval o env) o (Nat.eq_of_beq_eq_true h) λ_ _=>rfl
theorem y2T{o:Expr}(h:y4t o=true):∀u r,letTemporaryGo o u r=pure ():=
 Expr.Name.elim (motive_1:=λo=>∀u r,letTemporaryGo o u r=pure ()) o (Nat.eq_of_beq_eq_true h) λ_ _ _ _=>by with_unfolding_all exact rfl
theorem z4K{e:Expr}{t:Option Expr}{k:Nat}(h:z3t e=true):swapsWith e t k env=pure false:=by
 cases e<;>first|rfl|exact ff h
theorem z52{e:Expr}{ts:List Expr}{k:Nat}{p:Pos}(h:y1h e=true):swappedStores [.Tuple ts k p] e env=pure none:=by
 cases e<;>first|rfl|exact ff h
theorem y0c{e:Expr}(h:y0v e=true):∀whole,isTrue e env whole=(do let v <-whole;standAt e.pos;holding [v] (truthy v)):=by
 cases e<;>first|(intro;rfl)|exact ff h
theorem y2I{ty id:String}{name:Str}(h:bms.contains (ty,name,id)=true):MethIs ty name id:=by
 have h:=List.contains_iff_mem.mp h
 simp only[bms,List.mem_cons,Prod.mk.injEq,List.not_mem_nil,or_false] at h
 rcases h with⟨rfl,rfl,rfl⟩|⟨rfl,rfl,rfl⟩|⟨rfl,rfl,rfl⟩|⟨rfl,rfl,rfl⟩|⟨rfl,rfl,rfl⟩|⟨rfl,rfl,rfl⟩|⟨rfl,rfl,rfl⟩|⟨rfl,rfl,rfl⟩|⟨rfl,rfl,rfl⟩
 ·exact M_append
 ·exact M_lpop
 ·exact M_lclear
 ·exact M_get
 ·exact M_pop
 ·exact M_setdefault
 ·exact M_update
 ·exact M_clear
 ·exact M_join
theorem y35{X Y:V}(h:veq X Y=true):X=Y:=by
 unfold veq at h
 split at h<;>first|exact ff h|skip
 all_goals split at h<;>first|exact ff h|skip
 ·rw[eq_of_beq h]
 ·rw[eq_of_beq h]
 ·rw[Nat.eq_of_beq_eq_true h]
 ·rw[eq_of_beq h]
 ·rw[eq_of_beq h]
set_option tactic.hygienic true in
theorem z4P{x:Str}{X:V}{o:Option (Str×V)}(h:okG x X o=true):o=some (x,X):=by
 unfold okG at h
 split at h
 ·rename_i p
  rw[Bool.and_eq_true] at h
  rw[<-eq_of_beq h.1,<-y35 h.2]
 ·cases h
theorem z8l{id:String}{n:Str}{o:Option (Str×V)}(h:y4F id n o=true):o=some (n,.bi id):=z4P h
theorem z3P{id:String}{n:Str}{o:Option (Str×V)}(h:y2b id n o=true):o=some (n,.type id):=z4P h
theorem y25{fns:List Nat}(hf:∀a∈fns,z0g C (.ref a)){G:V}(h:isF fns G=true):z0g C G:=by
 unfold isF at h
 split at h
 ·exact trivial
 ·exact trivial
 ·exact hf _ (List.contains_iff_mem.mp h)
 ·cases h
theorem y1A{s:List V}{k:V->List V->Prop}(h:st1 s k):∃x l,s=x::l/\k x l:=by
 cases s with
 |nil=>exact h.elim
 |cons x l=>exact⟨x,l,rfl,h⟩
theorem nlE{s:List V}{k:Prop}(h:nlF s k):s=[]/\k:=by
 cases s with
 |nil=>exact⟨rfl,h⟩
 |cons x l=>exact h.elim
theorem tpE{X:V}{k:List V->Prop}(h:tpF X k):∃xs,X= .tup xs/\k xs:=by
 unfold tpF at h;split at h
 ·exact⟨_,rfl,h⟩
 ·exact h.elim
theorem z7Q{X:V}{k:V->V->Prop}(h:y1j X k):∃x y,X= .tup [x,y]/\k x y:=by
 obtain⟨xs,rfl,h⟩:=tpE h
 obtain⟨x,xs,rfl,h⟩:=y1A h
 obtain⟨y,xs,rfl,h⟩:=y1A h
 obtain⟨rfl,h⟩:=nlE h
 exact⟨x,y,rfl,h⟩
theorem y0p{X:V}{k:V->V->V->Prop}(h:y43 X k):∃x y z,X= .tup [x,y,z]/\k x y z:=by
 obtain⟨xs,rfl,h⟩:=tpE h
 obtain⟨x,xs,rfl,h⟩:=y1A h
 obtain⟨y,xs,rfl,h⟩:=y1A h
 obtain⟨z,xs,rfl,h⟩:=y1A h
 obtain⟨rfl,h⟩:=nlE h
 exact⟨x,y,z,rfl,h⟩
theorem z4V{ss:List Stmt}{R R':Loc->Sto->Prop}{Q:Fl->Loc->Sto->Prop}(h:∀m σ,R m σ->AS C env vars gl own d (execs ss env) m σ (z12 R' Q)):∀f m σ,z12 R Q f m σ->y4W C env vars gl own d ss (z12 R' Q) f m σ
 | .next,m,σ,q=>h m σ q
 | .brk,m,σ,q=>q
 | .cont,m,σ,q=>q
 | .ret _,m,σ,q=>q
theorem orE{a b:Bool}{P:Prop}(h:(a||b)=true)(f:a=true->P)(g:b=true->P):P:=by
 cases a with
 |true=>exact f rfl
 |false=>exact g h
theorem z4O{e:Expr}(h:z5q e=true):∀x,foldedSetIterable e env x=pure x:=
 let M:=λe:Expr=>∀x,foldedSetIterable e env x=pure x
 orE h (λh=>Expr.Name.elim (motive_1:=M) e (Nat.eq_of_beq_eq_true h) λ_ _ _=>by with_unfolding_all exact rfl) λh=>
 orE h (λh=>Expr.Subscript.elim (motive_1:=M) e (Nat.eq_of_beq_eq_true h) λ_ _ _ _=>by with_unfolding_all exact rfl) λh=>
 orE h (λh=>Expr.Call.elim (motive_1:=M) e (Nat.eq_of_beq_eq_true h) λ_ _ _ _ _=>by with_unfolding_all exact rfl) λh=>
 orE h (λh=>Expr.BinOp.elim (motive_1:=M) e (Nat.eq_of_beq_eq_true h) λ_ _ _ _ _=>by with_unfolding_all exact rfl) λh=>Expr.Attribute.elim (motive_1:=M) e (Nat.eq_of_beq_eq_true h) λ_ _ _ _=>by with_unfolding_all exact rfl
theorem z0b{a b:Bool}(h:(a&&b)=true):a=true/\b=true:=by rw[Bool.and_eq_true] at h;exact h
theorem z8m{e t:Expr}{k:Nat}(h:z3t e=true):swapsWithSole [t] e k env=pure false:=by
 show swapsWith e (some t) k env=pure false
 exact z4K h
theorem y1L{es:List Expr}{p:Pos}(h1:(backTo p (starEach es env)).any (·.1)=false)(hl:Nat.blt es.length 30=true):
  ((backTo p (starEach es env)).all (λx=> !x.1)&&(backToKw p (keywordEach [] env)).all (λx=>x.1.isSome)&&decide (es.length+([]:List Keyword).length+(if([]:List Keyword).isEmpty then 0 else 1)<30))=true:=by
 have h2:(backTo p (starEach es env)).all (λx=> !x.1)=true:=by rw[<-List.not_any_eq_all_not,h1];rfl
 rw[h2]
 exact decide_eq_true (Nat.blt_eq.mp hl)
end
section
variable {C:Cx} {d:Nat} {σ:Sto} {Q Q':V->Sto->Prop}
theorem AC1.mono{f:Value->Sem Value}{x:V}(h:AC1 C d f x σ Q)(hQ:∀z σ',Q z σ'->Q' z σ'):AC1 C d f x σ Q':=λA G D s v hA R hv=>
 wpAny_mono (h A G D s v hA R hv) (λ_ _ hp=>by obtain⟨z,D',σ',a,b,c,e⟩:=hp;exact⟨z,D',σ',a,b,c,hQ _ _ e⟩) λ_ _ e=>e
theorem SubR.mono{x i:V}(h:SubR C d x i σ Q)(hQ:∀z σ',Q z σ'->Q' z σ'):SubR C d x i σ Q':=λA G D s o v hA R ho hv=>by
 obtain⟨T,id,a,b,c⟩:=h A G D s o v hA R ho hv
 exact⟨T,id,a,b,wpAny_mono c (λ_ _ hp=>by obtain⟨z,D',σ',a,b,c,e⟩:=hp;exact⟨z,D',σ',a,b,c,hQ _ _ e⟩) λ_ _ e=>e⟩
theorem SetR.mono{x i v:V}{P P':Sto->Prop}(h:SetR C d x i v σ P)(hP:∀σ',P σ'->P' σ'):SetR C d x i v σ P':=λA G D s o k u hA R ho hk hu=>
 wpAny_mono (h A G D s o k u hA R ho hk hu) (λ_ _ hp=>by obtain⟨D',σ',a,b,e⟩:=hp;exact⟨D',σ',a,b,hP _ e⟩) λ_ _ e=>e
theorem y07{o:Option V}{L L':Prop}(w:cQ o σ Q L)(h:∀Z,o=some Z->Q Z σ->L')(k:L->L'):L':=by
 cases o with
 |none=>exact k w.out
 |some Z=>exact h Z rfl w
theorem y3e{o:Option V}{P:Bool->Sto->Prop}{L L':Prop}(w:cB o σ P L)(h:∀b,o=some (.bool b)->P b σ->L')(k:L->L'):L':=by
 unfold cB at w
 split at w
 ·exact h _ rfl w
 ·exact k w.out
theorem y2c{X:V}{k:Bool->Prop}{L L':Prop}(w:tvW X k L)(h:∀b,X= .bool b->k b->L')(g:L->L'):L':=by
 unfold tvW at w
 split at w
 ·exact h _ rfl w
 ·exact g w.out
theorem y4B{X:V}{k:List V->Prop}{L L':Prop}(w:y2L X k L)(h:∀xs,X= .tup xs->k xs->L')(g:L->L'):L':=by
 unfold y2L at w
 split at w
 ·exact h _ rfl w
 ·exact g w.out
theorem z5b{x:V}{xs:List V}{P:Sto->Prop}{k:List V->Prop}(h:Has σ x (.list xs) P)(hl:xs.length<=sizeLine)(q:Q (.int (xs.length:Int)) σ):y2L x k (KW C d (.bi "len") [x] σ Q):=by
 cases h with
 |lst=>exact⟨z2h (.lst _) hl q⟩
 |refL h=>exact⟨z2h (.refL h) hl q⟩
theorem z2F{n k:Nat}(h:n<=k)(hk:Nat.ble k 1000=true):Nat.ble n 1000=true:=Nat.ble_eq_true_of_le (Nat.le_trans h (Nat.le_of_ble_eq_true hk))
theorem y5f{s:List V}{k:V->List V->Prop}{X:V}(h:st1 (X::s) k):k X s:=h
theorem y2y{k:List V->List V->Prop}{s:List V}:∀{ys acc:List V},stN ys.length (ys++s) acc k->k (ys.reverse++acc) s:=λ{ys}=>by
 induction ys with
 |nil=>intro acc h;exact h
 |cons y ys ih=>
  intro acc h
  rw[List.reverse_cons,List.append_assoc]
  exact ih h
theorem z6s{k:List V->List V->Prop}{s xs:List V}{n:Nat}(hn:xs.length=n)(h:stN n (xs.reverse++s) [] k):k xs s:=by
 subst hn
 rw[<-List.length_reverse] at h
 have:=y2y h
 rwa [List.reverse_reverse,List.append_nil] at this
end
section
variable {F:Fx}
noncomputable def WE(F:Fx)(Q:Fl->Loc->Sto->Prop)(c:List Ins)(r:List (List Ins))(m:Loc)(s:List V)(σ:Sto):Prop:=∃n,W F n Q c r m s σ
variable {Q:Fl->Loc->Sto->Prop} {i:Ins} {c:List Ins} {r:List (List Ins)} {m:Loc} {s:List V} {σ:Sto}
theorem WE.step(h:WE F Q (i::c) r m s σ):∃n,stp F (W F n) Q i c r m s σ:=by
 obtain⟨n,h⟩:=h
 cases n with
 |zero=>exact h.elim
 |succ n=>exact⟨n,h⟩
theorem WE.end(h:WE F Q [] (c::r) m s σ):WE F Q c r m s σ:=by
 obtain⟨n,h⟩:=h
 cases n with
 |zero=>exact h.elim
 |succ n=>exact⟨n,h⟩
theorem WE.fin(h:WE F Q [] [] m s σ):Q .next m σ:=by
 obtain⟨n,h⟩:=h
 cases n with
 |zero=>exact h.elim
 |succ n=>exact h
noncomputable def PE(F:Fx)(D:Den):Prop:=∀Q c r m s σ,WE F Q (D.c c) r m s σ->F.at (eval D.ex F.env) m σ λX σ=>WE F Q c r m (X::s) σ
structure PL(F:Fx)(D:Den):Prop where
 l:∀p Q c r m s σ,WE F Q (D.c c) r m s σ->AL F.C F.env F.vars F.gl F.own F.d (spliced (backTo p (starEach D.exs F.env))) m σ λXs σ=>Xs.length=D.exs.length/\WE F Q c r m (Xs.reverse++s) σ
 v:D.exs≠[]->∀o p Q c r m s σ,WE F Q (D.cv o c) r m s σ->F.at (boolOp p o (evalEach D.exs F.env)) m σ λX σ=>WE F Q c r m (X::s) σ
 n:D.exs=[]->∀c,D.c c=c
 p:∀p,(backTo p (starEach D.exs F.env)).any (·.1)=false
 s:∀e r,D.exs=e::r->starEach (e::r) F.env=(false,eval e F.env)::starEach r F.env/\∀p,(backTo p (starEach r F.env)).any (·.1)=false
noncomputable def PB(F:Fx)(D:Den):Prop:=∀Q c r m s σ,WE F Q (D.c c) r m s σ->AB F.C F.env F.vars F.gl F.own F.d (isTrue D.ex F.env (eval D.ex F.env)) m σ λb σ=>WE F Q c r m (.bool b::s) σ
noncomputable def PM(F:Fx)(D:Den):Prop:=∀o Q c r m s σ,WE F Q (D.cv o c) r m s σ->AB F.C F.env F.vars F.gl F.own F.d (allTrue o D.exs F.env) m σ λb σ=>WE F Q c r m (.bool b::s) σ
noncomputable def P1(F:Fx)(D:Den):Prop:=F.own=true->∀Q c r m s σ,WE F Q (D.c c) r m s σ->AS F.C F.env F.vars F.gl F.own F.d (exec D.st F.env) m σ (z12 (λm σ=>WE F Q c r m s σ) Q)
noncomputable def PS(F:Fx)(D:Den):Prop:=F.own=true->∀Q c r m s σ,WE F Q (D.c c) r m s σ->AS F.C F.env F.vars F.gl F.own F.d (execs D.sts F.env) m σ (z12 (λm σ=>WE F Q c r m s σ) Q)
noncomputable def z3r(F:Fx)(D:Den):Prop:=match D.k with
 | .e=>D.ok F=true->PE F D
 | .o=>∀c,D.c c= .psh .none::c
 | .l=>D.ok F=true->PL F D
 | .b=>D.ok F=true->PB F D
 | .m=>D.ok F=true->PM F D
 | .s=>D.ok F=true->P1 F D
 | .r=>D.ok F=true->PS F D
theorem gE{D:Den}(h:z3r F D)(k:okE F D=true):PE F D:=by
 unfold okE at k;unfold z3r at h;cases e:D.k<;>rw[e] at k h<;>first|exact h k|exact ff k
theorem gL{D:Den}(h:z3r F D)(k:okL F D=true):PL F D:=by
 unfold okL at k;unfold z3r at h;cases e:D.k<;>rw[e] at k h<;>first|exact h k|exact ff k
theorem gB{D:Den}(h:z3r F D)(k:okB F D=true):PB F D:=by
 unfold okB at k;unfold z3r at h;cases e:D.k<;>rw[e] at k h<;>first|exact h k|exact ff k
theorem gM{D:Den}(h:z3r F D)(k:okM F D=true):PM F D:=by
 unfold okM at k;unfold z3r at h;cases e:D.k<;>rw[e] at k h<;>first|exact h k|exact ff k
theorem g1{D:Den}(h:z3r F D)(k:ok1 F D=true):P1 F D:=by
 unfold ok1 at k;unfold z3r at h;cases e:D.k<;>rw[e] at k h<;>first|exact h k|exact ff k
theorem gS{D:Den}(h:z3r F D)(k:okS F D=true):PS F D:=by
 unfold okS at k;unfold z3r at h;cases e:D.k<;>rw[e] at k h<;>first|exact h k|exact ff k
theorem gO{D:Den}(h:z3r F D)(k:okO F D=true){Q':V->Sto->Prop}(w:WE F Q (D.c c) r m s σ)(hQ:∀X σ,WE F Q c r m (X::s) σ->Q' X σ):APart F.C F.env F.vars F.gl F.own F.d (exo D) m σ Q':=by
 unfold okO at k;unfold z3r at h;unfold exo
 cases e:D.k<;>rw[e] at k h<;>first|exact ff k|skip
 ·exact z1X ((h k _ _ _ _ _ _ w).mono hQ)
 ·rw[h] at w
  obtain⟨n,w⟩:=w.step
  exact z13 (hQ _ _ ⟨n,w⟩)
theorem z7l{R R':Loc->Sto->Prop}(h:∀m σ,R m σ->R' m σ):∀f m σ,z12 R Q f m σ->z12 R' Q f m σ
 | .next,m,σ,q=>h m σ q
 | .brk,m,σ,q=>q
 | .cont,m,σ,q=>q
 | .ret _,m,σ,q=>q
theorem z9H{b:Bool}{x y:Prop}(w:oI .And b x y):(b=true->x)/\(b=false->y):=z4u w
theorem z93{b:Bool}{x y:Prop}(w:oI .Or b x y):(b=true->y)/\(b=false->x):=z4u w
theorem z2o{a b:Den}{i:Ins}{P:V->V->Sto->Prop}(ha:PE F a)(hb:PE F b)(w:WE F Q (a.c (b.c (i::c))) r m s σ)(h:∀n X Y σ,stp F (W F n) Q i c r m (Y::X::s) σ->P X Y σ):F.at (eval a.ex F.env) m σ λX σ=>F.at (eval b.ex F.env) m σ λY σ=>P X Y σ:=
 (ha _ _ _ _ _ _ w).mono λX σ₁ w=>(hb _ _ _ _ _ _ w).mono λY σ₂ w=>by obtain⟨n,w⟩:=w.step;exact h n X Y σ₂ w
theorem z7e{C:Cx}{env:Env}{vars:List Str}{gl:List (Str×V)}{own:Bool}{d:Nat}{tgt:Expr}{body:List Stmt}{P:Sto->Prop}{QS:Fl->Loc->Sto->Prop}(I:Nat->Loc->Sto->Prop)(ys:List V)(m:Loc)(σ:Sto)
  (h:∀(i:Nat) X,ys[i]? =some X->∀m σ,I i m σ->∀QB:Fl->Loc->Sto->Prop,(∀m σ,P σ->I (i+1) m σ->QB .next m σ)->(∀Y m σ,QS (.ret Y) m σ->QB (.ret Y) m σ)->AA C env vars gl own d (assign tgt env) X m σ λm₁ σ₁=>AS C env vars gl own d (execs body env) m₁ σ₁ QB)
  (hq:∀m σ,I ys.length m σ->QS .next m σ) (h0:I 0 m σ):z5x C env vars gl own d tgt body P QS ys m σ:=
 z6z I ys 0 m σ (λi X hX m σ hm=>by
  rw[Nat.zero_add] at hm⊢
  exact h i X hX m σ hm _ (λm σ hP hI=>z60 hP hI) λY m σ q=>y2f q) (λm σ hm=>hq m σ (by rw[Nat.zero_add] at hm;exact hm)) h0
theorem z62{D:Den}{n:Nat}(h:∀Q c r m s σ,WE F Q (D.c c) r m s σ->AS F.C F.env F.vars F.gl F.own F.d (execs D.sts F.env) m σ (z12 (λm σ=>WE F Q c r m s σ) Q))(w:W F n Q (D.c []) [] m [] σ):AS F.C F.env F.vars F.gl F.own F.d (execs D.sts F.env) m σ Q:=
 AS.mono (h Q [] [] m [] σ ⟨n,w⟩) λf m σ q=>by
  cases f with
  |next=>exact WE.fin q
  |brk=>exact q
  |cont=>exact q
  |ret x=>exact q
theorem z89{K:Type}[DecidableEq K](kk:KK F.C.prog F.C.w K){D:Den}{iter:Expr}{y:Str}{q2 p:Pos}{i:Nat}(ho:F.own=true)(hs:∀x,foldedSetIterable iter F.env x=pure x)(hb:∀Q c r m s σ,WE F Q (D.c c) r m s σ->AS F.C F.env F.vars F.gl F.own F.d (execs D.sts F.env) m σ (z12 (λm σ=>WE F Q c r m s σ) Q))(hi:F.vars[i]? =some y)
  (h:F.at (eval iter F.env) m σ λX σ=>∃n,LoopD kk X m σ Q (λY QB m σ=>z1B m i Y λm=>W F n QB (D.c []) [] m [] σ) λm σ=>W F n Q c r m s σ):AS F.C F.env F.vars F.gl F.own F.d (exec (.For (.Name y q2) iter D.sts [] p) F.env) m σ (z12 (λm σ=>WE F Q c r m s σ) Q):=by
 by_cases hsys:z0K F.C
 ·refine z4o (z9c kk hsys (h.mono λX σ₁ w=> ?_)) hs
  obtain⟨n,a,o,kvs,I,rfl,_,hm,hn,h0,hb1,he⟩:=w
  refine⟨a,o,kvs,rfl,hm,hn,z7e I _ _ _ (λj Y hY m σ hI QB hQB hQR=> ?_) (λm σ hI=>⟨n,he m σ (by rw[List.length_map] at hI;exact hI)⟩) h0⟩
  rw[List.getElem?_map] at hY
  obtain⟨p,hp,rfl⟩:=Option.map_eq_some_iff.mp hY
  obtain⟨m',p',w⟩:=z1P (k:=λm=>W F n QB (D.c []) [] m [] σ) hi (hb1 j p hp m σ hI QB hQB hQR)
  exact z0w p' (z62 hb w) (.inl ho)
 ·refine z4o (λA G D' st hA R=>h.run hA R λv s₁ X D₁ σ₁ dx b c w=> ?_) hs
  obtain⟨n,a,o,kvs,I,_,hs2,_⟩:=w
  exact absurd hs2 hsys
theorem y5H{D:Den}(gl:PL F D){G X:V}{p:Pos}(w:WE F Q (D.c (.meth G D.exs.length::c)) r m (X::s) σ):AL F.C F.env F.vars F.gl F.own F.d (spliced (backTo p (starEach D.exs F.env))) m σ λXs σ=>KW F.C F.d G (X::Xs) σ λY σ=>WE F Q c r m (Y::s) σ:=
 AL.mono (gl.l p _ _ _ _ _ _ w) λXs σ q=>by
  obtain⟨n,w⟩:=q.2.step
  exact KW.mono (Leaf.out (y5f (z6s (k:=λXs s=>st1 s λX s=>Leaf (KW F.C F.d G (X::Xs) σ λY σ=>W F n Q c r m (Y::s) σ)) q.1 w))) λY σ w=>⟨n,w⟩
theorem y3w{D:Den}(gl:PL F D){G X:V}(e:D.exs=[])(w:WE F Q (D.c (.meth G D.exs.length::c)) r m (X::s) σ):KW F.C F.d G [X] σ λY σ=>WE F Q c r m (Y::s) σ:=by
 rw[gl.n e,e] at w
 obtain⟨n,w⟩:=w.step
 exact KW.mono (Leaf.out w) λY σ w=>⟨n,w⟩
theorem y0t{D:Den}(gl:PL F D){ty id:String}{o:Expr}{nm:Str}{q p:Pos}{Z:V->Sto->Prop}{P:V->Sto->Prop}(hM:MethIs ty nm id)(w:F.at (eval o F.env) m σ λX σ=>TyR F.C X σ ty/\Z X σ)(hl:∀X σ,Z X σ->AL F.C F.env F.vars F.gl F.own F.d (spliced (backTo p (starEach D.exs F.env))) m σ λXs σ=>KW F.C F.d (.bi id) (X::Xs) σ P)(hn:D.exs=[]->∀X σ,Z X σ->KW F.C F.d (.bi id) [X] σ P)(hb:attributeBase o nm F.env (eval o F.env)=eval o F.env)(h5:(q.endLine==p.line)=true)(h6:Nat.blt D.exs.length 30=true):F.at (eval (.Call (.Attribute o nm q) D.exs [] p) F.env) m σ P:=by
 have hs:=gl.s
 have hp:=gl.p p
 clear gl
 generalize D.exs=es at*
 cases es with
 |nil=>exact y00 hM (w.mono λX σ₁ w=>⟨w.1,hn rfl X σ₁ w.2⟩) hb h5
 |cons e es=>exact z6S hM (w.mono λX σ₁ w=>⟨w.1,hl X σ₁ w.2⟩) hb h5 (hs _ _ rfl).1 ((hs _ _ rfl).2 _) (y1L hp h6)
theorem y1q{D:Den}(gl:PL F D){K:W.Frag}{c f:Addr}{o:Expr}{nm:Str}{q p:Pos}{Z:V->Sto->Prop}{P:V->Sto->Prop}(hM:MethAt F.C K c nm f)(w:F.at (eval o F.env) m σ λX σ=>z53 c nm X σ λx=>Z (.ref x) σ)(hl:∀X σ,Z X σ->AL F.C F.env F.vars F.gl F.own F.d (spliced (backTo p (starEach D.exs F.env))) m σ λXs σ=>KW F.C F.d (.ref f) (X::Xs) σ P)(hn:D.exs=[]->∀X σ,Z X σ->KW F.C F.d (.ref f) [X] σ P)(hb:attributeBase o nm F.env (eval o F.env)=eval o F.env)(h5:(q.endLine==p.line)=true)(h6:Nat.blt D.exs.length 30=true):F.at (eval (.Call (.Attribute o nm q) D.exs [] p) F.env) m σ P:=by
 have hs:=gl.s
 have hp:=gl.p p
 clear gl
 generalize D.exs=es at*
 cases es with
 |nil=>exact z9K hM (w.mono λX σ₁ w=>by obtain⟨x,dx,fs,e1,e2,e3,w⟩:=w;exact⟨x,dx,fs,e1,e2,e3,hn rfl _ _ w⟩) hb h5
 |cons e es=>exact y1a hM (w.mono λX σ₁ w=>by obtain⟨x,dx,fs,e1,e2,e3,w⟩:=w;exact⟨x,dx,fs,e1,e2,e3,hl _ _ w⟩) hb h5 (hs _ _ rfl).1 ((hs _ _ rfl).2 _) (y1L hp h6)
theorem y0L{D:Den}{n i:Nat}{y:Str}{p:Pos}{Y:V}(hi:(F.vars[i]? ==some y)=true)(hb:PS F D)(ho:F.own=true)(w:z1B m i Y λm=>W F n Q (D.c []) [] m [] σ):AA F.C F.env F.vars F.gl F.own F.d (assign (.Name y p) F.env) Y m σ λm σ=>AS F.C F.env F.vars F.gl F.own F.d (execs D.sts F.env) m σ Q:=by
 obtain⟨m',p',w⟩:=z1P (k:=λm=>W F n Q (D.c []) [] m [] σ) (eq_of_beq hi) w
 exact z0w p' (z62 (hb ho) w) (.inl ho)
theorem y3I{D:Den}{n i j k:Nat}{y z:Str}{p q u:Pos}{Y:V}(hi:(F.vars[i]? ==some y)=true)(hj:(F.vars[j]? ==some z)=true)(hb:PS F D)(ho:F.own=true)(w:y1j Y λy z=>z1B m i y λm=>z1B m j z λm=>W F n Q (D.c []) [] m [] σ):AA F.C F.env F.vars F.gl F.own F.d (assign (.Tuple [.Name y p,.Name z q] k u) F.env) Y m σ λm σ=>AS F.C F.env F.vars F.gl F.own F.d (execs D.sts F.env) m σ Q:=by
 obtain⟨A,B,rfl,w1⟩:=z7Q w
 obtain⟨m1,p1,w⟩:=z1P (eq_of_beq hi) w1
 exact y0i (z0w p1 (y0L hj hb ho w) (.inl ho)) rfl rfl
theorem z8d{tgt:Expr}{body:List Stmt}{n:Nat}{X:V}{B:V->(Fl->Loc->Sto->Prop)->Loc->Sto->Prop}(w:LoopL X m σ Q B λm σ=>W F n Q c r m s σ)(h:∀Y QB m σ,B Y QB m σ->AA F.C F.env F.vars F.gl F.own F.d (assign tgt F.env) Y m σ λm σ=>AS F.C F.env F.vars F.gl F.own F.d (execs body F.env) m σ QB):∃xs P,Has σ X (.list xs) P/\z5x F.C F.env F.vars F.gl F.own F.d tgt body P (z12 (λm σ=>WE F Q c r m s σ) Q) xs m σ:=by
 obtain⟨xs,P,I,hH,h0,hb,he⟩:=w
 exact⟨xs,P,hH,z7e I _ _ _ (λj Y hY m σ hI QB hQB hQR=>h _ _ _ _ (hb j Y hY m σ hI QB hQB hQR)) (λm σ hI=>⟨n,he m σ hI⟩) h0⟩
theorem z7F{g:List V->List V}{tgt:Expr}{body:List Stmt}{n:Nat}{X:V}{B:V->(Fl->Loc->Sto->Prop)->Loc->Sto->Prop}(w:LoopG g X m σ Q B λm σ=>W F n Q c r m s σ)(h:∀Y QB m σ,B Y QB m σ->AA F.C F.env F.vars F.gl F.own F.d (assign tgt F.env) Y m σ λm σ=>AS F.C F.env F.vars F.gl F.own F.d (execs body F.env) m σ QB):∃Y xs P,[X]=[Y]/\Has σ Y (.list xs) P/\z5x F.C F.env F.vars F.gl F.own F.d tgt body P (z12 (λm σ=>WE F Q c r m s σ) Q) (g xs) m σ:=by
 obtain⟨xs,P,I,hH,h0,hb,he⟩:=w
 exact⟨X,xs,P,rfl,hH,z7e I _ _ _ (λj Y hY m σ hI QB hQB hQR=>h _ _ _ _ (hb j Y hY m σ hI QB hQB hQR)) (λm σ hI=>⟨n,he m σ hI⟩) h0⟩
set_option tactic.hygienic true in
theorem good(hf:∀a∈F.fns,z0g F.C (.ref a))(hm:(∀q∈F.ml,∃K,MethAt F.C K q.1 q.2.1 q.2.2)/\∀q∈F.al,∃K,AttrAt F.C K q.1 q.2)(t:T):z3r F (den t):=by
 induction t with
 |loc i x p=>
  refineλ(h:(F.vars[i]? ==some x)=true) Q c r m s σ w=> ?_
  obtain⟨n,w⟩:=WE.step w
  have w:y32 m[i]? λX=>W F n Q c r m (X::s) σ:=w
  unfold y32 at w
  split at w
  ·rename_i X hX;exact z78 (y5r (eq_of_beq h) hX) ⟨n,w⟩
  ·exact w.elim
 |glb i X x p=>exactλh Q c r m s σ w=>by obtain⟨n,w⟩:=WE.step w;exact z1J (List.mem_of_getElem? (z4P h)) ⟨n,w⟩
 |con k e p=>
  refineλh Q c r m s σ w=> ?_
  obtain⟨n,w⟩:=WE.step w
  cases k<;>first|exact ff h|skip
  all_goals first|exact z0O ⟨n,w⟩|exact y2d ⟨n,w⟩|exact z9n ⟨n,w⟩|exact z6Q ⟨n,w⟩
 |raw e=>exactλ_ Q c r m s σ w=>by obtain⟨n,w⟩:=WE.step w;exact AT.mono (Leaf.out w) λX σ w=>⟨n,w⟩
 |no=>exactλc=>rfl
 |sub a b p ha hb=>exactλh Q c r m s σ w=>z1i (z2o (gE ha (z0b h).1) (gE hb (z0b h).2) w λn X Y σ w=>SubR.mono (Leaf.out w) λZ σ w=>⟨n,w⟩)
 |subT a k u q p ha=>
  refineλh Q c r m s σ w=>z1i ((gE ha (z0b h).1 _ _ _ _ _ _ w).mono λX σ₁ w=>z0O ?_)
  obtain⟨n,w⟩:=w.step
  exact y07 (Q:=λY σ=>W F n Q c r m (Y::s) σ) w (λZ e q=>y1C e (z0b h).2 ⟨n,q⟩) λw=>SubR.mono w λZ σ w=>⟨n,w⟩
 |binc o a b p ha hb=>exactλh Q c r m s σ w=>z1L (z2o (gE ha (z0b h).1) (gE hb (z0b h).2) w λn X Y σ w=>y07 (Q:=λY σ=>W F n Q c r m (Y::s) σ) w (λZ e q=>y2u e ⟨n,q⟩) λw=>AC2.mono w λZ σ w=>⟨n,w⟩)
 |cmp o a b p ha hb=>exactλh Q c r m s σ w=>z6o (z2o (gE ha (z0b h).1) (gE hb (z0b (z0b h).2).1) w λn X Y σ w=>AC2.mono (Leaf.out w) λZ σ w=>⟨n,w⟩) (Bool.not_eq_true' _▸(z0b (z0b h).2).2)
 |cmpc o a b p ha hb=>exactλh Q c r m s σ w=>z6o (z2o (gE ha (z0b h).1) (gE hb (z0b (z0b h).2).1) w λn X Y σ w=>y07 (Q:=λY σ=>W F n Q c r m (Y::s) σ) w (λZ e q=>z26 e ⟨n,q⟩) λw=>AC2.mono w λZ σ w=>⟨n,w⟩) (Bool.not_eq_true' _▸(z0b (z0b h).2).2)
 |cmp2 o o2 a b e p ha hb he=>
  refineλh Q c r m s σ w=>y29 (z2o (gE ha (z0b h).1) (gE hb (z0b (z0b h).2).1) w λn X Y σ w=> ?_) (Bool.not_eq_true' _▸(z0b (z0b (z0b h).2).2).2)
  have key:∀n σ,W F n Q ((den e).c [.cmpc o2]) (c::r) m (Y::s) σ->F.at (eval (den e).ex F.env) m σ λW' σ₄=>AC2 F.C F.d (compareOp o2) Y W' σ₄ λX σ=>WE F Q c r m (X::s) σ:=λn σ w=>(gE he (z0b (z0b (z0b h).2).2).1 _ _ _ _ _ _ ⟨n,w⟩).mono λW' σ₄ w=>by
   obtain⟨n,w⟩:=WE.step w
   exact y07 (Q:=λY σ=>W F n Q [] (c::r) m (Y::s) σ) w (λZ e q=>z26 e (WE.end ⟨n,q⟩)) λw=>AC2.mono w λZ σ w=>WE.end ⟨n,w⟩
  refine y3e (P:=λb σ=>cIf b (W F n Q ((den e).c [.cmpc o2]) (c::r) m (Y::s) σ) (W F n Q c r m (.bool false::s) σ)) w (λb e q=>z26 e ⟨b,z1N,λhb=> ?_,λhb=>key n σ ((z4u q).1 hb)⟩) λw=>AC2.mono w λZ σ w=> ?_
  ·subst hb;exact⟨n,(z4u q).2 rfl⟩
  ·obtain⟨v,t1,t2,t3⟩:=w
   exact⟨v,t1,λe=>⟨n,t2 e⟩,λe=>key n σ (t3 e)⟩
 |una o a p ha=>exactλh Q c r m s σ w=>z7N ((gE ha h _ _ _ _ _ _ w).mono λX σ₁ w=>by obtain⟨n,w⟩:=w.step;exact AC1.mono (Leaf.out w) λZ σ w=>⟨n,w⟩)
 |vbo o as p has=>exactλh Q c r m s σ w=>z97 ((gL has (z0b h).1).v (λe=>by have:=(z0b h).2;rw[e] at this;cases this) _ _ _ _ _ _ _ _ w)
 |tup as k p has=>
  refineλh Q c r m s σ w=>z2V (AL.mono ((gL has (z0b h).1).l _ _ _ _ _ _ _ w) λXs σ₁ q=>⟨z0t (q.1▸Nat.le_trans (Nat.le_of_ble_eq_true (z0b h).2) (by decide)),?_⟩)
  obtain⟨n,w⟩:=q.2.step
  exact⟨n,z6s q.1 w⟩
 |lst as p has=>
  refineλh Q c r m s σ w=>z3C (AL.mono ((gL has (z0b h).1).l _ _ _ _ _ _ _ w) λXs σ₁ q=>⟨z0t (q.1▸Nat.le_trans (Nat.le_of_ble_eq_true (z0b h).2) (by decide)),?_⟩)
  obtain⟨n,w⟩:=q.2.step
  exact⟨n,z6s q.1 w⟩
 |call f G x q as p has=>
  refineλh Q c r m s σ w=> ?_
  have hF:=List.mem_of_getElem? (z4P (z0b (z0b h).1).1)
  have hc:=y25 hf (z0b (z0b h).1).2
  have gl:=gL has (z0b h).2
  have w:WE F Q ((den as).c (.call G (den as).exs.length::c)) r m s σ:=w
  show F.at (eval (.Call (.Name x q) (den as).exs [] p) F.env) m σ _
  have hl:=AL.mono (gl.l p _ _ _ _ _ _ w) λXs σ q=>by
   obtain⟨n,w⟩:=q.2.step
   exact KW.mono (Leaf.out (z6s (k:=λXs s=>Leaf (KW F.C F.d G Xs σ λY σ=>W F n Q c r m (Y::s) σ)) q.1 w)) λY σ w=>(⟨n,w⟩:WE F Q c r m (Y::s) σ)
  have hn:=λe=>(gl.n e (.call G (den as).exs.length::c)▸w:WE F Q (.call G (den as).exs.length::c) r m s σ)
  have hs:=gl.s
  generalize (den as).exs=es at hl hn hs
  cases es with
  |nil=>exact y0C (z1J hF ⟨hc,by obtain⟨n,w⟩:=(hn rfl).step;exact KW.mono (Leaf.out w) λY σ w=>⟨n,w⟩⟩)
  |cons e es=>exact z0H (z1J hF ⟨hc,hl⟩) (hs _ _ rfl).1 ((hs _ _ rfl).2 _)
 |len f x q a p ha=>
  refineλh Q c r m s σ w=>z0H (z1J (List.mem_of_getElem? (z8l (z0b (z0b h).2).2)) ⟨z2f,z0q ((gE ha (z0b h).1 _ _ _ _ _ _ w).mono λX σ₁ w=>z0v ?_) (z1f (z0b (z0b h).2).1)⟩) (z1f (z0b (z0b h).2).1) rfl
  obtain⟨n,w⟩:=w.step
  refine y4B (X:=X) w (λxs e w2=> ?_) λw=>KW.mono w λZ σ w=>⟨n,w⟩
  have w2:=z4u w2
  cases hb:Nat.ble xs.length 1000 with
  |true=>subst e;exact z6D (Nat.le_trans (Nat.le_of_ble_eq_true hb) (by decide)) ⟨n,w2.1 hb⟩
  |false=>exact KW.mono (w2.2 hb).out λZ σ w=>⟨n,w⟩
 |isi f g t x y q r' a p ha=>
  refineλh Q c r m s σ w=>z0H (z1J (List.mem_of_getElem? (z8l (z0b (z0b (z0b h).2).2).1)) ⟨z2f,z0q ((gE ha (z0b h).1 _ _ _ _ _ _ w).mono λX σ₁ w=>z0q (z1J (List.mem_of_getElem? (z3P (z0b (z0b (z0b h).2).2).2)) (z0v ?_)) rfl) (z1f (z0b (z0b h).2).1)⟩) (z1f (z0b (z0b h).2).1) rfl
  obtain⟨n,w⟩:=w.step
  refine y07 (Q:=λY σ=>W F n Q c r m (Y::s) σ) w (λZ e q=> ?_) λw=>KW.mono w λZ σ w=>⟨n,w⟩
  obtain⟨b,e1,rfl⟩:=Option.map_eq_some_iff.mp e
  exact z3z e1 ⟨n,q⟩
 |meth ty id a nm q as p ha has=>
  refineλh Q c r m s σ w=> ?_
  have h0:=z0b h
  have h1:=z0b h0.1
  have h3:=z0b h0.2
  have h5:=z0b (z0b h3.1).2
  have gl:=gL has h1.2
  refine y0t gl (y2I h3.2) ((gE ha h1.1 _ _ _ _ _ _ w).mono λX σ w=> ?_) (λX σ w=>y5H gl w) (λe X σ w=>y3w gl e w) (z9D (z0b h3.1).1) h5.1 h5.2
  obtain⟨n,w⟩:=w.step
  exact⟨(Leaf.out w).1,n,(Leaf.out w).2⟩
 |methI c' f a nm q as p ha has=>
  refineλh Q c r m s σ w=> ?_
  have h0:=z0b h
  have h1:=z0b h0.1
  have h3:=z0b h0.2
  have h5:=z0b (z0b h3.1).2
  obtain⟨K,hK⟩:=hm.1 _ (List.contains_iff_mem.mp h3.2)
  have gl:=gL has h1.2
  refine y1q gl hK ((gE ha h1.1 _ _ _ _ _ _ w).mono λX σ w=> ?_) (λX σ w=>y5H gl w) (λe X σ w=>y3w gl e w) (z9D (z0b h3.1).1) h5.1 h5.2
  obtain⟨n,w⟩:=w.step
  obtain⟨x,dx,fs,e1,e2,e3,w⟩:=Leaf.out w
  exact⟨x,dx,fs,e1,e2,e3,n,w⟩
 |slc a b e p ha hb he=>exactλh Q c r m s σ w=>z2z (gO ha (z0b h).1 w λX σ₁ w=>gO hb (z0b (z0b h).2).1 w λY σ₂ w=>gO he (z0b (z0b h).2).2 w λZ σ₃ w=>by obtain⟨n,w⟩:=w.step;exact⟨n,w⟩)
 |att k a nm p ha=>
  refineλh Q c r m s σ w=> ?_
  have h1:=z0b h
  have h2:=z0b h1.2
  obtain⟨K,hK⟩:=hm.2 _ (List.contains_iff_mem.mp h2.2)
  refine y08 hK ((gE ha h1.1 _ _ _ _ _ _ w).mono λX σ₁ w=> ?_) (y3g h2.1) (y2T h2.1)
  obtain⟨n,w⟩:=w.step
  obtain⟨x,dx,fs,Z,e1,e2,e3,e4,w⟩:=Leaf.out w
  exact⟨x,dx,fs,Z,e1,e2,e3,e4,n,w⟩
 |dic p=>exactλ_ Q c r m s σ w=>by obtain⟨n,w⟩:=WE.step w;exact z2J λa o hf=>⟨n,w a o hf⟩
 |nil=>exactλ_=>⟨λp Q c r m s σ w=>z0v ⟨rfl,w⟩,λh=>absurd rfl h,(λ_ c=>rfl),(λp=>rfl),λe r h=>nomatch h⟩
 |cons a as ha has=>
  refineλh=> ?_
  have he:=gE ha (z0b h).1
  obtain⟨hns,hk⟩:=z0b (z0b h).2
  have gl:=gL has hk
  refine⟨λp Q c r m s σ w=>z0q ((he _ _ _ _ _ _ w).mono λX σ₁ w=>AL.mono (gl.l p _ _ _ _ _ _ w) λXs σ₂ q=>⟨congrArg Nat.succ q.1,by rw[List.reverse_cons,List.append_assoc];exact q.2⟩) (z1f hns),λ_ o p Q c r m s σ w=> ?_,(λe=>nomatch e),(λp=> ?_),λe r h=> ?_⟩
  ·show F.at (boolOp p o (evalEach ((den a).ex::(den as).exs) F.env)) m σ _
   have w:WE F Q (match(den as).exs with
    |[]=>(den a).c c
    |_::_=>(den a).c (.vop o ((den as).cv o [])::c)) r m s σ:=w
   have gv:=gl.v
   generalize (den as).exs=es at w gv
   cases es with
   |nil=>cases o with
    |And=>exact y1e (he _ _ _ _ _ _ w)
    |Or=>exact y2P (he _ _ _ _ _ _ w)
   |cons y l=>
    have gv:=gv (λe=>nomatch e)
    have key:∀n σ,W F n Q ((den as).cv o []) (c::r) m s σ->F.at (boolOp p o (evalEach (y::l) F.env)) m σ λX σ=>WE F Q c r m (X::s) σ:=λn σ w=>(gv _ _ _ _ _ _ _ _ ⟨n,w⟩).mono λX σ w=>w.end
    have w:=he _ _ _ _ _ _ w
    cases o with
    |And=>
     refine y2E (w.mono λX σ₁ w=> ?_)
     obtain⟨n,w⟩:=w.step
     refine y2c w (λb e w=> ?_) λw=> ?_
     ·subst e;exact⟨b,z1N,λe=>key n _ ((z9H w).1 e),λe=>⟨n,(z9H w).2 e⟩⟩
     ·obtain⟨b,t1,w⟩:=w
      exact⟨b,t1,λe=>key n _ ((z9H w).1 e),λe=>⟨n,(z9H w).2 e⟩⟩
    |Or=>
     refine y4M (w.mono λX σ₁ w=> ?_)
     obtain⟨n,w⟩:=w.step
     refine y2c w (λb e w=> ?_) λw=> ?_
     ·subst e;exact⟨b,z1N,λe=>⟨n,(z93 w).1 e⟩,λe=>key n _ ((z93 w).2 e)⟩
     ·obtain⟨b,t1,w⟩:=w
      exact⟨b,t1,λe=>⟨n,(z93 w).1 e⟩,λe=>key n _ ((z93 w).2 e)⟩
  ·show(backTo p (starEach ((den a).ex::(den as).exs) F.env)).any (·.1)=false
   rw[z1f hns]
   exact gl.p p
  ·cases h
   exact⟨z1f hns,gl.p⟩
 |bnot a p ha=>exactλh Q c r m s σ w=>y4I (AB.mono (gB ha h _ _ _ _ _ _ w) λb σ w=>by obtain⟨n,w⟩:=w.step;exact⟨n,w⟩)
 |bcmp o a b p ha hb=>exactλh Q c r m s σ w=>z1S (z2o (gE ha (z0b h).1) (gE hb (z0b (z0b h).2).1) w λn X Y σ w=>AC2.mono (Leaf.out w) λZ σ w=>by obtain⟨b,t,w⟩:=w;exact⟨b,t,n,w⟩) (Bool.not_eq_true' _▸(z0b (z0b h).2).2)
 |bcmpc o a b p ha hb=>exactλh Q c r m s σ w=>z1S (z2o (gE ha (z0b h).1) (gE hb (z0b (z0b h).2).1) w λn X Y σ w=>y3e (P:=λb σ=>W F n Q c r m (.bool b::s) σ) w (λb e q=>z26 e (z0i ⟨n,q⟩)) λw=>AC2.mono w λZ σ w=>by obtain⟨b,t,w⟩:=w;exact⟨b,t,n,w⟩) (Bool.not_eq_true' _▸(z0b (z0b h).2).2)
 |bcmp2 o o2 a b e p ha hb he=>
  refineλh Q c r m s σ w=>z9i (z2o (gE ha (z0b h).1) (gE hb (z0b (z0b h).2).1) w λn X Y σ w=> ?_) (Bool.not_eq_true' _▸(z0b (z0b (z0b h).2).2).2)
  have key:∀n σ,W F n Q ((den e).c [.tcmpc o2]) (c::r) m (Y::s) σ->F.at (eval (den e).ex F.env) m σ λW' σ₄=>AC2 F.C F.d (compareOp o2) Y W' σ₄ λZ σ=>TRX F.C F.d Z σ λb σ=>WE F Q c r m (.bool b::s) σ:=λn σ w=>(gE he (z0b (z0b (z0b h).2).2).1 _ _ _ _ _ _ ⟨n,w⟩).mono λW' σ₄ w=>by
   obtain⟨n,w⟩:=WE.step w
   exact y3e (P:=λb σ=>W F n Q [] (c::r) m (.bool b::s) σ) w (λb e q=>z26 e (z0i (WE.end ⟨n,q⟩))) λw=>AC2.mono w λZ σ w=>by obtain⟨b,t,w⟩:=w;exact⟨b,t,WE.end ⟨n,w⟩⟩
  refine y3e (P:=λb σ=>cIf b (W F n Q ((den e).c [.tcmpc o2]) (c::r) m (Y::s) σ) (W F n Q c r m (.bool false::s) σ)) w (λb e q=>z26 e ⟨b,z1N,λhb=>⟨n,(z4u q).2 hb⟩,λhb=>key n σ ((z4u q).1 hb)⟩) λw=>AC2.mono w λZ σ w=> ?_
  obtain⟨v,t1,t2,t3⟩:=w
  exact⟨v,t1,λe=>⟨n,t2 e⟩,λe=>key n σ (t3 e)⟩
 |bvalc a ha=>
  refineλh Q c r m s σ w=>y0X ((gE ha (z0b h).1 _ _ _ _ _ _ w).mono λX σ₁ w=> ?_) (y0c (z0b h).2)
  obtain⟨n,w⟩:=w.step
  exact y2c w (λb e w=>by subst e;exact z0i ⟨n,w⟩) λw=>by obtain⟨b,t,w⟩:=w;exact⟨b,t,n,w⟩
 |bbo o as p has=>exactλh Q c r m s σ w=>z9I (gM has h _ _ _ _ _ _ _ w)
 |bnil=>
  refineλ_ o Q c r m s σ w=> ?_
  cases o with
  |And=>obtain⟨n,w⟩:=WE.step w;exact z9V ⟨n,w⟩
  |Or=>obtain⟨n,w⟩:=WE.step w;exact y11 ⟨n,w⟩
 |bcons a as ha has=>
  refineλh o Q c r m s σ w=> ?_
  have w:=gB ha (z0b h).1 _ _ _ _ _ _ w
  have key:∀n σ,W F n Q ((den as).cv o []) (c::r) m s σ->AB F.C F.env F.vars F.gl F.own F.d (allTrue o (den as).exs F.env) m σ λb σ=>WE F Q c r m (.bool b::s) σ:=λn σ w=>AB.mono (gM has (z0b h).2 _ _ _ _ _ _ _ ⟨n,w⟩) λb σ w=>w.end
  cases o with
  |And=>exact y4C (AB.mono w λb σ₁ w=>by obtain⟨n,w⟩:=w.step;exact⟨λhb=>key n _ ((z9H w).1 hb),λhb=>⟨n,(z9H w).2 hb⟩⟩)
  |Or=>exact y5o (AB.mono w λb σ₁ w=>by obtain⟨n,w⟩:=w.step;exact⟨λhb=>⟨n,(z93 w).1 hb⟩,λhb=>key n _ ((z93 w).2 hb)⟩)
 |setI e a b u p he ha hb=>
  refineλh ho Q c r m s σ w=>y1S ((gE he (z0b (z0b h).2).1 _ _ _ _ _ _ w).mono λX σ₁ w=>z2o (gE ha (z0b (z0b (z0b h).2).2).1) (gE hb (z0b (z0b (z0b h).2).2).2) w λn O I σ w=> ?_) (z4K (z0b h).1)
  exact SetR.mono (Leaf.out w) λσ w=>⟨n,w⟩
 |rawS s=>exactλ_ _ Q c r m s σ w=>by obtain⟨n,w⟩:=WE.step w;exact AS.mono (Leaf.out w) (z7l λm σ w=>⟨n,w⟩)
 |asg i x q e p he=>
  refineλh ho Q c r m s σ w=>z1K ((gE he (z0b (z0b h).2).2 _ _ _ _ _ _ w).mono λX σ₁ w=> ?_) ho (z4K (z0b (z0b h).2).1)
  obtain⟨n,w⟩:=w.step
  obtain⟨m',p,w⟩:=z1P (k:=λm=>W F n Q c r m s σ₁) (eq_of_beq (z0b h).1) w
  exact⟨m',p,n,w⟩
 |asgL i x q r' p=>
  refineλh ho Q c r m s σ w=>z8X (λa o hf=> ?_) ho rfl
  obtain⟨n,w⟩:=WE.step w
  obtain⟨m',p,w⟩:=z1P (k:=λm=>W F n Q c r m s ((a,o,.list [])::σ)) (eq_of_beq h) (w a o hf)
  exact⟨m',p,n,w⟩
 |asgD i x q r' p=>
  refineλh ho Q c r m s σ w=>z8y (λa o hf=> ?_) ho rfl
  obtain⟨n,w⟩:=WE.step w
  obtain⟨m',p,w⟩:=z1P (k:=λm=>W F n Q c r m s ((a,o,.dict [])::σ)) (eq_of_beq h) (w a o hf)
  exact⟨m',p,n,w⟩
 |asg2 i j x y q r' k u e p he=>
  refineλh ho Q c r m s σ w=>z5Q ((gE he (z0b (z0b (z0b (z0b h).2).2).2).2 _ _ _ _ _ _ w).mono λX σ₁ w=> ?_) rfl (z8m (z0b (z0b (z0b h).2).2).1) (z52 (z0b (z0b (z0b (z0b h).2).2).2).1)
  obtain⟨n,w⟩:=w.step
  obtain⟨X,Y,rfl,w1⟩:=z7Q (k:=λx y=>z1B m i x λm=>z1B m j y λm=>W F n Q c r m s σ₁) w
  obtain⟨m1,p1,w⟩:=z1P (eq_of_beq (z0b h).1) w1
  obtain⟨m2,p2,w⟩:=z1P (eq_of_beq (z0b (z0b h).2).1) w
  exact y0i (z0w p1 (z0w p2 ⟨n,w⟩ (.inl ho)) (.inl ho)) rfl rfl
 |asg3 i j l x y z q r' u' k u e p he=>
  refineλh ho Q c r m s σ w=>z5Q ((gE he (z0b (z0b (z0b (z0b (z0b h).2).2).2).2).2 _ _ _ _ _ _ w).mono λX σ₁ w=> ?_) rfl (z8m (z0b (z0b (z0b (z0b h).2).2).2).1) (z52 (z0b (z0b (z0b (z0b (z0b h).2).2).2).2).1)
  obtain⟨n,w⟩:=w.step
  obtain⟨X,Y,Z,rfl,w1⟩:=y0p (k:=λx y z=>z1B m i x λm=>z1B m j y λm=>z1B m l z λm=>W F n Q c r m s σ₁) w
  obtain⟨m1,p1,w⟩:=z1P (eq_of_beq (z0b h).1) w1
  obtain⟨m2,p2,w⟩:=z1P (eq_of_beq (z0b (z0b h).2).1) w
  obtain⟨m3,p3,w⟩:=z1P (eq_of_beq (z0b (z0b (z0b h).2).2).1) w
  exact y5b (z0w p1 (z0w p2 (z0w p3 ⟨n,w⟩ (.inl ho)) (.inl ho)) (.inl ho)) rfl rfl
 |ret e p he=>exactλh _ Q c r m s σ w=>y0N ((gE he h _ _ _ _ _ _ w).mono λX σ₁ w=>by obtain⟨n,w⟩:=w.step;exact w)
 |exp e p he=>exactλh _ Q c r m s σ w=>y4N ((gE he (z0b h).2 _ _ _ _ _ _ w).mono λX σ₁ w=>by obtain⟨n,w⟩:=w.step;exact⟨n,w⟩) (z4K (z0b h).1)
 |ife e a b p he ha hb=>
  refineλh ho Q c r m s σ w=>y5R (AB.mono (gB he (z0b h).1 _ _ _ _ _ _ w) λv σ₁ w=> ?_)
  obtain⟨n,w⟩:=w.step
  have w:=z4u w
  exact⟨λe=>AS.mono (gS ha (z0b (z0b h).2).1 ho _ _ _ _ _ _ ⟨n,w.1 e⟩) (z7l λm σ w=>w.end),λe=>AS.mono (gS hb (z0b (z0b h).2).2 ho _ _ _ _ _ _ ⟨n,w.2 e⟩) (z7l λm σ w=>w.end)⟩
 |forR f x q a u i y q2 b p ha hb=>
  refineλh ho Q c r m s σ w=> ?_
  have h1:=z0b h
  have h2:=z0b h1.2
  have h3:=z0b h2.2
  have h4:=z0b h3.2
  refine z4o (z2L (z0H (z1J (List.mem_of_getElem? (z3P h3.1)) ⟨z0R,z0q ((gE ha h1.1 _ _ _ _ _ _ w).mono λX σ₁ w=>z0v ?_) (z1f h2.1)⟩) (z1f h2.1) rfl)) (λ_=>rfl)
  obtain⟨n,w⟩:=w.step
  obtain⟨k,I,rfl,hk,h0,hb1,he⟩:=Leaf.out w
  refine z2T ⟨_,_,_,k,rfl,y0D hk,y1F k,z7e I _ _ _ (λj Y hY m σ hI QB hQB hQR=> ?_) (λm σ hI=> ?_) h0⟩
  ·obtain⟨hj,rfl⟩:=z5Z hY
   obtain⟨m',p,w⟩:=z1P (k:=λm=>W F n QB ((den b).c []) [] m [] σ) (eq_of_beq h4.1) (hb1 j hj m σ hI QB (λm σ h=>hQB m σ trivial h) hQR)
   exact z0w p (z62 (gS hb h4.2 ho) w) (.inl ho)
  ·rw[z1D] at hI;exact⟨n,he m σ hI⟩
 |forL a i y q2 b p ha hb=>
  exactλh ho Q c r m s σ w=>z4o (z1b ((gE ha (z0b h).1 _ _ _ _ _ _ w).mono λX σ₁ w=>by obtain⟨n,w⟩:=w.step;exact z8d (Leaf.out w) λY QB m σ w=>y0L (z0b (z0b (z0b h).2).2).1 (gS hb (z0b (z0b (z0b h).2).2).2) ho w)) (z4O (z0b (z0b h).2).1)
 |forL2 a i j y z q2 q3 k u b p ha hb=>
  exactλh ho Q c r m s σ w=>z4o (z1b ((gE ha (z0b h).1 _ _ _ _ _ _ w).mono λX σ₁ w=>by obtain⟨n,w⟩:=w.step;exact z8d (Leaf.out w) λY QB m σ w=>y3I (z0b (z0b (z0b h).2).2).1 (z0b (z0b (z0b (z0b h).2).2).2).1 (gS hb (z0b (z0b (z0b (z0b h).2).2).2).2) ho w)) (z4O (z0b (z0b h).2).1)
 |forDS a i y q2 b p ha hb=>
  refineλh ho Q c r m s σ w=> ?_
  have h1:=z0b h
  have h2:=z0b h1.2
  have h3:=z0b h2.2
  exact z89 (KK.str F.C.prog F.C.w) ho (z4O h2.1) (gS hb h3.2 ho) (eq_of_beq h3.1) ((gE ha h1.1 _ _ _ _ _ _ w).mono λX σ₁ w=>by obtain⟨n,w⟩:=w.step;exact⟨n,Leaf.out w⟩)
 |forDI a i y q2 b p ha hb=>
  refineλh ho Q c r m s σ w=> ?_
  have h1:=z0b h
  have h2:=z0b h1.2
  have h3:=z0b h2.2
  exact z89 (KK.int F.C.prog F.C.w) ho (z4O h2.1) (gS hb h3.2 ho) (eq_of_beq h3.1) ((gE ha h1.1 _ _ _ _ _ _ w).mono λX σ₁ w=>by obtain⟨n,w⟩:=w.step;exact⟨n,Leaf.out w⟩)
 |forV f x q a u i y q2 b p ha hb=>
  refineλh ho Q c r m s σ w=> ?_
  have h3:=z0b (z0b (z0b h).2).2
  have h5:=z0b (z0b h3.2).2
  obtain rfl:=eq_of_beq h3.1
  exact z4o (y4U (z1J (List.mem_of_getElem? (z3P (z0b h3.2).1)) ⟨rfl,z0q ((gE ha (z0b h).1 _ _ _ _ _ _ w).mono λX σ₁ w=>z0v (by obtain⟨n,w⟩:=w.step;exact z7F (Leaf.out w) λY QB m σ w=>y0L h5.1 (gS hb h5.2) ho w)) (z1f (z0b (z0b h).2).1)⟩) (z1f (z0b (z0b h).2).1) rfl) (λ_=>rfl)
 |forE f x q a u i j y z q2 q3 k v b p ha hb=>
  refineλh ho Q c r m s σ w=> ?_
  have h3:=z0b (z0b (z0b h).2).2
  have h5:=z0b (z0b h3.2).2
  obtain rfl:=eq_of_beq h3.1
  exact z4o (y2z (z1J (List.mem_of_getElem? (z3P (z0b h3.2).1)) ⟨rfl,z0q ((gE ha (z0b h).1 _ _ _ _ _ _ w).mono λX σ₁ w=>z0v (by obtain⟨n,w⟩:=w.step;exact z7F (Leaf.out w) λY QB m σ w=>y3I h5.1 (z0b h5.2).1 (gS hb (z0b h5.2).2) ho w)) (z1f (z0b (z0b h).2).1)⟩) (z1f (z0b (z0b h).2).1) rfl) (λ_=>rfl)
 |done=>exactλ_ _ Q c r m s σ w=>y47 w
 |seq t r hs hr=>exactλh ho Q c r m s σ w=>z8V ((g1 hs (z0b h).1 ho _ _ _ _ _ _ w).mono (z4V λm σ w=>gS hr (z0b h).2 ho _ _ _ _ _ _ w))
 |dseq t r hs hr=>
  refineλh ho Q c r m s σ w=>z8V ((g1 hs (z0b h).1 ho _ _ _ _ _ _ w).mono (z4V λm σ w=> ?_))
  obtain⟨n,w⟩:=w.step
  obtain⟨τ,hs,w⟩:=Leaf.out w
  exactλA G D s hA R=>gS hr (z0b h).2 ho _ _ _ _ _ _ ⟨n,w⟩ A G D s hA (R.drop hs)
 |cut t r' hs hr=>
  refineλh ho Q c r m s σ w=> ?_
  obtain⟨n,w⟩:=WE.step w
  obtain⟨I,w1,w2⟩:=Leaf.out w
  refine z8V ((g1 hs (z0b h).1 ho _ _ _ _ _ _ ⟨n,w1 (z12 I (z12 (λm σ=>WE F Q c r m s σ) Q)) (λm σ h=>h) λf m σ hn q=> ?_⟩).mono λf m σ q=> ?_)
  ·cases f with
   |next=>exact(hn rfl).elim
   |brk=>exact q
   |cont=>exact q
   |ret x=>exact q
  ·cases f with
   |next=>exact gS hr (z0b h).2 ho _ _ _ _ _ _ ⟨n,w2 m σ (WE.fin q)⟩
   |brk=>exact q
   |cont=>exact q
   |ret x=>exact q
theorem z0e{C:Cx}{env:Env}{vars:List Str}{gl:List (Str×V)}{d:Nat}{fns:List Nat}{ml:List (Nat×Str×Nat)}{al:List (Nat×Str)}(hf:∀a∈fns,z0g C (.ref a))(hm:(∀q∈ml,∃K,MethAt C K q.1 q.2.1 q.2.2)/\∀q∈al,∃K,AttrAt C K q.1 q.2)(t:TC){ss:List Stmt}(_:allK t.p ss λl=>l=t.r)
  (ok:(okS ⟨C,env,vars,gl,true,d,fns,ml,al⟩ (den (rdT gl t.k ss)),(den (rdT gl t.k ss)).sts,(den (rdT gl t.k ss)).c [])=(true,ss,t.k))
  {m:Loc} {σ:Sto} {Q:Fl->Loc->Sto->Prop} (w:let F:Fx:=⟨C,env,vars,gl,true,d,fns,ml,al⟩;let m':=m;W F 3000 Q t.k [] m' [] σ):AS C env vars gl true d (execs ss env) m σ Q:=by
 have h1:=congrArg (·.1) ok
 have h2:(den (rdT gl t.k ss)).sts=ss:=congrArg (·.2.1) ok
 have h3:(den (rdT gl t.k ss)).c []=t.k:=congrArg (·.2.2) ok
 have g:=gS (good hf hm (rdT gl t.k ss)) h1 rfl Q [] [] m [] σ ⟨3000,by rw[h3];exact w⟩
 rw[h2] at g
 refine AS.mono g λf m σ q=> ?_
 cases f with
 |next=>exact WE.fin q
 |brk=>exact q
 |cont=>exact q
 |ret x=>exact q
theorem z3m{A:(Fl->Loc->Sto->Prop)->Prop}{B:Loc->Sto->Prop}{Q:Fl->Loc->Sto->Prop}{α:Type}(P:α->Prop)(m1:α->Loc)(σ1:Sto)(h1:∀K:Fl->Loc->Sto->Prop,(∀x,P x->K .next (m1 x) σ1)->(∀f m σ,(f= .next->False)->Q f m σ->K f m σ)->A K)(h2:∀x,P x->B (m1 x) σ1):
  Leaf (∃I:Loc->Sto->Prop,(∀K:Fl->Loc->Sto->Prop,(∀m σ,I m σ->K .next m σ)->(∀f m σ,(f= .next->False)->Q f m σ->K f m σ)->A K)/\∀m σ,I m σ->B m σ):=
 ⟨λm σ=>∃x,P x/\m=m1 x/\σ=σ1,λK hK hR=>h1 K (λx hx=>hK _ _ ⟨x,hx,rfl,rfl⟩) hR,λm σ h=>by obtain⟨x,hx,rfl,rfl⟩:=h;exact h2 x hx⟩
theorem y5x{A:(Fl->Loc->Sto->Prop)->Prop}{B:Loc->Sto->Prop}{Q:Fl->Loc->Sto->Prop}{α:Type}(P:α->Prop)(m1:α->Loc)(σ1:α->Sto)(h1:∀K:Fl->Loc->Sto->Prop,(∀x,P x->K .next (m1 x) (σ1 x))->(∀f m σ,(f= .next->False)->Q f m σ->K f m σ)->A K)(h2:∀x,P x->B (m1 x) (σ1 x)):
  Leaf (∃I:Loc->Sto->Prop,(∀K:Fl->Loc->Sto->Prop,(∀m σ,I m σ->K .next m σ)->(∀f m σ,(f= .next->False)->Q f m σ->K f m σ)->A K)/\∀m σ,I m σ->B m σ):=
 ⟨λm σ=>∃x,P x/\m=m1 x/\σ=σ1 x,λK hK hR=>h1 K (λx hx=>hK _ _ ⟨x,hx,rfl,rfl⟩) hR,λm σ h=>by obtain⟨x,hx,rfl,rfl⟩:=h;exact h2 x hx⟩
theorem z05{A:(Fl->Loc->Sto->Prop)->Prop}{B:Loc->Sto->Prop}{Q:Fl->Loc->Sto->Prop}(m1:Loc)(σ1:Sto)(h1:∀K:Fl->Loc->Sto->Prop,K .next m1 σ1->(∀f m σ,(f= .next->False)->Q f m σ->K f m σ)->A K)(h2:B m1 σ1):
  Leaf (∃I:Loc->Sto->Prop,(∀K:Fl->Loc->Sto->Prop,(∀m σ,I m σ->K .next m σ)->(∀f m σ,(f= .next->False)->Q f m σ->K f m σ)->A K)/\∀m σ,I m σ->B m σ):=
 ⟨λm σ=>m=m1/\σ=σ1,λK hK hR=>h1 K (hK _ _ ⟨rfl,rfl⟩) hR,λm σ h=>by obtain⟨rfl,rfl⟩:=h;exact h2⟩
end
end
section
noncomputable def Asc(x:Str):Prop:=x.length<=100/\∀c∈x.cps.toList,c<128
inductive Dn(σ:Sto):Nat->V->V->Prop
 |none {n:Nat}:Dn σ n .none .none
 |bool {n:Nat} (b:Bool):Dn σ n (.bool b) (.bool b)
 |int {n:Nat} (i:Int):Dn σ n (.int i) (.int i)
 |str {n:Nat} (x:Str):Asc x->Dn σ n (.str x) (.str x)
 |dict {n:Nat} {a:Addr}:At σ a (.dict [])->Dn σ n (.ref a) (.ref a)
 |tup {n:Nat} {xs ys:List V}:xs.length=ys.length->xs.length<=200->(∀(j:Nat) X Y,xs[j]? =some X->ys[j]? =some Y->Dn σ n X Y)->Dn σ (n+1) (.tup xs) (.tup ys)
 |lst {n:Nat} {xs ys:List V}:xs.length=ys.length->xs.length<=200->(∀(j:Nat) X Y,xs[j]? =some X->ys[j]? =some Y->Dn σ n X Y)->Dn σ (n+1) (.lst xs) (.lst ys)
 |ref {n:Nat} {a:Addr} {xs ys:List V}:At σ a (.list xs)->xs.length=ys.length->xs.length<=200->(∀(j:Nat) X Y,xs[j]? =some X->ys[j]? =some Y->Dn σ n X Y)->Dn σ (n+1) (.ref a) (.lst ys)
section
variable {C:Cx} {d:Nat} {σ σ':Sto} {Q:V->Sto->Prop} {v t:V} {n m:Nat}
theorem Dn.mono(h:Dn σ n v t)(k:∀a x,At σ a x->At σ' a x):Dn σ' n v t:=by
 induction h with
 |none=>exact .none
 |bool b=>exact .bool b
 |int i=>exact .int i
 |str x hx=>exact .str x hx
 |dict ha=>exact .dict (k _ _ ha)
 |tup a b _ ih=>exact .tup a b ih
 |lst a b _ ih=>exact .lst a b ih
 |ref ha a b _ ih=>exact .ref (k _ _ ha) a b ih
theorem Dn.up(h:Dn σ n v t):∀{m:Nat},n<=m->Dn σ m v t:=by
 induction h with
 |none=>intro m _;exact .none
 |bool b=>intro m _;exact .bool b
 |int i=>intro m _;exact .int i
 |str x hx=>intro m _;exact .str x hx
 |dict ha=>intro m _;exact .dict ha
 |tup a b _ ih=>intro m hm;obtain⟨m,rfl⟩:=Nat.exists_eq_add_of_le hm;rw[Nat.add_right_comm];exact .tup a b λj X Y h1 h2=>ih j X Y h1 h2 (Nat.le_add_right _ _)
 |lst a b _ ih=>intro m hm;obtain⟨m,rfl⟩:=Nat.exists_eq_add_of_le hm;rw[Nat.add_right_comm];exact .lst a b λj X Y h1 h2=>ih j X Y h1 h2 (Nat.le_add_right _ _)
 |ref ha a b _ ih=>intro m hm;obtain⟨m,rfl⟩:=Nat.exists_eq_add_of_le hm;rw[Nat.add_right_comm];exact .ref ha a b λj X Y h1 h2=>ih j X Y h1 h2 (Nat.le_add_right _ _)
theorem z1V{xs ys:List V}(hl:xs.length=ys.length){j:Nat}{Y:V}(h:ys[j]? =some Y):∃X,xs[j]? =some X:=
 ⟨_,List.getElem?_eq_getElem (by rw[hl];exact(List.getElem?_eq_some_iff.mp h).1)⟩
theorem Dn.eq(h:Dn σ n v t):EqV C σ n v t:=by
 induction h with
 |none=>exact EqV.none.le
 |bool b=>exact EqV.bool.le
 |int i=>exact EqV.int.le
 |str x hx=>exact EqV.str.le
 |dict ha=>exact EqV.ref.le
 |tup a _ _ ih=>exact EqV.tup a ih
 |lst a _ _ ih=>exact EqV.list (.lst _) (.lst _) a ih
 |ref ha a _ _ ih=>obtain⟨o,ha⟩:=ha;exact EqV.list (.refL ha) (.lst _) a ih
theorem z44(hs:z0K C)(h:Dn σ n v t)(hn:n<=60)(q:Q (.bool false) σ):AC2 C d (compareOp .NotEq) v t σ Q:=by
 cases h with
 |none=>exact y0U .none .none rfl rfl q
 |bool b=>exact y0U (.bool b) (.bool b) rfl rfl (by cases b<;>exact q)
 |int i=>exact y0P (by rw[decide_eq_true rfl];exact q)
 |str x hx=>exact y3E (by rw[show(x !=x)=false by simp];exact q)
 |dict ha=>exact y3p (KK.str C.prog C.w) (kvs:=[]) hs ha List.nodup_nil ha q
 |tup a _ h=>exact y4f a (λj X Y h1 h2=>(h j X Y h1 h2).eq) (by lia) q
 |lst a _ h=>exact y1K (.lst _) (.lst _) a (λj X Y h1 h2=>(h j X Y h1 h2).eq) (by lia) q
 |ref ha a _ h=>obtain⟨o,ha⟩:=ha;exact y1K (.refL ha) (.lst _) a (λj X Y h1 h2=>(h j X Y h1 h2).eq) (by lia) q
noncomputable def tkB(t:V)(k:TK):Bool:=match tkOf t with
 |some (some j)=>j.is k
 |some none=>false
 |none=>TK.dct.is k
theorem y21{x:V}{P:Sto->Prop}(h:Has σ x (.dict []) P){k:TK}(q:Q (.bool (TK.dct.is k)) σ):KW C d (.bi "isinstance") [x,.type k.n] σ Q:=y2k h q
theorem z6V{x:V}{xs:List V}{P:Sto->Prop}(h:Has σ x (.list xs) P){k:TK}(q:Q (.bool (TK.lst.is k)) σ):KW C d (.bi "isinstance") [x,.type k.n] σ Q:=y0Z h q
theorem y4j(h:Dn σ n v t){k:TK}(q:Q (.bool (tkB t k)) σ):KW C d (.bi "isinstance") [v,.type k.n] σ Q:=by
 cases h with
 |none=>exact z3z (b:=false) rfl q
 |bool b=>exact z3z rfl q
 |int i=>exact z3z rfl q
 |str x hx=>exact z3z rfl q
 |dict ha=>obtain⟨o,ha⟩:=ha;exact y21 (.refD ha) q
 |tup a _ h=>exact z3z rfl q
 |lst a _ h=>exact z3z rfl q
 |ref ha a _ h=>obtain⟨o,ha⟩:=ha;exact z6V (.refL ha) q
theorem Dn.tupI(h:Dn σ n v t):tkB t .tup=true->∃m xs ys,n=m+1/\v= .tup xs/\t= .tup ys/\xs.length=ys.length/\xs.length<=200/\∀(j:Nat) X Y,xs[j]? =some X->ys[j]? =some Y->Dn σ m X Y:=
 h.casesOn (motive:=λn v t _=>tkB t .tup=true->∃m xs ys,n=m+1/\v= .tup xs/\t= .tup ys/\xs.length=ys.length/\xs.length<=200/\∀(j:Nat) X Y,xs[j]? =some X->ys[j]? =some Y->Dn σ m X Y)
  (λk=>ff k) (λ_ k=>ff k) (λ_ k=>ff k) (λ_ _ k=>ff k) (λ_ k=>ff k) (λa b c _=>⟨_,_,_,rfl,rfl,rfl,a,b,c⟩) (λ_ _ _ k=>ff k) (λ_ _ _ _ k=>ff k)
theorem Dn.lstI(h:Dn σ n v t):tkB t .lst=true->∃m xs ys P,n=m+1/\Has σ v (.list xs) P/\t= .lst ys/\xs.length=ys.length/\xs.length<=200/\∀(j:Nat) X Y,xs[j]? =some X->ys[j]? =some Y->Dn σ m X Y:=
 h.casesOn (motive:=λn v t _=>tkB t .lst=true->∃m xs ys P,n=m+1/\Has σ v (.list xs) P/\t= .lst ys/\xs.length=ys.length/\xs.length<=200/\∀(j:Nat) X Y,xs[j]? =some X->ys[j]? =some Y->Dn σ m X Y)
  (λk=>ff k) (λ_ k=>ff k) (λ_ k=>ff k) (λ_ _ k=>ff k) (λ_ k=>ff k) (λ_ _ _ k=>ff k) (λa b c _=>⟨_,_,_,_,rfl,.lst _,rfl,a,b,c⟩) (λha b c e _=>by obtain⟨o,ha⟩:=ha;exact⟨_,_,_,_,rfl,.refL ha,rfl,b,c,e⟩)
theorem Dn.strI(h:Dn σ n v t):tkB t .str=true->∃x,v= .str x/\t= .str x/\Asc x:=
 h.casesOn (motive:=λ_ v t _=>tkB t .str=true->∃x,v= .str x/\t= .str x/\Asc x)
  (λk=>ff k) (λ_ k=>ff k) (λ_ k=>ff k) (λ_ hx _=>⟨_,rfl,rfl,hx⟩) (λ_ k=>ff k) (λ_ _ _ k=>ff k) (λ_ _ _ k=>ff k) (λ_ _ _ _ k=>ff k)
end
end
section
section
variable {C:Cx} {env:Env} {vars:List Str} {gl:List (Str×V)} {own:Bool} {d:Nat} {m:Loc} {σ:Sto} {Q:V->Sto->Prop}
noncomputable def isN:Value->Bool
 | .none=>true
 |_=>false
theorem y2v{w:World}{D:Gh}:∀{vs:List Value} {xs:List V},VRs w D vs xs->(∀X∈xs,X= .none∨∃l,X= .tup l)->vs.any isN=xs.any V.isNone:=λ{vs}=>by
 induction vs with
 |nil=>intro xs h _;cases h;rfl
 |cons v vs ih=>
  intro xs h hk
  cases h with
  | @cons _ X _ xs a b=>
   rw[List.any_cons,List.any_cons,ih b λX hX=>hk X (.tail _ hX)]
   congr 1
   rcases hk _ (.head _) with rfl|⟨l,rfl⟩
   ·rw[a.noneI];rfl
   ·obtain⟨_,_,_,_,rfl,_⟩:=a.tupI;rfl
theorem y0T{x:V}{xs:List V}{P:Sto->Prop}(h:Has σ x (.list xs) P)(hk:∀X∈xs,X= .none∨∃l,X= .tup l)(q:Q (.bool (xs.any V.isNone)) σ):AC2 C d (compareOp .In) .none x σ Q:=λA G D s v u hA R hv hu=>by
 apply Has.isListE h R hu;intro a ws n ho hr
 rw[hv.noneI]
 refine SeqAt.in_listAt isN ⟨_,ho,rfl,n,rfl⟩ (λy hy=> ?_) (PostC.now R (.bool _) ?_)
 ·obtain⟨j,hj,rfl⟩:=Array.mem_iff_getElem.mp hy
  obtain⟨X,eX,rX⟩:=hr.get' (i:=j) (u:=ws[j]) (by rw[Array.getElem?_toList];exact Array.getElem?_eq_getElem hj)
  rcases hk X (List.mem_of_getElem? eX) with rfl|⟨l,rfl⟩
  ·rw[rX.noneI];exact .same _
  ·obtain⟨b,us,e,_,hT,_⟩:=VR.isT R rX
   rw[e]
   exact SeqAt.EqAt.tuple_none hT (z4Z hA (n:=1) (by decide))
 ·rw[<-Array.any_toList,y2v hr hk];exact q
noncomputable def y4a(k:Int):Value->Bool
 | .int i _=>i==k
 |_=>false
theorem y4l{k:Int}(q:Q (.bool (decide (0=k)||decide (1=k))) σ):AC2 C d (compareOp .In) (.int k) (.tup [.int 0,.int 1]) σ Q:=λA G D s v u hA R hv hu=>by
 apply VR.isTE R hu;intro b us _ hT hr
 obtain⟨tk,rfl⟩:=hv.intI
 obtain⟨y0,r0,e0,h0,hr1⟩:=hr.consI
 obtain⟨y1,r1,rfl,h1,hr2⟩:=hr1.consI
 obtain rfl:=hr2.nilI
 obtain⟨t0,rfl⟩:=h0.intI
 obtain⟨t1,rfl⟩:=h1.intI
 have eu:us= #[.int 0 t0,.int 1 t1]:=Array.toList_inj.mp e0
 subst eu
 refine SeqAt.in_tupleAt (y4a k) hT (λy hy=> ?_) (PostC.now R (.bool _) ?_)
 ·simp at hy
  rcases hy with rfl|rfl
  ·exact SeqAt.EqAt.int_int 0 t0 k tk
  ·exact SeqAt.EqAt.int_int 1 t1 k tk
 ·have:(#[Value.int 0 t0,Value.int 1 t1]:Array Value).any (y4a k)=(decide (0=k)||decide (1=k)):=by
   simp[y4a]
   rw[Bool.eq_iff_iff];simp
  rw[this];exact q
theorem y2D{k:Str}(q:Q (.bool false) σ):AC2 C d (compareOp .In) (.str k) (.tup [.int 0,.int 1]) σ Q:=λA G D s v u hA R hv hu=>by
 apply VR.isTE R hu;intro b us _ hT hr
 obtain⟨tk,rfl⟩:=hv.strI
 obtain⟨y0,r0,e0,h0,hr1⟩:=hr.consI
 obtain⟨y1,r1,rfl,h1,hr2⟩:=hr1.consI
 obtain rfl:=hr2.nilI
 obtain⟨t0,rfl⟩:=h0.intI
 obtain⟨t1,rfl⟩:=h1.intI
 have eu:us= #[.int 0 t0,.int 1 t1]:=Array.toList_inj.mp e0
 subst eu
 refine SeqAt.in_tupleAt (λ_=>false) hT (λy hy=> ?_) (PostC.now R (.bool _) (by simpa using q))
 simp at hy
 rcases hy with rfl|rfl
 ·exact SeqAt.EqAt.int_str 0 t0 k tk
 ·exact SeqAt.EqAt.int_str 1 t1 k tk
noncomputable def ltB(t:V):Bool:=tkB t .lst||tkB t .tup
end
end
section
section
variable {prog:Program} {w:World} {A:Around} {E:Value->Shared->Prop}
theorem z8E{P:Shared->Prop}(hP:∀s tk,P s->P {s with toks:=tk}){x:Value}{Tx:String}{tp:Addr}{o:Obj}{cs:List Value}{n:Nat}{vs:List Bool}{tk:Tok}{s:Shared}{Q:Fin->Shared->Prop}
  (hx:s.TypeIs x Tx) (htp:s.heap.get? tp=some o) (hc:o.cls= .type "tuple") (hd:o.data= .seq cs.toArray n) (ha:AnswersAll P x cs vs) (hs:P s)
  (hq:∀tk',Q (.done (.ret (.bool (vs.any id)))) {s with toks:=tk'}):wpAny (model prog w) A (Builtin.«isinstance.nested» ⟨[x,.ref tp,.int 0 tk],[]⟩) Q E s:=by
 obtain⟨cls,dd,data,sl⟩:=o
 simp only at hc hd
 subst hc hd
 obtain⟨h,g,d,t,os⟩:=s
 have hT2:(⟨h,g,d,t,os⟩:Shared).TypeIs (.ref tp) "tuple":=⟨_,htp,rfl⟩
 have f1:=F.isi_sub_tuple
 repeat (any_goals (first|assumption|wp_step))
 refine wpAny_arrayLoop ?_
 simp only[Option.getD_some,List.toList_toArray]
 refine isinstance_items (dep:=0) hP cs vs _ _ ha hs λtk'=> ?_
 cases hv:vs.any id with
 |true=>
  simp only[if_true]
  repeat (any_goals (first|assumption|wp_step))
  exact hv▸hq tk'
 |false=>
  simp only[Bool.false_eq_true,if_false]
  repeat (any_goals (first|assumption|wp_step))
  exact hv▸hq tk'
theorem y24{x:Value}{Tx:String}{tp:Addr}{o:Obj}{cs:List Value}{n:Nat}{vs:List Bool}{s:Shared}{Q:Value->Shared->Prop}(ha:AnswersAll (λs=>s.TypeIs x Tx) x cs vs)(hx:s.TypeIs x Tx)(htp:s.heap.get? tp=some o)(hc:o.cls= .type "tuple")(hd:o.data= .seq cs.toArray n)
  (h:∀tk,Q (.bool (vs.any id)) {s with toks:=tk}):wpAny (model prog w) A (call (.builtin "isinstance") [x,.ref tp]) Q E s:=by
 have g:Meets (Builtin.«isinstance» ⟨[x,.ref tp],[]⟩) (λ_ R s=>s.TypeIs x Tx/\s.heap.get? tp=some o/\∀tk,R (.ok (.ret (.bool (vs.any id)))) {s with toks:=tk}):=
  λ_ _ _ _ _ hs=>isinstance_outer (z8E (λ_ tk h=>h.toks tk) hs.1 hs.2.1 hc hd ha hs.1 hs.2.2) (Shared.TypeIs.not_mainsLoader hs.1)
 exact call_isinstance g ⟨hx,htp,h⟩
end
section
variable {C:Cx} {d:Nat} {σ:Sto} {Q:V->Sto->Prop} {v t:V} {n:Nat}
theorem z3w{x:Value}{Tx:String}{b1 b2:Bool}(ha:Answers (λs=>s.TypeIs x Tx) x (.type "list") b1)(hb:Answers (λs=>s.TypeIs x Tx) x (.type "tuple") b2){A:Around}{G D:Gh}{s:Shared}{u:Value}(hx:s.TypeIs x Tx)(R:RelC C G D σ s)(hu:VR C.w D u (.tup [.type "list",.type "tuple"]))(q:Q (.bool (b1||b2)) σ):
  wpAny C.M A (call (.builtin "isinstance") [x,u]) (PostC C G D Q) (λ_ _=>False) s:=by
 obtain⟨a,o,vs,k,rfl,e,hc,hd,hr⟩:=hu.tupI
 obtain⟨_,_,rfl,h1,h2⟩:=hr.consI
 obtain⟨_,_,rfl,h3,h4⟩:=h2.consI
 obtain rfl:=h4.nilI
 obtain rfl:=h1.typeI
 obtain rfl:=h3.typeI
 refine y24 (AnswersAll.cons ha (AnswersAll.cons hb AnswersAll.nil)) hx (R.d _ _ e) hc hd λtk=> ?_
 have:([b1,b2]:List Bool).any id=(b1||b2):=by simp
 rw[this]
 exact PostC.now (R.tok tk) (.bool _) q
theorem z8S(h:Dn σ n v t)(q:Q (.bool (ltB t)) σ):KW C d (.bi "isinstance") [v,.tup [.type "list",.type "tuple"]] σ Q:=λA G D s f vs hA R hf hs=>by
 apply VR.biE hf
 apply VRs.consE hs;intro x _ h1 h2
 apply VRs.consE h2;intro u _ h3 h4
 apply VRs.nilE h4
 have lst:∀{xs:List V} {P:Sto->Prop},Has σ v (.list xs) P->Q (.bool true) σ->wpAny C.M A (call (.builtin "isinstance") [x,u]) (PostC C G D Q) (λ_ _=>False) s:=λhH q=>by
  apply Has.isListE hH R h1;intro a ws k ho _
  exact z3w (Tx:="list") (.of_true F.isi_meta_list AutoSeq1.sub_list_list) (.of_false_list (by decide+kernel) F.isi_meta_tuple AutoSeq1.sub_list_tuple) ⟨_,ho,rfl⟩ R h3 q
 cases h with
 |none=>rw[h1.noneI];exact z3w (Tx:="NoneType") (.of_false_none (by decide+kernel) F.isi_meta_list (by rw[isSubtype_type];kernel_rfl)) (.of_false_none (by decide+kernel) F.isi_meta_tuple (by rw[isSubtype_type];kernel_rfl)) (by rfl) R h3 q
 |bool b=>rw[h1.boolI];exact z3w (Tx:="bool") (.of_false_bool (by decide+kernel) F.isi_meta_list (by rw[isSubtype_type];kernel_rfl)) (.of_false_bool (by decide+kernel) F.isi_meta_tuple (by rw[isSubtype_type];kernel_rfl)) (by rfl) R h3 q
 |int i=>apply VR.intE h1;intro _;exact z3w (Tx:="int") (.of_false_int (by decide+kernel) F.isi_meta_list (by rw[isSubtype_type];kernel_rfl)) (.of_false_int (by decide+kernel) F.isi_meta_tuple (by rw[isSubtype_type];kernel_rfl)) (by rfl) R h3 q
 |str y hy=>apply VR.strE h1;intro _;exact z3w (Tx:="str") (.of_false_str (by decide+kernel) F.isi_meta_list (by rw[isSubtype_type];kernel_rfl)) (.of_false_str (by decide+kernel) F.isi_meta_tuple (by rw[isSubtype_type];kernel_rfl)) (by rfl) R h3 q
 |dict ha=>
  obtain⟨o,hm⟩:=ha
  obtain⟨a,o',rfl,ho,hr,_⟩:=(Has.refD hm).run R h1
  obtain⟨_,_,rfl,_⟩:=hr
  exact z3w (Tx:="dict") (.of_false_dict (by decide+kernel) F.isi_meta_list (by rw[isSubtype_type];kernel_rfl)) (.of_false_dict (by decide+kernel) F.isi_meta_tuple (by rw[isSubtype_type];kernel_rfl)) ⟨_,ho,rfl⟩ R h3 q
 |tup a _ h=>
  obtain⟨b,us,rfl,_,⟨o,ho,hc,_⟩,_⟩:=VR.isT R h1
  exact z3w (Tx:="tuple") (.of_false_tuple (by decide+kernel) F.isi_meta_list AutoSeq1.sub_tuple_list) (.of_true F.isi_meta_tuple AutoSeq1.sub_tuple_tuple) ⟨o,ho,hc⟩ R h3 q
 |lst a _ h=>exact lst (.lst _) q
 |ref ha a _ h=>obtain⟨o,ha⟩:=ha;exact lst (.refL ha) q
end
end
section
open PyProof.Rows
section
variable {C:Cx} {d:Nat} {σ:Sto} {Q:V->Sto->Prop}
theorem y3T{a b c:V}(q:Q (.tup [a,b]) σ):SubR C d (.tup [a,b,c]) (.slc .none (.int 2) .none) σ Q:=λA G D s o v hA R ho hv=>by
 obtain⟨sl,l,u,st,rfl,e,h1,h2,h3⟩:=VR.slcI hv
 obtain rfl:=h1.noneI
 obtain⟨t2,rfl⟩:=h2.intI
 obtain rfl:=h3.noneI
 apply VR.isTE R ho;intro ta us ht hT hr
 obtain⟨x,_,e1,hx,hr⟩:=hr.consI
 obtain⟨y,_,rfl,hy,hr⟩:=hr.consI
 obtain⟨z,_,rfl,hz,hr⟩:=hr.consI
 obtain rfl:=hr.nilI
 have eu:us= #[x,y,z]:=Array.toList_inj.mp e1
 subst eu
 refine⟨"tuple",_,ht.typeIs,slot_tuple_getitem.lookup,?_⟩
 have hos:=R.d _ _ e
 have hTs:s.TypeIs (.ref sl) "slice":=⟨_,hos,rfl⟩
 have hd2:sizeOk (.seq #[x,y]):=by show 2<=sizeLine;decide
 have hend:PostC C G D Q (.ref s.heap.objs.size) {s with heap:=s.heap.push {cls:= .type "tuple",data:= .seq #[x,y]}}:=by
  obtain⟨R',dx⟩:=R.newF (y3U #[x,y] 0)
  exact⟨.tup [a,b],_,σ,dx,.tup (vs:=[x,y]) (n:=0) (z0P ..) rfl rfl (.cons (hx.mono dx.sub) (.cons (hy.mono dx.sub) .nil)),R',q⟩
 unfold getItem
 try with_reducible refine wpAny_holding ?_
 first|refine wpAny_bind (wpAny_pure ?_)|skip
 refine wpAny_bind (wpAny_sequenceKey ht.typeIs (by decide) ?_)
 refine wpAny_bind (wpAny_callSpecial?_slot (name:=Str.ofString "__getitem__") ht.typeIs slot_tuple_getitem
  (wpAny_call_entry slot_tuple_getitem ht.typeIs entry_tuple_getitem ?_ (args_tuple_getitem _ _)))
 show wpAny _ _ (Builtin.Tuple.tupleItemsOf (.ref ta)>>=_) _ _ s
 refine wpAny_bind (tupleItemsOf_ ht ?_)
 refine wpAny_bind (wpAny_typeOf hTs ?_)
 rw[if_pos (by decide)]
 have hsl:∀{K:Int×Int×Nat->Shared->Prop} {E:Value->Shared->Prop} {B:Around},K (0,1,2) s->wpAny C.M B (Builtin.Slice.sliceApplied (.ref sl) (pure (3:Int))) K E s:=λ{K E B} hK=>by
  unfold Builtin.Slice.sliceApplied Builtin.Slice.sliceFields
  refine wpAny_bind (wpAny_bind (wpAny_field hos rfl (x:= .none) rfl (wpAny_bind (wpAny_field hos rfl (x:= .int 2 t2) rfl (wpAny_bind (wpAny_field hos rfl (x:= .none) rfl (wpAny_pure ?_)))))))
  refine wpAny_bind (slicePart_none ?_)
  show wpAny _ _ (if((1:Int)==0)=true then _ else _) _ _ s
  rw[if_neg (by decide)]
  refine wpAny_bind (slicePart_none (wpAny_bind (slicePart_int (wpAny_bind (wpAny_pure ?_)))))
  exact wpAny_pure hK
 refine wpAny_bind (hsl ?_)
 show wpAny _ _ (if((0:Int)==0&&(1:Int)==1&&(2:Nat)==3)=true then _ else _) _ _ s
 rw[if_neg (by decide)]
 show wpAny _ _ (Builtin.Tuple.tupleExact #[x,y]>>=_) _ _ s
 first
  |exact wpAny_bind (m:=Builtin.Tuple.tupleExact _) (wpAny_newObj_type (wpAny_pure ⟨_,rfl,wpAny_pure hend⟩) hd2)
  |exact wpAny_bind (m:=Builtin.Tuple.tupleExact _) (wpAny_newObj_type (wpAny_bind (wpAny_pure (wpAny_pure ⟨_,rfl,wpAny_pure hend⟩))) hd2)
  |exact wpAny_bind (wpAny_bind (m:=Builtin.Tuple.tupleExact _) (wpAny_newObj_type (wpAny_pure (wpAny_pure ⟨_,rfl,wpAny_pure hend⟩)) hd2))
  |exact wpAny_bind (wpAny_bind (m:=Builtin.Tuple.tupleExact _) (wpAny_newObj_type (wpAny_pure ⟨_,rfl,wpAny_pure hend⟩) hd2))
end
end
section
theorem z7I(l:Addr)(es:Array DictEntry)(n:Nat)(b:Int)(u:Tok):
  Meets (Builtin.«dict.__ne__» ⟨[.ref l,.int b u],[]⟩) (λ_ R s=>s.heap.get? l=some (z1T es n)/\R (.ok (.ret .notImplemented)) s):=
 .of_wp λprog w A R s h=>by obtain⟨hp,g,d,tk,os⟩:=s;obtain⟨hl,h⟩:=h;have f1:=F.sub_int_dict;wp_walk using wpAny_loadPart' hl;exact⟨_,rfl,h⟩
theorem z7D(l:Addr)(es:Array DictEntry)(n:Nat)(b:Int)(u:Tok):
  Meets (Builtin.«int.__ne__» ⟨[.int b u,.ref l],[]⟩) (λ_ R s=>s.heap.get? l=some (z1T es n)/\R (.ok (.ret .notImplemented)) s):=
 .of_wp λprog w A R s h=>by obtain⟨hp,g,d,tk,os⟩:=s;obtain⟨hl,h⟩:=h;wp_walk using wpAny_loadPart' hl,wpAny_load hl;exact⟨_,rfl,h⟩
section
variable {C:Cx} {d:Nat} {σ:Sto} {Q:V->Sto->Prop} {v t:V} {n:Nat}
theorem z7G{A:Around}{s:Shared}{l:Addr}{es:Array DictEntry}{n:Nat}(b:Int)(u:Tok)(ho:s.heap.get? l=some (z1T es n))(hu:A.units<cLine):SeqAt.RcNeAt A s (.ref l) (.int b u) true:=λprog w E Q h=>
 SeqAt.rc_ne_decline_or (k:=false) ⟨_,ho,rfl⟩ (typeIs_int s b u) (by decide) F.sub_int_dict F.slot_dict_ne F.slot_int_ne_refl
  (λ_ hq=>call_meets F.slot_dict_ne ⟨_,ho,rfl⟩ F.entry_dict_ne (F.args_dict_ne_2 _ _) (z7I l es n b u) ⟨ho,hq⟩)
  (λ_ hq=>call_meets F.slot_int_ne_refl (typeIs_int s b u) F.entry_int_ne (F.args_int_ne_2 _ _) (z7D l es n b u) ⟨ho,hq⟩)
  (λ_ hq=>wpAny_of_eq (rfl:isSame (.ref l) (.int b u)=pure false) hq) (.inr hu) h
noncomputable def isI(t:V)(k:Int):Bool:=match t with
 | .int i=>decide (i=k)
 |_=>false
theorem y3i(h:Dn σ n v t)(hb:tkB t .bool=false){k:Int}(q:Q (.bool (!isI t k)) σ):AC2 C d (compareOp .NotEq) v (.int k) σ Q:=by
 cases h with
 |none=>exact y0U .none (.int k) rfl rfl q
 |bool b=>cases hb
 |int i=>exact y0P q
 |str x hx=>
  intro A G D s v u hA R hv hu
  apply VR.strE hv;intro tx
  apply VR.intE hu;intro tk
  exact SeqAt.RcNeAt.str_int x tx k tk C.prog C.w _ _ (PostC.now R (.bool _) q)
 |dict ha=>
  intro A G D s v u hA R hv hu
  obtain⟨o,ha⟩:=ha
  apply VR.refE hv
  apply VR.intE hu;intro tk
  obtain⟨es,n,rfl,_⟩:=R.sto _ ha
  exact z7G k tk (R.pl _ ha) hA.line0 C.prog C.w _ _ (PostC.now R (.bool _) q)
 |tup a b h=>
  intro A G D s v u hA R hv hu
  apply VR.isTE R hv;intro a ws _ hT hr
  apply VR.intE hu;intro tk
  exact SeqAt.RcNeAt.tuple_int k tk hT hA.line0 C.prog C.w _ _ (PostC.now R (.bool _) q)
 | @lst n xs ys a b h=>
  intro A G D s v u hA R hv hu
  apply Has.isListE (Has.lst xs:Has σ _ _ _) R hv;intro a ws k' ho hr
  apply VR.intE hu;intro tk
  exact SeqAt.RcNeAt.list_int k tk ⟨_,ho,rfl,k',rfl⟩ hA.line0 C.prog C.w _ _ (PostC.now R (.bool _) q)
 |ref ha a b h=>
  intro A G D s v u hA R hv hu
  obtain⟨o,ha⟩:=ha
  apply Has.isListE (Has.refL ha) R hv;intro a ws k' ho hr
  apply VR.intE hu;intro tk
  exact SeqAt.RcNeAt.list_int k tk ⟨_,ho,rfl,k',rfl⟩ hA.line0 C.prog C.w _ _ (PostC.now R (.bool _) q)
end
end
section
noncomputable abbrev K1(C:Cx):W.Frag:=Tp.K C.w.params
structure G1(C:Cx):Prop where
 kin:(K1 C).In C.base
 bi:∀x:Str,x≠"__name__"->C.mb x=bootBuiltins x
 ns:z0K C
section
variable {C:Cx}
theorem glF(H:G1 C){x:Str}{v:Value}{X:V}(e:W.nsIn (K1 C) mainGlobals x=some (some v))(hv:VR C.w (λ_=>none) v X):z0f C x X:=⟨v,hv,.inl (W.mg_of H.kin C.hg e)⟩
theorem glB(H:G1 C){x:Str}{v:Value}{X:V}(e:W.nsIn (K1 C) mainGlobals x=some none)(hb:bootBuiltins x=some v)(hv:VR C.w (λ_=>none) v X)(hn:x≠"__name__":=by decide+kernel):z0f C x X:=
 ⟨v,hv,.inr ⟨W.mg_none_of H.kin C.hg e,(H.bi x hn).trans hb⟩⟩
end
section
variable {C:Cx}
theorem z0k(H:G1 C):z0f C "isinstance" (.bi "isinstance"):=glB H (by rfl) (by decide+kernel) (.bi _)
theorem z5o(H:G1 C):z0f C "str" (.type "str"):=glB H (by rfl) (by decide+kernel) (.type _)
theorem z0Q(H:G1 C):z0f C "len" (.bi "len"):=glB H (by rfl) (by decide+kernel) (.bi _)
theorem z5e(H:G1 C):z0f C "MOST_LETTERS" (.int 8):=glF H (by rfl) (.int _ _)
theorem y0A(H:G1 C):z0f C "all" (.bi "all"):=glB H (by rfl) (by decide+kernel) (.bi _)
theorem z9W(H:G1 C):z0f C "LETTERS" (.str "abcdefghijklmnopqrstuvwxyz"):=glF H (by rfl) (.str _ _)
theorem z84(H:G1 C):z0f C "int" (.type "int"):=glB H (by rfl) (by decide+kernel) (.type _)
theorem z3p(H:G1 C):z0f C "bool" (.type "bool"):=glB H (by rfl) (by decide+kernel) (.type _)
theorem z8n(H:G1 C):z0f C "MOST_MAKE" (.int 999):=glF H (by rfl) (.int _ _)
theorem z1h(H:G1 C):z0f C "tuple" (.type "tuple"):=glB H (by rfl) (by decide+kernel) (.type _)
theorem z1G(H:G1 C):z0f C "is_ware" (.ref 128):=glF H (by rfl) (.ref _)
theorem z2b(H:G1 C):z0f C "is_make" (.ref 135):=glF H (by rfl) (.ref _)
theorem z0T(H:G1 C):z0f C "list" (.type "list"):=glB H (by rfl) (by decide+kernel) (.type _)
theorem z5z(H:G1 C):z0f C "MOST_WISHES" (.int 8):=glF H (by rfl) (.int _ _)
theorem y0a(H:G1 C):z0f C "BadWish" (.ref 109):=glF H (by rfl) (.ref _)
theorem z55(H:G1 C):z0f C "is_need" (.ref 142):=glF H (by rfl) (.ref _)
theorem z95(H:G1 C):z0f C "BadPick" (.ref 121):=glF H (by rfl) (.ref _)
theorem z76(H:G1 C):z0f C "is_number" (.ref 168):=glF H (by rfl) (.ref _)
theorem z6t(H:G1 C):z0f C "is_granted" (.ref 182):=glF H (by rfl) (.ref _)
theorem z5n(H:G1 C):z0f C "reversed" (.type "reversed"):=glB H (by rfl) (by decide+kernel) (.type _)
theorem z40(H:G1 C):z0f C "within" (.ref 149):=glF H (by rfl) (.ref _)
theorem y1H(H:G1 C):z0f C "zip" (.type "zip"):=glB H (by rfl) (by decide+kernel) (.type _)
theorem z4g(H:G1 C):z0f C "left_by" (.ref 194):=glF H (by rfl) (.ref _)
theorem z2q(H:G1 C):z0f C "is_branch_row" (.ref 201):=glF H (by rfl) (.ref _)
theorem z2S(H:G1 C):z0f C "dict" (.type "dict"):=glB H (by rfl) (by decide+kernel) (.type _)
theorem z3o(H:G1 C):z0f C "holds_by" (.ref 206):=glF H (by rfl) (.ref _)
theorem z2g(H:G1 C):z0f C "stretch_of" (.ref 189):=glF H (by rfl) (.ref _)
theorem z4q(H:G1 C):z0f C "need_wish" (.ref 154):=glF H (by rfl) (.ref _)
theorem z7c(H:G1 C):z0f C "granted_of" (.ref 175):=glF H (by rfl) (.ref _)
theorem z2m(H:G1 C):z0f C "range" (.type "range"):=glB H (by rfl) (by decide+kernel) (.type _)
theorem z4D(H:G1 C):z0f C "enumerate" (.type "enumerate"):=glB H (by rfl) (by decide+kernel) (.type _)
theorem y3k(H:G1 C):z0f C "clash" (.ref 225):=glF H (by rfl) (.ref _)
theorem z7S(H:G1 C):z0f C "agenda_of" (.ref 161):=glF H (by rfl) (.ref _)
theorem z5A(H:G1 C):z0f C "sources_for" (.ref 218):=glF H (by rfl) (.ref _)
theorem z9R(H:G1 C):z0f C "outside" (.ref 232):=glF H (by rfl) (.ref _)
theorem z6c(H:G1 C):z0f C "settled" (.ref 237):=glF H (by rfl) (.ref _)
theorem z68(H:G1 C):z0f C "MOST_NEEDS" (.int 6):=glF H (by rfl) (.int _ _)
theorem z9F(H:G1 C):z0f C "BadNeed" (.ref 61):=glF H (by rfl) (.ref _)
theorem z6a(H:G1 C):z0f C "BadWare" (.ref 37):=glF H (by rfl) (.ref _)
theorem z9L(H:G1 C):z0f C "BadMake" (.ref 49):=glF H (by rfl) (.ref _)
theorem z6y(H:G1 C):z0f C "need_needs" (.ref 251):=glF H (by rfl) (.ref _)
theorem y3f(H:G1 C):z0f C "Twice" (.ref 73):=glF H (by rfl) (.ref _)
theorem z6C(H:G1 C):z0f C "MOST_WARES" (.int 12):=glF H (by rfl) (.int _ _)
theorem y4k(H:G1 C):z0f C "Full" (.ref 85):=glF H (by rfl) (.ref _)
theorem z6W(H:G1 C):z0f C "MOST_MAKES" (.int 8):=glF H (by rfl) (.int _ _)
theorem z8c(H:G1 C):z0f C "NoMake" (.ref 97):=glF H (by rfl) (.ref _)
theorem z2G(H:G1 C):z0f C "sorted" (.bi "sorted"):=glB H (by rfl) (by decide+kernel) (.bi _)
theorem z1A(H:G1 C):z0f C "_law_mixed" (.ref 321):=glF H (by rfl) (.ref _)
theorem y5I(H:G1 C):z0f C "min" (.bi "min"):=glB H (by rfl) (by decide+kernel) (.bi _)
theorem y3q(H:G1 C):z0f C "max" (.bi "max"):=glB H (by rfl) (by decide+kernel) (.bi _)
theorem z2Y(H:G1 C):z0f C "_law_stretch" (.ref 333):=glF H (by rfl) (.ref _)
theorem z3N(H:G1 C):z0f C "_law_names" (.ref 326):=glF H (by rfl) (.ref _)
theorem z6n(H:G1 C):z0f C "_law_needs" (.ref 338):=glF H (by rfl) (.ref _)
theorem y31(H:G1 C):z0f C "Shop" (.ref 310):=glF H (by rfl) (.ref _)
theorem z6K(H:G1 C):z0f C "_law_place" (.ref 364):=glF H (by rfl) (.ref _)
theorem z48(H:G1 C):z0f C "_law_granted" (.ref 371):=glF H (by rfl) (.ref _)
theorem z3b(H:G1 C):z0f C "_law_source" (.ref 378):=glF H (by rfl) (.ref _)
theorem z2n(H:G1 C):z0f C "_law_holds" (.ref 383):=glF H (by rfl) (.ref _)
theorem y1o(H:G1 C):z0f C "settle" (.ref 244):=glF H (by rfl) (.ref _)
theorem z5G(H:G1 C):z0f C "_law_truths" (.ref 404):=glF H (by rfl) (.ref _)
theorem z3B(H:G1 C):z0f C "_law_odd_source" (.ref 397):=glF H (by rfl) (.ref _)
theorem z3D(H:G1 C):z0f C "_law_other" (.ref 425):=glF H (by rfl) (.ref _)
theorem z2w(H:G1 C):z0f C "_law_other_branches" (.ref 418):=glF H (by rfl) (.ref _)
theorem z2O(H:G1 C):z0f C "_law_other_sources" (.ref 411):=glF H (by rfl) (.ref _)
theorem z4v(H:G1 C):z0f C "_law_copy" (.ref 430):=glF H (by rfl) (.ref _)
theorem z7m(H:G1 C):z0f C "holds" (.ref 213):=glF H (by rfl) (.ref _)
theorem z8h(H:G1 C):z0f C "_law_rows" (.ref 343):=glF H (by rfl) (.ref _)
theorem z75(H:G1 C):z0f C "_law_wish" (.ref 350):=glF H (by rfl) (.ref _)
theorem z71(H:G1 C):z0f C "_law_shop" (.ref 357):=glF H (by rfl) (.ref _)
theorem z7s(H:G1 C):z0f C "_law_told" (.ref 390):=glF H (by rfl) (.ref _)
theorem z5E(H:G1 C):z0f C "_law_spoilt" (.ref 447):=glF H (by rfl) (.ref _)
theorem z29(H:G1 C):z0f C "_law_shop_changed" (.ref 435):=glF H (by rfl) (.ref _)
theorem z6q(H:G1 C):z0f C "_law_there" (.ref 440):=glF H (by rfl) (.ref _)
theorem z9Z(H:G1 C):z0g C (.ref 128):=z0d H.kin rfl rfl
theorem z9U(H:G1 C):z0g C (.ref 135):=z0d H.kin rfl rfl
theorem z6m(H:G1 C):z0g C (.ref 142):=z0d H.kin rfl rfl
theorem z7K(H:G1 C):z0g C (.ref 149):=z0d H.kin rfl rfl
theorem z7U(H:G1 C):z0g C (.ref 154):=z0d H.kin rfl rfl
theorem z4s(H:G1 C):z0g C (.ref 161):=z0d H.kin rfl rfl
theorem z7H(H:G1 C):z0g C (.ref 168):=z0d H.kin rfl rfl
theorem z6w(H:G1 C):z0g C (.ref 175):=z0d H.kin rfl rfl
theorem z7i(H:G1 C):z0g C (.ref 182):=z0d H.kin rfl rfl
theorem z2j(H:G1 C):z0g C (.ref 189):=z0d H.kin rfl rfl
theorem z9G(H:G1 C):z0g C (.ref 194):=z0d H.kin rfl rfl
theorem z4E(H:G1 C):z0g C (.ref 201):=z0d H.kin rfl rfl
theorem z8P(H:G1 C):z0g C (.ref 206):=z0d H.kin rfl rfl
theorem z9p(H:G1 C):z0g C (.ref 213):=z0d H.kin rfl rfl
theorem z5H(H:G1 C):z0g C (.ref 218):=z0d H.kin rfl rfl
theorem y2H(H:G1 C):z0g C (.ref 225):=z0d H.kin rfl rfl
theorem y0e(H:G1 C):z0g C (.ref 232):=z0d H.kin rfl rfl
theorem z90(H:G1 C):z0g C (.ref 237):=z0d H.kin rfl rfl
theorem y1V(H:G1 C):z0g C (.ref 244):=z0d H.kin rfl rfl
theorem z6v(H:G1 C):z0g C (.ref 251):=z0d H.kin rfl rfl
theorem z4G(H:G1 C):z0g C (.ref 265):=z0d H.kin rfl rfl
theorem z49(H:G1 C):z0g C (.ref 272):=z0d H.kin rfl rfl
theorem z4W(H:G1 C):z0g C (.ref 279):=z0d H.kin rfl rfl
theorem z4y(H:G1 C):z0g C (.ref 286):=z0d H.kin rfl rfl
theorem z3E(H:G1 C):z0g C (.ref 293):=z0d H.kin rfl rfl
theorem z3W(H:G1 C):z0g C (.ref 300):=z0d H.kin rfl rfl
theorem z38(H:G1 C):z0g C (.ref 307):=z0d H.kin rfl rfl
theorem z6O(H:G1 C):z0g C (.ref 321):=z0d H.kin rfl rfl
theorem z7j(H:G1 C):z0g C (.ref 326):=z0d H.kin rfl rfl
theorem z5d(H:G1 C):z0g C (.ref 333):=z0d H.kin rfl rfl
theorem z6H(H:G1 C):z0g C (.ref 338):=z0d H.kin rfl rfl
theorem z7W(H:G1 C):z0g C (.ref 343):=z0d H.kin rfl rfl
theorem z74(H:G1 C):z0g C (.ref 350):=z0d H.kin rfl rfl
theorem z8j(H:G1 C):z0g C (.ref 357):=z0d H.kin rfl rfl
theorem z7b(H:G1 C):z0g C (.ref 364):=z0d H.kin rfl rfl
theorem z5i(H:G1 C):z0g C (.ref 371):=z0d H.kin rfl rfl
theorem z5y(H:G1 C):z0g C (.ref 378):=z0d H.kin rfl rfl
theorem z3A(H:G1 C):z0g C (.ref 383):=z0d H.kin rfl rfl
theorem z7x(H:G1 C):z0g C (.ref 390):=z0d H.kin rfl rfl
theorem z33(H:G1 C):z0g C (.ref 397):=z0d H.kin rfl rfl
theorem z5v(H:G1 C):z0g C (.ref 404):=z0d H.kin rfl rfl
theorem z2C(H:G1 C):z0g C (.ref 411):=z0d H.kin rfl rfl
theorem z2y(H:G1 C):z0g C (.ref 418):=z0d H.kin rfl rfl
theorem z6p(H:G1 C):z0g C (.ref 425):=z0d H.kin rfl rfl
theorem z4z(H:G1 C):z0g C (.ref 430):=z0d H.kin rfl rfl
theorem z3a(H:G1 C):z0g C (.ref 435):=z0d H.kin rfl rfl
theorem z7k(H:G1 C):z0g C (.ref 440):=z0d H.kin rfl rfl
theorem z5F(H:G1 C):z0g C (.ref 447):=z0d H.kin rfl rfl
theorem y5n(H:G1 C):z0g C (.ref 452):=z0d H.kin rfl rfl
theorem y1P(H:G1 C):ClassAt C (K1 C) 310 265:=⟨H.kin,rfl,rfl,rfl,rfl⟩
theorem z8s(H:G1 C):MethAt C (K1 C) 310 "has" 272:=⟨H.kin,rfl,rfl,rfl,rfl,z49 H⟩
theorem z8x(H:G1 C):MethAt C (K1 C) 310 "put" 279:=⟨H.kin,rfl,rfl,rfl,rfl,z4W H⟩
theorem z7o(H:G1 C):MethAt C (K1 C) 310 "take" 286:=⟨H.kin,rfl,rfl,rfl,rfl,z4y H⟩
theorem z69(H:G1 C):MethAt C (K1 C) 310 "makes" 293:=⟨H.kin,rfl,rfl,rfl,rfl,z3E H⟩
theorem z6P(H:G1 C):MethAt C (K1 C) 310 "needs" 300:=⟨H.kin,rfl,rfl,rfl,rfl,z3W H⟩
theorem z66(H:G1 C):MethAt C (K1 C) 310 "wares" 307:=⟨H.kin,rfl,rfl,rfl,rfl,z38 H⟩
theorem z7z(H:G1 C):AttrAt C (K1 C) 310 "kept":=⟨H.kin,rfl,⟨_,rfl,rfl⟩,rfl⟩
theorem z7B(H:G1 C):StoreAt C (K1 C) 310 "kept":=⟨H.kin,rfl,rfl,rfl,rfl⟩
end
end
section
set_option tactic.hygienic true in
theorem z3O{a b:Int}(h:b.natAbs<2^63):IntMulOk a b:=by
 refine IntMulOk.of_right ?_
 unfold Builtin.Int.intBits
 have:=z8L (n:=b) (by lia)
 split
 ·lia
 ·rename_i h0
  have:b.natAbs.log2<63:=(Nat.log2_lt (by simpa using h0)).mpr h
  lia
section
variable {C:Cx} {d:Nat} {σ:Sto} {Q:V->Sto->Prop}
theorem z9Y{x:Str}{X:V}(h:X∈z1x x):∃c∈x.cps.toList,X= .str ⟨#[c]⟩:=by
 unfold z1x at h
 apply z0p h;intro c hc
 exact⟨c,hc,rfl⟩
theorem y0g(x:Str):(z1x x).length=x.length:=by simp[z1x,Str.length]
noncomputable def wareV:V->Bool
 | .str x=>decide (1<=x.length)&&(decide (x.length<=8)&&x.cps.toList.all z2Q)
 |_=>false
noncomputable def letV:V->V
 | .str x=> .bool (z2Q (x.cps.getD 0 0))
 |v=>v
theorem y0j(x:Str):(z1x x).map letV=(x.cps.toList.map z2Q).map V.bool:=by
 simp[z1x,letV]
theorem z5p{t:V}(h:tkB t .str=false):wareV t=false:=by cases t<;>first|rfl|exact tf h|exact ff h
theorem z5a{x:Str}(h:Ware x):wareV (.str x)=true:=by
 show(decide (1<=x.length)&&(decide (x.length<=8)&&x.cps.toList.all z2Q))=true
 rw[decide_eq_true h.lo,decide_eq_true h.hi,List.all_eq_true.mpr h.lt];rfl
theorem z3u{x:Str}(h:wareV (.str x)=true):Ware x:=by
 have h:(decide (1<=x.length)&&(decide (x.length<=8)&&x.cps.toList.all z2Q))=true:=h
 rw[Bool.and_eq_true,Bool.and_eq_true] at h
 exact⟨of_decide_eq_true h.1,of_decide_eq_true h.2.1,List.all_eq_true.mp h.2.2⟩
theorem Ware.asc{x:Str}(h:Ware x):Asc x:=⟨Nat.le_trans h.hi (by decide),λc hc=>by have:=h.lt c hc;simp[z2Q] at this;lia⟩
noncomputable def fnL:List Nat:=[128,135,142,149,154,161,168,175,182,189,194,201,206,213,218,225,232,237,244,251,265,272,279,286,293,300,307,321,326,333,338,343,350,357,364,371,378,383,390,397,404,411,418,425,430,435,440,447,452]
noncomputable def mtL:List (Nat×Str×Nat):=[(310,"has",272),(310,"put",279),(310,"take",286),(310,"makes",293),(310,"needs",300),(310,"wares",307)]
theorem z0l(H:G1 C):∀a∈fnL,z0g C (.ref a):=(List.forall_mem_cons.mpr ⟨z9Z H,(List.forall_mem_cons.mpr ⟨z9U H,(List.forall_mem_cons.mpr ⟨z6m H,(List.forall_mem_cons.mpr ⟨z7K H,(List.forall_mem_cons.mpr ⟨z7U H,(List.forall_mem_cons.mpr ⟨z4s H,(List.forall_mem_cons.mpr ⟨z7H H,(List.forall_mem_cons.mpr ⟨z6w H,(List.forall_mem_cons.mpr ⟨z7i H,(List.forall_mem_cons.mpr ⟨z2j H,(List.forall_mem_cons.mpr ⟨z9G H,(List.forall_mem_cons.mpr ⟨z4E H,(List.forall_mem_cons.mpr ⟨z8P H,(List.forall_mem_cons.mpr ⟨z9p H,(List.forall_mem_cons.mpr ⟨z5H H,(List.forall_mem_cons.mpr ⟨y2H H,(List.forall_mem_cons.mpr ⟨y0e H,(List.forall_mem_cons.mpr ⟨z90 H,(List.forall_mem_cons.mpr ⟨y1V H,(List.forall_mem_cons.mpr ⟨z6v H,(List.forall_mem_cons.mpr ⟨z4G H,(List.forall_mem_cons.mpr ⟨z49 H,(List.forall_mem_cons.mpr ⟨z4W H,(List.forall_mem_cons.mpr ⟨z4y H,(List.forall_mem_cons.mpr ⟨z3E H,(List.forall_mem_cons.mpr ⟨z3W H,(List.forall_mem_cons.mpr ⟨z38 H,(List.forall_mem_cons.mpr ⟨z6O H,(List.forall_mem_cons.mpr ⟨z7j H,(List.forall_mem_cons.mpr ⟨z5d H,(List.forall_mem_cons.mpr ⟨z6H H,(List.forall_mem_cons.mpr ⟨z7W H,(List.forall_mem_cons.mpr ⟨z74 H,(List.forall_mem_cons.mpr ⟨z8j H,(List.forall_mem_cons.mpr ⟨z7b H,(List.forall_mem_cons.mpr ⟨z5i H,(List.forall_mem_cons.mpr ⟨z5y H,(List.forall_mem_cons.mpr ⟨z3A H,(List.forall_mem_cons.mpr ⟨z7x H,(List.forall_mem_cons.mpr ⟨z33 H,(List.forall_mem_cons.mpr ⟨z5v H,(List.forall_mem_cons.mpr ⟨z2C H,(List.forall_mem_cons.mpr ⟨z2y H,(List.forall_mem_cons.mpr ⟨z6p H,(List.forall_mem_cons.mpr ⟨z4z H,(List.forall_mem_cons.mpr ⟨z3a H,(List.forall_mem_cons.mpr ⟨z7k H,(List.forall_mem_cons.mpr ⟨z5F H,(List.forall_mem_cons.mpr ⟨y5n H,(λ_ h=>by cases h)⟩)⟩)⟩)⟩)⟩)⟩)⟩)⟩)⟩)⟩)⟩)⟩)⟩)⟩)⟩)⟩)⟩)⟩)⟩)⟩)⟩)⟩)⟩)⟩)⟩)⟩)⟩)⟩)⟩)⟩)⟩)⟩)⟩)⟩)⟩)⟩)⟩)⟩)⟩)⟩)⟩)⟩)⟩)⟩)⟩)⟩)⟩)⟩)⟩)
noncomputable def atL:List (Nat×Str):=[(310,"kept")]
theorem z0m(H:G1 C):(∀q∈mtL,∃K,MethAt C K q.1 q.2.1 q.2.2)/\∀q∈atL,∃K,AttrAt C K q.1 q.2:=⟨(List.forall_mem_cons.mpr ⟨⟨_,z8s H⟩,(List.forall_mem_cons.mpr ⟨⟨_,z8x H⟩,(List.forall_mem_cons.mpr ⟨⟨_,z7o H⟩,(List.forall_mem_cons.mpr ⟨⟨_,z69 H⟩,(List.forall_mem_cons.mpr ⟨⟨_,z6P H⟩,(List.forall_mem_cons.mpr ⟨⟨_,z66 H⟩,(λ_ h=>by cases h)⟩)⟩)⟩)⟩)⟩)⟩),(List.forall_mem_cons.mpr ⟨⟨_,z7z H⟩,(λ_ h=>by cases h)⟩)⟩
noncomputable def z4m(r1:Expr):TC:=⟨[.loc 0,.isi .str,.tvalc,.not,.mop .Or [.psh (.int 1),.loc 0,.len,.tcm2 .LtE [.psh (.int 8),.tcmpc .LtE],.not,.mop .Or [.psh (.bool false)]],.ife [.psh (.bool false),.ret] [],.raw r1,.call (.bi "all") 1,.ret],[.inr r1],[([1],some [1])]⟩
--z4m 1
noncomputable def t_is_make:TC:=⟨[.loc 0,.isi .int,.vop .And [.loc 0,.isi .bool,.una .Not,.vop .And [.psh (.int 1),.loc 0,.cm2 .LtE [.psh (.int 999),.cmpc .LtE]]],.ret],[],[]⟩
--t_is_make 0
noncomputable def t_is_need:TC:=⟨[.loc 0,.isi .tup,.tvalc,.not,.mop .Or [.loc 0,.len,.psh (.int 3),.tcmpc .NotEq,.mop .Or [.psh (.bool false)]],.ife [.psh (.bool false),.ret] [],.loc 0,.subT 0,.call (.ref 128) 1,.vop .And [.loc 0,.subT 1,.call (.ref 135) 1,.vop .And [.loc 0,.subT 2,.call (.ref 135) 1,.vop .And [.loc 0,.subT 1,.loc 0,.subT 2,.cmpc .LtE]]],.ret],[],[]⟩
--t_is_need 0
noncomputable def t__law_mixed:TC:=⟨[.psh (.int 0),.asg 2,.cut [.loc 0,.len,.psh (.int 0),.tcmpc .Gt,.ife [.loc 0,.loc 1,.loc 0,.len,.binc .Mod,.sub,.asg 2] []],.loc 2,.psh (.int 7919),.loc 1,.binc .Mult,.binc .Add,.psh (.int 48271),.binc .Mult,.psh (.int 2147483647),.binc .Mod,.asg 3,.loc 3,.psh (.int 16807),.loc 1,.loc 1,.binc .Mult,.binc .Add,.binc .Mult,.psh (.int 2147483629),.binc .Mod,.ret],[],[]⟩
--t__law_mixed 0
theorem z0N{v t:V}{n:Nat}{k:TK}{b:Bool}(h:Dn σ n v t)(hb:tkB t k=b)(q:Q (.bool b) σ):cQ ((y2G v k).map .bool) σ Q (KW C d (.bi "isinstance") [v,.type k.n] σ Q):=by
 subst hb
 cases h with
 |dict ha=>exact⟨y4j (n:=0) (.dict ha) q⟩
 |ref ha a b c=>exact⟨y4j (.ref ha a b c) q⟩
 |none=>exact q
 |bool b=>exact q
 |int i=>exact q
 |str x hx=>exact q
 |tup a b c=>exact q
 |lst a b c=>exact q
inductive StrSh(σ:Sto):V->V->Prop
 |no {n:Nat} {v t:V}:Dn σ n v t->tkB t .str=false->StrSh σ v t
 |str {x:Str}:Asc x->StrSh σ (.str x) (.str x)
theorem Dn.ssh{v t:V}{n:Nat}(h:Dn σ n v t):StrSh σ v t:=by
 cases hk:tkB t .str with
 |false=>exact .no h hk
 |true=>obtain⟨x,rfl,rfl,hx⟩:=h.strI hk;exact .str hx
inductive IntSh(σ:Sto):V->V->Prop
 |no {n:Nat} {v t:V}:Dn σ n v t->tkB t .int=false->IntSh σ v t
 |bool {b:Bool}:IntSh σ (.bool b) (.bool b)
 |int {i:Int}:IntSh σ (.int i) (.int i)
theorem Dn.ish{v t:V}{n:Nat}(h:Dn σ n v t):IntSh σ v t:=by
 cases hk:tkB t .int with
 |false=>exact .no h hk
 |true=>cases h<;>first|exact .bool|exact .int|cases hk
theorem z10(H:G1 C){v t:V}{n:Nat}(h:Dn σ n v t)(q:Q (.bool (wareV t)) σ):CW C (d+1) (.ref 128) [v] σ Q:=by
 refine z0G (G1.kin (by assumption)) ["thing"] [("isinstance",.bi "isinstance"),("str",.type "str"),("len",.bi "len"),("MOST_LETTERS",.int 8),("all",.bi "all")] (by kernel_rfl) (vs1 λ_=>by kernel_rfl) rfl (z0a (z0k (by assumption)) (z0a (z5o (by assumption)) (z0a (z0Q (by assumption)) (z0a (z5e (by assumption)) (z0a (y0A (by assumption)) GL_nil))))) ?_
 intro env hsc
 cases h.ssh with
 |no h hk=>
  rw[z5p hk] at q
  refine z0e (z0l H) (z0m H) (z4m _) (by exact rfl) (by kernel_rfl) ?_
  intro F m0
  exact z0N h hk q
 | @str x hx=>
  have hxs:x.length<=sizeLine:=z0t (Nat.le_trans hx.1 (by decide))
  refine z0e (z0l H) (z0m H) (z4m _) (by exact rfl) (by kernel_rfl) ?_
  intro F m0
  refine Leaf.mk (y1i hxs ?_)
  have q:Q (.bool (decide (1<=x.length)&&(decide (x.length<=8)&&x.cps.toList.all z2Q))) σ:=q
  refine z0o (λh1=> ?_) λh1=> ?_
  rotate_left
  ·exact qB q (by rw[decide_eq_false (λh=>of_decide_eq_false h1 (Int.ofNat_le.mpr h))];rfl)
  refine z0o (λh8=> ?_) λh8=> ?_
  ·exact qB q (by rw[decide_eq_false (λh=>of_decide_eq_false ((Bool.not_eq_true' _).mp h8) (Int.ofNat_le.mpr h)),Bool.false_and,Bool.and_false])
  have e1:decide (1<=x.length)=true:=decide_eq_true (Int.ofNat_le.mp (of_decide_eq_true h1))
  have e2:decide (x.length<=8)=true:=decide_eq_true (Int.ofNat_le.mp (of_decide_eq_true ((Bool.not_eq_false' _).mp h8)))
  have q:=qB q (show _=x.cps.toList.all z2Q by rw[e1,e2];rfl)
  clear e1 e2 h1 h8
  refine Leaf.mk ?_
  show AT C env ["thing"] _ true _ (eval _ env) [some (.str x)] _ _
  refine z1u "sign" [] [("LETTERS",.str "abcdefghijklmnopqrstuvwxyz")] (by rw[hsc];kernel_rfl) (z0a (z9W H) GL_nil) .nil (y4x (z0n ⟨x,rfl,by rw[y0g];exact hxs,λenv' he=>z2a (f:=letV) (z0u he (by decide+kernel)) trivial _ _ _ (λX hX K hK=> ?_) ?_⟩))
  ·obtain⟨c,hc,rfl⟩:=z9Y hX
   repeat' with_reducible first|refine z0n ?_|refine z1s ?_|refine z6o ?_|refine y4X ?_
   rw[let_small c (hx.2 c hc)];exact hK
  ·rw[List.nil_append,y0j]
   refine Leaf.mk (y2j (.lst _) ?_)
   exact qB q (by rw[List.all_map];rfl)
theorem z20(H:G1 C){x:Str}(h:Ware x)(q:Q (.bool true) σ):CW C (d+1) (.ref 128) [.str x] σ Q:=z10 H (n:=0) (.str x h.asc) (by rw[z5a h];exact q)
noncomputable def makeV:V->Bool
 | .int i=>decide (1<=i)&&decide (i<=999)
 |_=>false
theorem y1w{t:V}(h:tkB t .int=false):makeV t=false:=by cases t<;>first|rfl|exact tf h|exact ff h
set_option tactic.hygienic true in
theorem z5Y{t:V}(h:makeV t=true):∃i,t= .int i/\1<=i/\i<=999:=by
 cases t<;>first|(cases h;done)|skip
 rename_i i
 have h:(decide (1<=i)&&decide (i<=999))=true:=h
 rw[Bool.and_eq_true] at h
 exact⟨i,rfl,of_decide_eq_true h.1,of_decide_eq_true h.2⟩
theorem z3s(H:G1 C){v t:V}{n:Nat}(h:Dn σ n v t)(q:Q (.bool (makeV t)) σ):CW C (d+1) (.ref 135) [v] σ Q:=by
 refine z0G (G1.kin (by assumption)) ["thing"] [("isinstance",.bi "isinstance"),("int",.type "int"),("bool",.type "bool"),("MOST_MAKE",.int 999)] (by kernel_rfl) (vs1 λ_=>by kernel_rfl) rfl (z0a (z0k (by assumption)) (z0a (z84 (by assumption)) (z0a (z3p (by assumption)) (z0a (z8n (by assumption)) GL_nil)))) ?_
 intro env hsc
 clear hsc
 refine z0e (z0l H) (z0m H) t_is_make rfl (by kernel_rfl) ?_
 intro F m0
 cases h.ish with
 |no h hk=>exact z0N h hk (qB q (y1w hk))
 |bool=>exact⟨z27 z1N q⟩
 | @int i=>
  refine Leaf.mk (z27 z1N ?_)
  have q:Q (.bool (decide (1<=i)&&decide (i<=999))) σ:=q
  exact z0o (λh=>qB q (by rw[h];rfl)) λh=>qB q (by rw[h];rfl)
theorem z21(H:G1 C){i:Int}(h1:1<=i)(h2:i<=999)(q:Q (.bool true) σ):CW C (d+1) (.ref 135) [.int i] σ Q:=z3s H (n:=0) (.int i) (qB q (by show true=(decide (1<=i)&&decide (i<=999));rw[decide_eq_true h1,decide_eq_true h2];rfl))
noncomputable def z0h(n:Str×Int×Int):V:= .tup [.str n.1,.int n.2.1,.int n.2.2]
structure NeedOk(n:Str×Int×Int):Prop where
 w:Ware n.1
 lo:1<=n.2.1
 le:n.2.1<=n.2.2
 hi:n.2.2<=999
theorem z6b(H:G1 C){n:Str×Int×Int}(h:NeedOk n)(q:Q (.bool true) σ):CW C (d+2) (.ref 142) [z0h n] σ Q:=by
 refine z0G (G1.kin (by assumption)) ["thing"] [("isinstance",.bi "isinstance"),("tuple",.type "tuple"),("len",.bi "len"),("is_ware",.ref 128),("is_make",.ref 135)] (by kernel_rfl) (vs1 λ_=>by kernel_rfl) rfl (z0a (z0k (by assumption)) (z0a (z1h (by assumption)) (z0a (z0Q (by assumption)) (z0a (z1G (by assumption)) (z0a (z2b (by assumption)) GL_nil))))) ?_
 intro env hsc
 clear hsc
 refine z0e (z0l H) (z0m H) t_is_need rfl (by kernel_rfl) ?_
 intro F m0
 refine Leaf.mk (fnc (z20 H h.w ?_))
 refine Leaf.mk (fnc (z21 H h.lo (Int.le_trans h.le h.hi) ?_))
 refine Leaf.mk (fnc (z21 H (Int.le_trans h.lo h.le) h.hi ?_))
 exact qB q (decide_eq_true h.le).symm
theorem z0E(H:G1 C){xs:List Int}{k:Int}(hx:xs.length<=100)(h0:0<=k)(hk:k<1000)(q:∀n:Int,0<=n->n<2147483629->Q (.int n) σ):CW C (d+1) (.ref 321) [.lst (xs.map V.int),.int k] σ Q:=by
 obtain⟨k,rfl⟩:=Int.eq_ofNat_of_zero_le h0
 have hk:k<1000:=Int.ofNat_lt.mp hk
 refine z0G (G1.kin (by assumption)) ["_law_script","_law_k","_law_cell","_law_number"] [("len",.bi "len")] (by kernel_rfl) (vs2 λ_ _=>by kernel_rfl) rfl (z0a (z0Q (by assumption)) GL_nil) ?_
 intro env hsc
 clear hsc
 have hz:(xs.map V.int).length=xs.length:=List.length_map _
 have hl:(xs.map V.int).length<=sizeLine:=z0z hx (by decide)
 have hk2:k*k<1000*1000:=Nat.mul_lt_mul'' hk hk
 have o1:IntMulOk (7919:Int) (k:Int):=IntMulOk.of_left (by with_unfolding_all decide)
 have o2:∀a:Int,IntMulOk a 48271:=λa=>z3O (by decide)
 have o3:IntMulOk (k:Int) (k:Int):=z3O (by lia)
 have o4:∀a:Int,IntMulOk a (16807+(k:Int)*(k:Int)):=λa=>z3O (show(16807+((k*k:Nat):Int)).natAbs<2^63 by lia)
 have hq:∀a:Int,Q (.int (a.fmod 2147483629)) σ:=λa=>q _ (Int.fmod_nonneg_of_pos _ (by decide)) (Int.fmod_lt_of_pos _ (by decide))
 clear q hk2
 refine z0e (z0l H) (z0m H) t__law_mixed rfl (by kernel_rfl) ?_
 intro F m0
 refine z3m (α:=Int) (λ_=>True) (λc=>[some (.lst (xs.map V.int)),some (.int (k:Int)),some (.int c),none]) σ (λK hK _=> ?_) λc _=> ?_
 ·clear hq o1 o2 o3 o4
  refine Leaf.mk (z0L (.lst _) hz hl ?_)
  refine z0o (λh0=> ?_) λh0=> ?_
  ·have h0:=Int.ofNat_lt.mp (of_decide_eq_true h0)
   refine Leaf.mk (z0L (.lst _) hz hl ?_)
   refine z09 h0 λj hj=> ?_
   refine Leaf.mk (z04 (.lst _) (Nat.lt_of_lt_of_le hj (Nat.le_trans hx (by decide))) (z1y (List.getElem?_eq_getElem hj)) ?_)
   exact hK _ trivial
  ·exact hK 0 trivial
 refine Leaf.mk (z3Y ?_ o1)
 refine Leaf.mk (z3Y ?_ (o2 _))
 refine Leaf.mk (z3Y ?_ o3)
 refine Leaf.mk (z3Y ?_ (o4 _))
 exact hq _
end
end
section
section
variable {C:Cx} {d:Nat} {σ:Sto} {Q:V->Sto->Prop}
theorem y2l{a b x:Int}(q:∀i,(i=a∨i=b)->Q (.int i) σ):SubR C d (.lst [.int a,.int b]) (.int (x.fmod 2)) σ Q:=
 y5v (Int.fmod_nonneg_of_pos _ (by decide)) (Int.fmod_lt_of_pos _ (by decide)) (q a (.inl rfl)) (q b (.inr rfl))
noncomputable def z6N(a:Int):Nat:=(("abcdefghijklmnopqrstuvwxyz":Str).cps[(a.fmod 26).toNat]?).getD 0
theorem z31(a:Int):("abcdefghijklmnopqrstuvwxyz":Str).cps[(a.fmod 26).toNat]? =some (z6N a)/\z2Q (z6N a)=true:=by
 obtain⟨c,hc,hb⟩:=z8R (Int.fmod_nonneg_of_pos a (by decide:(0:Int)<26)) (Int.fmod_lt_of_pos a (by decide))
 unfold z6N
 rw[hc];exact⟨rfl,hb⟩
theorem let_inj:∀i<26,∀j<26,("abcdefghijklmnopqrstuvwxyz":Str).cps[i]? =("abcdefghijklmnopqrstuvwxyz":Str).cps[j]?->i=j:=by decide+kernel
theorem y0x{a b:Int}(h:z6N a=z6N b):a.fmod 26=b.fmod 26:=by
 have a0:=Int.fmod_nonneg_of_pos a (show(0:Int)<26 by decide)
 have a1:=Int.fmod_lt_of_pos a (show(0:Int)<26 by decide)
 have b0:=Int.fmod_nonneg_of_pos b (show(0:Int)<26 by decide)
 have b1:=Int.fmod_lt_of_pos b (show(0:Int)<26 by decide)
 have:=let_inj (a.fmod 26).toNat (by lia) (b.fmod 26).toNat (by lia) (by rw[(z31 a).1,(z31 b).1,h])
 lia
theorem z50{a:Int}{K:V->Sto->Prop}(q:K (.str ⟨#[z6N a]⟩) σ):SubR C d (.str "abcdefghijklmnopqrstuvwxyz") (.int (a.fmod 26)) σ K:=by
 have h0:0<=a.fmod 26:=Int.fmod_nonneg_of_pos _ (by decide)
 have h9:a.fmod 26<26:=Int.fmod_lt_of_pos _ (by decide)
 exact y5C h0 (by lia) (z31 a).1 q
theorem y0M{N st:Int}{i j:Nat}(hs:st=3∨st=23)(hi:i<20)(hj:j<20)(h:(N+st*(i:Int)).fmod 26=(N+st*(j:Int)).fmod 26):i=j:=by
 rw[Int.fmod_eq_emod_of_nonneg _ (by decide),Int.fmod_eq_emod_of_nonneg _ (by decide)] at h
 rcases hs with rfl|rfl<;>lia
theorem y2Y{x y:Str}{a b:Nat}(h:x++⟨#[a]⟩++y=x++⟨#[b]⟩++y):a=b:=by
 have h':(x.cps++ #[a]++y.cps).toList=(x.cps++ #[b]++y.cps).toList:=congrArg (λs:Str=>s.cps.toList) h
 simp only[Array.toList_append] at h'
 have:=List.append_cancel_left (List.append_cancel_right h')
 simpa using this
theorem z1M{α:Type}{f:Nat->α}{n:Nat}(h:∀i j,i<n->j<n->f i=f j->i=j):((List.range n).map f).Nodup:=by
 refine List.nodup_iff_pairwise_ne.mpr (List.pairwise_map.mpr ?_)
 refine List.Pairwise.imp_of_mem ?_ List.nodup_range
 intro a b ha hb hne e
 exact hne (h a b (List.mem_range.mp ha) (List.mem_range.mp hb) e)
theorem y0k{xs:List V}{k:Int}(hk:k=1∨k= -1)(h:xs.Nodup):(slL xs none none (some k)).Nodup:=by
 unfold slL
 refine List.nodup_iff_pairwise_ne.mpr (List.pairwise_filterMap.mpr ?_)
 have key:∀l:List Nat,l.Nodup->l.Pairwise λi j=>∀b,xs[i]? =some b->∀b',xs[j]? =some b'->b≠b':=λl hl=>by
  refine hl.imp λ{i j} hne b hb b' hb' e=>hne ?_
  subst e
  obtain⟨h1,e1⟩:=List.getElem?_eq_some_iff.mp hb
  obtain⟨h2,e2⟩:=List.getElem?_eq_some_iff.mp hb'
  exact(List.getElem_inj (h₀:=h1) (h₁:=h2) h).mp (e1.trans e2.symm)
 refine key _ ?_
 rcases hk with rfl|rfl
 ·show(sliceRange ((0:Nat):Int) (xs.length:Int) 1).Nodup
  rw[sr1 (Nat.zero_le _)]
  exact z1M λi j _ _ e=>by rw[Nat.zero_add,Nat.zero_add] at e;exact e
 ·show(sliceRange ((xs.length:Int)-1) (-1) (-1)).Nodup
  rw[srm]
  exact z1M λi j hi hj e=>by lia
noncomputable def swB(sc cs:Scope)(t:Str)(l1 l2:Nat):Bool:=(if sc.kind.isAnnotationScope then ScopeKind.function else sc.kind)== .function&&sc.names.lookup t==some .local&&l1==l2&& !(cs.names.any λ(n,k)=>n==t&&(k== .local||k== .cell))
theorem z11{env:Env}{elt:Expr}{gens:List Comprehension}{cs:Scope}{pos p':Pos}{t:Str}{l:Nat}{b:Bool}(h:swB env.scope cs t p'.line pos.line=b):swapsWith (.ListComp elt gens cs pos) (some (.Name t p')) l env=pure b:=by
 rw[<-h];rfl
theorem y4h{ws:List Str}{i:Int}(hi:i=1∨i= -1)(hw:∀w∈ws,Ware w)(hn:ws.Nodup):∃ws':List Str,slL (ws.map V.str) none none (some i)=ws'.map V.str/\ws'.length=ws.length/\(∀w∈ws',Ware w)/\ws'.Nodup:=by
 obtain⟨ws',e,h⟩:=z7f (P:=Ware) (ys:=slL (ws.map V.str) none none (some i)) λy hy=>by
  apply z0p (z2p y hy);intro w hm
  exact⟨w,rfl,hw w hm⟩
 have hnv:(ws.map V.str).Nodup:=List.nodup_iff_pairwise_ne.mpr (List.pairwise_map.mpr ((List.nodup_iff_pairwise_ne.mp hn).imp λhne e=>hne (by injection e)))
 have hs:=y0k hi hnv
 rw[e] at hs
 refine⟨ws',e,?_,h,?_⟩
 ·have:=y0K (xs:=ws.map V.str) hi
  rw[e] at this
  simpa using this
 ·exact List.nodup_iff_pairwise_ne.mpr ((List.pairwise_map.mp (List.nodup_iff_pairwise_ne.mp hs)).imp λhne e=>hne (by rw[e]))
theorem let_len:("abcdefghijklmnopqrstuvwxyz":Str).length=26:=by decide+kernel
noncomputable def y5D(B:Str):V->V
 | .int i=> .str (Txt.slice B none (some (1+i)))
 |v=>v
noncomputable def z3M(r1:Expr)(r2:Stmt):TC:=⟨[.psh (.str "abcdefghijklmnopqrstuvwxyz"),.asg 2,.loc 0,.psh (.int 1),.call (.ref 321) 2,.asg 3,.psh (.int 3),.psh (.int 23),.lst 2,.loc 3,.psh (.int 2),.binc .Mod,.sub,.asg 4,.psh (.str ""),.mty "str",.raw r1,.meth (.bi "str.join") 1,.asg 5,.cut [.loc 3,.psh (.int 56),.binc .FloorDiv,.loc 5,.len,.psh (.int 1),.binc .Add,.binc .Mod,.asg 6],.asgL 7,.loc 1,.forR 8 [.loc 2,.loc 3,.psh (.int 504),.binc .FloorDiv,.loc 4,.loc 8,.binc .Mult,.binc .Add,.psh (.int 26),.binc .Mod,.sub,.asg 9,.loc 7,.mty "list",.loc 5,.psh .none,.loc 6,.psh .none,.slc,.sub,.loc 9,.binc .Add,.loc 5,.loc 6,.psh .none,.psh .none,.slc,.sub,.binc .Add,.meth (.bi "list.append") 1,.pop],.cut [.loc 3,.psh (.int 16),.binc .FloorDiv,.psh (.int 3),.binc .Mod,.psh (.int 1),.tcmpc .Eq,.mop .And [.loc 1,.psh (.int 9),.tcmpc .Lt,.mop .And [.psh (.bool true)]],.ife [.rawS r2] []],.loc 7,.psh .none,.psh .none,.psh (.int 1),.psh (.int 1),.una .USub,.lst 2,.loc 3,.psh (.int 48),.binc .FloorDiv,.psh (.int 2),.binc .Mod,.sub,.slc,.sub,.ret],[.inr r1,.inl r2],[([3],some [1]),([7,0,0],none)]⟩
--z3M 2
theorem y4n{P:Int->Prop}{a:Int}{n:Nat}(h:0<n)(q:∀k:Nat,k<n->P (k:Int)):P (a.fmod (n:Int)):=by
 have hp:(0:Int)<(n:Int):=Int.ofNat_lt.mpr h
 obtain⟨k,e⟩:=Int.eq_ofNat_of_zero_le (Int.fmod_nonneg_of_pos a hp)
 rw[e]
 exact q k (Int.ofNat_lt.mp (e▸Int.fmod_lt_of_pos a hp))
inductive NmI(a0 a1 a2 a3 a4 a5 a6:V)(a:Addr)(G:Nat->Str)(σ:Sto)(i:Nat):Loc->Sto->Prop
 |mk {o:Obj} {k sg:Option V}:NmI a0 a1 a2 a3 a4 a5 a6 a G σ i [some a0,some a1,some a2,some a3,some a4,some a5,some a6,some (.ref a),k,sg] ((a,o,.list (((List.range i).map G).map V.str))::σ)
structure NmOk(n:Nat)(ws:List Str):Prop where
 l:ws.length=n
 w:∀w∈ws,Ware w
 d:ws.Nodup
set_option tactic.hygienic true in
theorem z3Q(H:G1 C){xs:List Int}{n:Nat}(hx:xs.length<=100)(h1:n<=20)(q:∀ws:List Str,ws.length=n->(∀w∈ws,Ware w)->ws.Nodup->Q (.lst (ws.map V.str)) σ):
  CW C (d+2) (.ref 326) [.lst (xs.map V.int),.int (n:Int)] σ Q:=by
 have h1k:n<=1000:=Nat.le_trans h1 (by decide)
 refine z03 ?_
 refine z0G (G1.kin (by assumption)) ["_law_script","_law_many","_law_letters","_law_number","_law_step","_law_frame","_law_at","_law_names_here","_law_k","_law_sign"] [("_law_mixed",.ref 321),("range",.type "range"),("len",.bi "len")] (by kernel_rfl) (vs2 λ_ _=>by kernel_rfl) rfl (z0a (z1A (by assumption)) (z0a (z2m (by assumption)) (z0a (z0Q (by assumption)) GL_nil))) ?_
 intro env hsc
 refine z0e (z0l H) (z0m H) (z3M _ _) (by exact rfl) (by kernel_rfl) ?_
 intro F m0
 refine Leaf.mk (fnc (z0E H hx (by decide) (by decide) λN b0 b1=> ?_))
 clear b0 b1
 refine Leaf.mk (y2l λstep hstep=> ?_)
 repeat' first|(with_reducible refine⟨y2o,?_⟩)|refine Leaf.mk ?_|fail
 show AT C env ["_law_script","_law_many","_law_letters","_law_number","_law_step","_law_frame","_law_at","_law_names_here","_law_k","_law_sign"] _ true _ (eval _ env) [some (.lst (xs.map V.int)),some (.int (n:Int)),some (.str "abcdefghijklmnopqrstuvwxyz"),some (.int N),some (.int step),none,none,none,none,none] _ _
 refine z1u "_law_j" ["_law_letters","_law_number"] [] (by rw[hsc];kernel_rfl) GL_nil (.cons LkC.lk (.cons LkC.lk .nil)) (z2L ?_)
 repeat' with_reducible first|refine z0n ?_|refine z1s ?_|refine z0O ?_|refine z0H ?_|refine z1L ?_|refine z0q ?_|refine z0v ?_|refine z57 ?_ (by with_unfolding_all decide)|refine z58 ?_ (by with_unfolding_all decide) (by with_unfolding_all decide)|refine z2T ?_|refine⟨z0R,?_⟩|fail
 obtain⟨c,hc⟩:=Int.eq_ofNat_of_zero_le (Int.fmod_nonneg_of_pos (N.fdiv 2) (show(0:Int)<8 by decide))
 have hc8:c<8:=Int.ofNat_lt.mp (hc▸Int.fmod_lt_of_pos (N.fdiv 2) (show(0:Int)<8 by decide))
 have hck:c<=1000:=Nat.le_trans (Nat.le_of_lt hc8) (by decide)
 rw[hc]
 clear hc
 refine⟨_,_,_,c,rfl,y0D hck,y1F c,z0t (by rw[z1D];exact Nat.le_trans hck (by decide)),λenv' he=>
  z8G (R:=λ_ Y=>∃c,Y= .str ⟨#[c]⟩/\z2Q c=true) (z0u he (by decide+kernel)) trivial _ _ _ (λX hX K hK=> ?_) (λys hl hys=> ?_)⟩
 ·obtain⟨i,_,rfl⟩:=z2e hX
  repeat' with_reducible first|refine z0n ?_|refine z0O ?_|refine z1i ?_|refine z1L ?_|refine z5X ?_|refine z57 ?_ (by with_unfolding_all decide)|refine z58 ?_ (by with_unfolding_all decide) (by with_unfolding_all decide)|refine z3Y ?_ (IntMulOk.of_left (by with_unfolding_all decide))|refine z50 ?_|fail
  exact hK _ ⟨_,rfl,(z31 _).2⟩
 obtain⟨ps,rfl,hps⟩:=z7f (P:=λp=>Lt p/\p.length=1) (ys:=ys) λy hy=>by
  obtain⟨_,_,c,rfl,hc⟩:=hys y hy
  exact⟨_,rfl,y0O hc,rfl⟩
 have hpl:ps.length<=7:=by rw[List.length_map,z1D] at hl;rw[hl];exact Nat.le_of_lt_succ hc8
 have hj:=y2A hps
 refine Leaf.mk (y3P (.lst _) (z6u (λp hp=>(hps p hp).2) (Nat.le_trans hpl (by decide))) ?_)
 generalize Txt.join "" ps=fr at hj⊢
 obtain⟨hj1,hj2⟩:=hj
 have hfl:fr.length<=7:=by rw[hj2];exact hpl
 have hfs:fr.length<=sizeLine:=z0t (Nat.le_trans hfl (by decide))
 clear hpl hps hl hys hj2
 refine z3m (α:=Nat) (λat_=>at_<fr.length+1) (λat_=>[some (.lst (xs.map V.int)),some (.int (n:Int)),some (.str "abcdefghijklmnopqrstuvwxyz"),some (.int N),some (.int step),some (.str fr),some (.int (at_:Int)),none,none,none]) σ (λK hK _=> ?_) λat_ hat=> ?_
 ·refine Leaf.mk (y1i hfs ?_)
  exact y4n (P:=λz=>K .next [some (.lst (xs.map V.int)),some (.int (n:Int)),some (.str "abcdefghijklmnopqrstuvwxyz"),some (.int N),some (.int step),some (.str fr),some (.int z),none,none,none] σ) (Nat.succ_pos _) hK
 have hal:at_<=fr.length:=Nat.le_of_lt_succ hat
 intro a o hf
 have l1:=z6j (x:=fr) hal
 have l2:=z5O (x:=fr) hal
 have z1:∀c:Nat,(Txt.slice fr none (some (at_:Int))).length+(⟨#[c]⟩:Str).length<=sizeLine:=λc=>z0t (by rw[l1];exact Nat.le_trans (Nat.succ_le_succ (Nat.le_trans hal hfl)) (by decide))
 have z3:∀c:Nat,(Txt.slice fr none (some (at_:Int))++⟨#[c]⟩++Txt.slice fr (some (at_:Int)) none).length=fr.length+1:=λc=>by
  rw[z1v,z1v,l1,l2,show(⟨#[c]⟩:Str).length=1 from rfl,Nat.add_right_comm,Nat.add_sub_cancel' hal]
 have z2:∀c:Nat,(Txt.slice fr none (some (at_:Int))++⟨#[c]⟩).length+(Txt.slice fr (some (at_:Int)) none).length<=sizeLine:=λc=>by rw[<-z1v,z3];exact z0t (Nat.le_trans (Nat.succ_le_succ hfl) (by decide))
 obtain⟨G,hG⟩:∃G:Nat->Str,∀j,G j=Txt.slice fr none (some (at_:Int))++⟨#[z6N (N.fdiv 504+step*(j:Int))]⟩++Txt.slice fr (some (at_:Int)) none:=⟨_,λ_=>rfl⟩
 refine Leaf.mk (.mk n (NmI (.lst (xs.map V.int)) (.int (n:Int)) (.str "abcdefghijklmnopqrstuvwxyz") (.int N) (.int step) (.str fr) (.int (at_:Int)) a G σ) rfl h1k .mk (λi hi m τ hI QB hQB _=> ?_) λm τ hI=> ?_)
 ·have hi20:i<20:=Nat.lt_of_lt_of_le hi h1
  clear q hsc hstep
  refine hI.casesOn @λo k sg=> ?_
  refine Leaf.mk (z3Y ?_ (z3O (by lia)))
  refine Leaf.mk (z50 ?_)
  repeat' first|(refine Leaf.mk ?_;with_reducible refine⟨tyL At.hd,?_⟩)|refine Leaf.mk ?_|fail
  refine z4T .none (.int _) hfs ?_
  refine Leaf.mk (z8N ?_ (z1 _))
  refine Leaf.mk (z4T (.int _) .none hfs ?_)
  refine Leaf.mk (z8N ?_ (z2 _))
  refine Leaf.mk (z1O (z0t (by rw[List.length_map,List.length_map,List.length_range];exact Nat.le_trans (Nat.le_of_lt hi20) (by decide))) λo'=> ?_)
  refine hQB _ _ ?_
  have hm:NmI (.lst (xs.map V.int)) (.int (n:Int)) (.str "abcdefghijklmnopqrstuvwxyz") (.int N) (.int step) (.str fr) (.int (at_:Int)) a G σ (i+1) _ ((a,o',.list (((List.range (i+1)).map G).map V.str))::σ):= .mk (k:=some (.int (i:Int))) (sg:=some (.str ⟨#[z6N (N.fdiv 504+step*(i:Int))]⟩))
  rw[List.range_succ,List.map_append,List.map_append,show List.map V.str (List.map G [i])=[V.str (Txt.slice fr none (some (at_:Int))++⟨#[z6N (N.fdiv 504+step*(i:Int))]⟩++Txt.slice fr (some (at_:Int)) none)] from congrArg (λz=>[V.str z]) (hG i)] at hm
  exact hm
 refine hI.casesOn @λo k sg=> ?_
 have hG1:NmOk n ((List.range n).map G):=⟨by rw[List.length_map,List.length_range],λw hw=>by
   apply z0p hw;intro j _
   rw[hG]
   exact⟨by rw[z3];exact Nat.succ_pos _,by rw[z3];exact Nat.succ_le_succ hfl,((hj1.slice _ _).append (y0O (z31 _).2)).append (hj1.slice _ _)⟩,
  z1M λi j hi hj e=>by rw[hG,hG] at e;exact y0M hstep (Nat.lt_of_lt_of_le hi h1) (Nat.lt_of_lt_of_le hj h1) (y0x (y2Y e))⟩
 generalize (List.range n).map G=ws at hG1
 clear hG z1 z2 z3 l1 l2 hstep
 refine z3m (α:=V×List Str) (λp=>(∃P,Has ((a,o,AO.list (ws.map V.str))::σ) p.1 (.list (p.2.map V.str)) P)/\NmOk n p.2) (λp=>[some (.lst (xs.map V.int)),some (.int (n:Int)),some (.str "abcdefghijklmnopqrstuvwxyz"),some (.int N),some (.int step),some (.str fr),some (.int (at_:Int)),some p.1,k,sg]) ((a,o,.list (ws.map V.str))::σ) (λK hK _=> ?_) λp hp=> ?_
 ·have hno:K .next [some (.lst (xs.map V.int)),some (.int (n:Int)),some (.str "abcdefghijklmnopqrstuvwxyz"),some (.int N),some (.int step),some (.str fr),some (.int (at_:Int)),some (.ref a),k,sg] ((a,o,.list (ws.map V.str))::σ):=hK (.ref a,ws) ⟨⟨_,.refL (.head _)⟩,hG1⟩
  cases hn9:decide ((n:Int)<9) with
  |false=>
   repeat' first|refine z0D (by with_reducible assumption) ?_|(refine z0o (λ_=> ?_) (λ_=> ?_)<;>try (exfalso;rename_i hb;revert hb;simp[V.isNone,V.isBool];done))|fail
   all_goals exact hno
  |true=>
  have hn8:n<=8:=Nat.le_of_lt_succ (Int.ofNat_lt.mp (of_decide_eq_true hn9))
  repeat' first|refine z0A (by with_reducible assumption) ?_|(refine z0o (λ_=> ?_) (λ_=> ?_)<;>try (exfalso;rename_i hb;revert hb;simp[V.isNone,V.isBool];done))|refine Leaf.mk ?_|fail
  rotate_left
  ·exact hno
  have hls:("abcdefghijklmnopqrstuvwxyz":Str).length<=sizeLine:=z0t (by rw[let_len];decide)
  obtain⟨ci,hci⟩:=Int.eq_ofNat_of_zero_le (Int.fmod_nonneg_of_pos (N.fdiv 504) (show(0:Int)<26 by decide))
  have hci26:ci<=26:=Nat.le_of_lt (Int.ofNat_lt.mp (hci▸Int.fmod_lt_of_pos (N.fdiv 504) (show(0:Int)<26 by decide)))
  have m1:(Txt.slice "abcdefghijklmnopqrstuvwxyz" (some ((N.fdiv 504).fmod 26)) none).length=26-ci:=by rw[hci,z5O (by rw[let_len];exact hci26),let_len]
  have m3:∀z:Nat,z<=100->z<=sizeLine:=λz h=>z0t (Nat.le_trans h (by decide))
  have m4:fr.length+(Txt.slice "abcdefghijklmnopqrstuvwxyz" (some ((N.fdiv 504).fmod 26)) none).length<=sizeLine:=m3 _ (by rw[m1];lia)
  have m5:(fr++Txt.slice "abcdefghijklmnopqrstuvwxyz" (some ((N.fdiv 504).fmod 26)) none).length+("abcdefghijklmnopqrstuvwxyz":Str).length<=sizeLine:=m3 _ (by rw[z1v,m1,let_len];lia)
  have m6:26<=(fr++Txt.slice "abcdefghijklmnopqrstuvwxyz" (some ((N.fdiv 504).fmod 26)) none++"abcdefghijklmnopqrstuvwxyz").length:=by rw[z1v,let_len];lia
  have hbig:(fr++Txt.slice "abcdefghijklmnopqrstuvwxyz" (some ((N.fdiv 504).fmod 26)) none++"abcdefghijklmnopqrstuvwxyz").length<=sizeLine:=by rw[z1v];exact m5
  have hlt:=(hj1.append (let_lt.slice (some ((N.fdiv 504).fmod 26)) none)).append let_lt
  show AS C env ["_law_script","_law_many","_law_letters","_law_number","_law_step","_law_frame","_law_at","_law_names_here","_law_k","_law_sign"] _ true _ (exec _ env) [some (.lst (xs.map V.int)),some (.int (n:Int)),some (.str "abcdefghijklmnopqrstuvwxyz"),some (.int N),some (.int step),some (.str fr),some (.int (at_:Int)),some (.ref a),k,sg] _ _
  refine z1e "_law_k" ["_law_frame","_law_letters","_law_number"] [] (z11 (by rw[hsc];kernel_rfl)) (by rw[hsc];kernel_rfl) GL_nil (.cons LkC.lk (.cons LkC.lk (.cons LkC.lk .nil))) (z2L ?_)
  repeat' with_reducible first|refine z0n ?_|refine z1s ?_|refine z0H ?_|refine z0q ?_|refine z0v ?_|refine z2T ?_|refine⟨z0R,?_⟩|fail
  refine⟨_,_,_,n,rfl,y0D h1k,y1F n,z0t (by rw[z1D];exact Nat.le_trans h1k (by decide)),λenv' he=>
   z2a (f:=y5D (fr++Txt.slice "abcdefghijklmnopqrstuvwxyz" (some ((N.fdiv 504).fmod 26)) none++"abcdefghijklmnopqrstuvwxyz")) (z0u he (by decide+kernel)) trivial _ _ _ (λX hX K hK=> ?_) ?_⟩
  ·obtain⟨j,hj,rfl⟩:=z2e hX
   repeat' with_reducible first|refine z0n ?_|refine z0O ?_|refine z1i ?_|refine z1L ?_|refine z2z ?_|refine z57 ?_ (by with_unfolding_all decide)|refine z58 ?_ (by with_unfolding_all decide) (by with_unfolding_all decide)|refine z13 ?_|refine z1X ?_|fail
   refine z4T (.int _) .none hls ?_
   repeat' with_reducible first|refine z0n ?_|refine z0O ?_|refine z1L ?_|refine z2z ?_|refine z5X ?_|refine z8N ?_ ?_|refine z13 ?_|refine z1X ?_|fail
   ·refine z4T .none (.int _) hbig ?_
    exact hK
   ·exact m5
   ·exact m4
  generalize (fr++Txt.slice "abcdefghijklmnopqrstuvwxyz" (some ((N.fdiv 504).fmod 26)) none++"abcdefghijklmnopqrstuvwxyz")=B at m6 hlt
  have m2:∀j:Nat,j<n->(Txt.slice B none (some (1+(j:Int)))).length=1+j:=λj hj=>z6j (n:=1+j) (Nat.le_trans (Nat.add_le_add_left (Nat.le_of_lt (Nat.lt_of_lt_of_le hj hn8)) 1) (Nat.le_trans (by decide) m6))
  rw[List.nil_append,show(z1o 0 1 n).map (y5D B)=((List.range n).map λj:Nat=>Txt.slice B none (some (1+(j:Int)))).map V.str by rw[z4k,List.map_map,List.map_map];rfl]
  with_reducible refine z2t ?_
  refine hK (_,_) ⟨⟨_,.lst _⟩,by rw[List.length_map,List.length_range],λw hw=> ?_,z1M λi j hi hj e=> ?_⟩
  ·apply z0p hw;intro j hj
   have hj:=List.mem_range.mp hj
   exact⟨by rw[m2 j hj];exact Nat.le_add_right 1 j,by rw[m2 j hj,Nat.add_comm];exact Nat.lt_of_lt_of_le hj hn8,hlt.slice _ _⟩
  ·have:=congrArg Str.length e
   rw[m2 i hi,m2 j hj] at this
   exact Nat.add_left_cancel this
 obtain⟨x,vs⟩:=p
 obtain⟨⟨P,hH⟩,hv⟩:=hp
 have hvz:(vs.map V.str).length<=sizeLine:=z0z (hv.l▸h1k) (by decide)
 repeat' first|(with_reducible refine z4B ?_)|refine Leaf.mk ?_|fail
 refine y2l λi hi=> ?_
 refine Leaf.mk (z0B hH .none .none (.int _) (by rcases hi with rfl|rfl<;>decide) hvz (z0Z ?_))
 obtain⟨vs',e,h4,h2,h3⟩:=y4h hi hv.w hv.d
 rw[e]
 exact⟨σ,List.sublist_cons_self _ _,q _ (h4.trans hv.l) h2 h3⟩
end
end
section
section
variable {C:Cx} {d:Nat} {σ:Sto} {Q:V->Sto->Prop}
structure NeedsOk(w:Str)(ns:List (Str×Int×Int)):Prop where
 len:ns.length<=6
 ok:∀n∈ns,NeedOk n
 ne:∀n∈ns,n.1≠w
 nd:(ns.map (·.1)).Nodup
noncomputable def fstV:V->V
 | .tup (x::_)=>x
 |v=>v
noncomputable def z3K(r1:Stmt)(r2:Stmt)(r3:Stmt):TC:=⟨[.loc 1,.isi .lst,.tvalc,.not,.mop .Or [.loc 1,.len,.psh (.int 6),.tcmpc .Gt,.mop .Or [.psh (.bool false)]],.ife [.rawS r1] [],.rawS r2,.loc 1,.forL 3 [.loc 3,.call (.ref 142) 1,.tvalc,.not,.mop .Or [.loc 3,.subT 0,.loc 2,.tcmpc .In,.mop .Or [.psh (.bool false)]],.ife [.rawS r3] [],.psh (.bool true),.loc 2,.loc 3,.subT 0,.setI]],[.inl r1,.inl r2,.inl r3],[([0,0,0],none),([1],none),([2,0,0,0,0],none)]⟩
--z3K 3
noncomputable def mtV(w:Str)(ns:List (Str×Int×Int)):List (Str×V):=(w,.bool true)::ns.map λn=>(n.1,.bool true)
theorem y0S{w:Str}{ns:List (Str×Int×Int)}:(mtV w ns).map (·.1)=w::ns.map (·.1):=by unfold mtV;rw[List.map_cons,List.map_map];rfl
theorem y1z{w:Str}{ns:List (Str×Int×Int)}{i:Nat}{n:Str×Int×Int}(hok:NeedsOk w ns)(h:ns[i]? =some n):n.1∉(mtV w (ns.take i)).map (·.1)/\((mtV w (ns.take i)).map (·.1)).Nodup/\mtV w (ns.take i)++[(n.1,.bool true)]=mtV w (ns.take (i+1)):=by
 have htk:ns.take (i+1)=ns.take i++[n]:=by rw[List.take_add_one,h];rfl
 have hnd:(w::ns.map (·.1)).Nodup:=List.nodup_cons.mpr ⟨λh=>by obtain⟨x,hx,e⟩:=List.mem_map.mp h;exact hok.ne x hx e,hok.nd⟩
 have hsub:(w::(ns.take (i+1)).map (·.1)).Sublist (w::ns.map (·.1)):=((List.take_sublist _ _).map _).cons_cons w
 have hnd1:=hsub.nodup hnd
 rw[htk,List.map_append] at hnd1
 have h3:=List.nodup_append.mp (show((w::(ns.take i).map (·.1))++[n.1]).Nodup from hnd1)
 rw[y0S]
 exact⟨λhm=>h3.2.2 _ hm _ (.head _) rfl,h3.1,by unfold mtV;rw[htk,List.map_append];rfl⟩
inductive NnI(w:Str)(a b:Addr)(ns:List (Str×Int×Int))(σ:Sto)(i:Nat):Loc->Sto->Prop
 |mk {o:Obj} {x:Option V}:NnI w a b ns σ i [some (.str w),some (.ref a),some (.ref b),x] ((b,o,dS (mtV w (ns.take i)))::σ)
theorem z6T(H:G1 C){w:Str}{a:Addr}{ns:List (Str×Int×Int)}(hat:At σ a (.list (ns.map z0h)))(hok:NeedsOk w ns)(q:Q .none σ):CW C (d+3) (.ref 251) [.str w,.ref a] σ Q:=by
 refine z03 ?_
 refine z0G (G1.kin (by assumption)) ["ware","needs","met","need"] [("isinstance",.bi "isinstance"),("list",.type "list"),("len",.bi "len"),("MOST_NEEDS",.int 6),("BadNeed",.ref 61),("is_need",.ref 142)] (by kernel_rfl) (vs2 λ_ _=>by kernel_rfl) rfl (z0a (z0k (by assumption)) (z0a (z0T (by assumption)) (z0a (z0Q (by assumption)) (z0a (z68 (by assumption)) (z0a (z9F (by assumption)) (z0a (z55 (by assumption)) GL_nil)))))) ?_
 intro env hsc
 clear hsc
 obtain⟨oa,hm⟩:=hat
 have h6:=hok.len
 refine z0e (z0l H) (z0m H) (z3K _ _ _) (by exact rfl) (by kernel_rfl) ?_
 intro F m0
 refine Leaf.mk (z6V (k:= .lst) (.refL hm) ?_)
 refine Leaf.mk (z0L (.refL hm) (List.length_map _) (z0z h6 (by decide)) ?_)
 refine z0D (decide_eq_false (Int.not_lt.mpr (Int.ofNat_le.mpr h6))) ?_
 refine Leaf.mk ?_
 show AS C env ["ware","needs","met","need"] _ true _ (exec _ env) [some (.str w),some (.ref a),none,none] _ _
 refine z1K (z79 (KK.str C.prog C.w) λb o hf=> ?_)
 repeat' with_reducible first|refine z0n ?_|refine z9n ?_
 refine⟨w,rfl,rfl,λo'=> ?_⟩
 with_reducible refine z2t ?_
 refine Leaf.mk (.mk _ _ (NnI w a b ns σ) (.refL (.tail _ hm)) .mk (λi X hX m τ hI QB hQB _=> ?_) λm τ hI=> ?_)
 ·clear q
  rw[List.getElem?_map] at hX
  apply z1I hX;intro n hn
  obtain⟨hnew,hnd,hnx⟩:=y1z hok hn
  have hil:=(List.getElem?_eq_some_iff.mp hn).1
  have hz:(mtV w (ns.take i)).length<=sizeLine:=z0t (by unfold mtV;rw[List.length_cons,List.length_map,List.length_take];lia)
  have hno:=hok.ok n (List.mem_of_getElem? hn)
  refine hI.casesOn @λo x=> ?_
  refine Leaf.mk (fnc (z6b H hno ?_))
  refine Leaf.mk (z2I H.ns At.hd hnd (z0i ?_))
  rw[z1k hnew]
  refine Leaf.mk (z4R hnd hz λo'=> ?_)
  rw[z1w hnew,hnx]
  exact hQB _ _ (.tail _ hm) .mk
 ·cases hI with
  |mk=>exact⟨σ,List.sublist_cons_self _ _,q⟩
end
end
section
section
variable {C:Cx} {d:Nat} {σ:Sto} {Q:V->Sto->Prop}
noncomputable abbrev z0c:=Str×Int×Int
noncomputable abbrev kvV(kv:List (Str×Addr)):List (Str×V):=kv.map λp=>(p.1,.ref p.2)
noncomputable abbrev esV(es:List (Int×List z0c)):List (Int×V):=es.map λp=>(p.1,.lst (p.2.map z0h))
theorem z0x(kv:List (Str×Addr)):(kvV kv).map (·.1)=kv.map (·.1):=by simp[List.map_map,Function.comp_def]
theorem z0s(es:List (Int×List z0c)):(esV es).map (·.1)=es.map (·.1):=by simp[List.map_map,Function.comp_def]
structure Shp(σ:Sto)(i k:Addr)(kv:List (Str×Addr))(es:Str->List (Int×List z0c)):Prop where
 inst:∃dx,At σ i (.inst 310 dx [("kept",.ref k)])
 kept:At σ k (dS (kvV kv))
 kvn:(kv.map (·.1)).Nodup
 kl:kv.length<=12
 inn:∀p∈kv,At σ p.2 (dI (esV (es p.1)))
 out:∀w,w∉kv.map (·.1)->es w=[]
 eok:∀w,((es w).map (·.1)).Nodup/\(es w).length<=8/\∀p∈es w,p.2.length<=6
 sep:(i::k::kv.map (·.2)).Nodup
theorem Shp.at{i k:Addr}{kv:List (Str×Addr)}{es:Str->List (Int×List z0c)}(S:Shp σ i k kv es)(w:Str):
  (vAt (kvV kv) w=none/\w∉kv.map (·.1)/\es w=[])∨∃a,vAt (kvV kv) w=some (.ref a)/\(w,a)∈kv/\At σ a (dI (esV (es w))):=by
 by_cases h:w∈kv.map (·.1)
 ·apply z0p h;intro p hp
  exact .inr ⟨p.2,z0X (by rw[z0x];exact S.kvn) (List.mem_map.mpr ⟨p,hp,rfl⟩),hp,S.inn p hp⟩
 ·exact .inl ⟨z1k (by rw[z0x];exact h),h,S.out w h⟩
theorem z06{a b dx:Addr}{P:V->Prop}(h:At σ a (.inst 310 dx [("kept",.ref b)]))(q:P (.ref b)):z9g 310 "kept" (.ref a) σ P:=y5u h rfl q
theorem z0I{a b dx:Addr}{nm:Str}{P:Addr->Prop}(h:At σ a (.inst 310 dx [("kept",.ref b)]))(hn:(nm==("kept":Str))=false)(q:P a):z53 310 nm (.ref a) σ P:=
 y5G h (by rw[List.lookup_cons,hn];rfl) q
noncomputable def t_Shop_has:TC:=⟨[.loc 1,.call (.ref 128) 1,.vop .And [.loc 2,.call (.ref 135) 1,.vop .And [.loc 2,.loc 0,.att 310 "kept",.mty "dict",.loc 1,.dic,.meth (.bi "dict.get") 2,.cmpc .In]],.ret],[],[]⟩
--t_Shop_has 0
noncomputable def z30(r1:Stmt):TC:=⟨[.loc 1,.call (.ref 128) 1,.tvalc,.not,.ife [.rawS r1] [],.loc 0,.att 310 "kept",.mty "dict",.loc 1,.dic,.meth (.bi "dict.get") 2,.call (.bi "sorted") 1,.ret],[.inl r1],[([0,0,0],none)]⟩
--z30 1
noncomputable def z3I(r1:Stmt):TC:=⟨[.loc 0,.mI 310 "has",.loc 1,.loc 2,.meth (.ref 272) 2,.tvalc,.not,.ife [.rawS r1] [],.loc 0,.att 310 "kept",.loc 1,.sub,.loc 2,.sub,.call (.type "list") 1,.ret],[.inl r1],[([0,0,0],none)]⟩
--z3I 1
theorem Shp.kn{i k:Addr}{kv:List (Str×Addr)}{es:Str->List (Int×List z0c)}(S:Shp σ i k kv es):((kvV kv).map (·.1)).Nodup:=by rw[z0x];exact S.kvn
theorem Shp.en{i k:Addr}{kv:List (Str×Addr)}{es:Str->List (Int×List z0c)}(S:Shp σ i k kv es)(w:Str):((esV (es w)).map (·.1)).Nodup:=by rw[z0s];exact(S.eok w).1
theorem z6Z(H:G1 C){i k b:Addr}{o:Obj}{kv:List (Str×Addr)}{es:Str->List (Int×List z0c)}{w:Str}(S:Shp σ i k kv es)(q:∀c,At ((b,o,.dict [])::σ) c (dI (esV (es w)))->Q (.ref c) ((b,o,.dict [])::σ)):KW C d (.bi "dict.get") [.ref k,.str w,.ref b] ((b,o,.dict [])::σ) Q:=by
 refine z4I H.ns (S.kept.cons _) S.kn ?_
 rcases S.at w with⟨e,_,e2⟩|⟨a,e,_,ha⟩
 ·rw[e];exact q b (by rw[e2];exact At.hd)
 ·rw[e];exact q a (ha.cons _)
theorem z85(H:G1 C){i k:Addr}{kv:List (Str×Addr)}{es:Str->List (Int×List z0c)}{w:Str}{mk:Int}(S:Shp σ i k kv es)(hw:Ware w)(h1:1<=mk)(h2:mk<=999)(q:Q (.bool (vAt (esV (es w)) mk).isSome) σ):
  CW C (d+2) (.ref 272) [.ref i,.str w,.int mk] σ Q:=by
 refine z03 ?_
 refine z0G (G1.kin (by assumption)) ["self","ware","make"] [("is_ware",.ref 128),("is_make",.ref 135)] (by kernel_rfl) (vs3 λ_ _ _=>by kernel_rfl) rfl (z0a (z1G (by assumption)) (z0a (z2b (by assumption)) GL_nil)) ?_
 intro env hsc
 clear hsc
 obtain⟨dx,hin⟩:=S.inst
 have hk:=S.kept
 refine z0e (z0l H) (z0m H) t_Shop_has rfl (by kernel_rfl) ?_
 intro F m0
 refine Leaf.mk (fnc (z20 H hw ?_))
 refine Leaf.mk (fnc (z21 H h1 h2 ?_))
 refine Leaf.mk (z06 hin ?_)
 refine Leaf.mk ⟨tyD hk,?_⟩
 intro b o hf
 refine Leaf.mk (z6Z H S λc hc=> ?_)
 refine Leaf.mk (y3M H.ns hc (S.en w) ?_)
 exact⟨σ,List.sublist_cons_self _ _,q⟩
theorem y1c{Xs:List V}{σ₁:Sto}(hs:σ.Sublist σ₁)(q:NLf Q Xs σ):NLf (λx σ'=>∃τ,τ.Sublist σ'/\Q x τ) Xs σ₁:=by
 rcases q with q|q
 ·exact .inl ⟨σ,hs,q⟩
 ·exact .inr λa o hf=>⟨_,hs.cons_cons _,q a o λp hp=>hf p (hs.subset hp)⟩
theorem z82(H:G1 C){i k:Addr}{kv:List (Str×Addr)}{es:Str->List (Int×List z0c)}{w:Str}(S:Shp σ i k kv es)(hw:Ware w)(q:NLf Q ((z1a ((es w).map (·.1))).map V.int) σ):
  CW C (d+2) (.ref 293) [.ref i,.str w] σ Q:=by
 refine z03 ?_
 refine z0G (G1.kin (by assumption)) ["self","ware"] [("is_ware",.ref 128),("BadWare",.ref 37),("sorted",.bi "sorted")] (by kernel_rfl) (vs2 λ_ _=>by kernel_rfl) rfl (z0a (z1G (by assumption)) (z0a (z6a (by assumption)) (z0a (z2G (by assumption)) GL_nil))) ?_
 intro env hsc
 clear hsc
 obtain⟨dx,hin⟩:=S.inst
 refine z0e (z0l H) (z0m H) (z30 _) (by exact rfl) (by kernel_rfl) ?_
 intro F m0
 refine Leaf.mk (fnc (z20 H hw ?_))
 refine Leaf.mk (z06 hin ?_)
 refine Leaf.mk ⟨tyD S.kept,?_⟩
 intro b o hf
 refine Leaf.mk (z6Z H S λc hc=> ?_)
 refine Leaf.mk (z2W H.ns hc (S.en w) (by rw[List.length_map];exact Nat.lt_of_le_of_lt (S.eok w).2.1 (by decide)) ?_)
 rw[z0s]
 exact y1c (List.sublist_cons_self _ _) q
theorem z4M(H:G1 C){i k:Addr}{kv:List (Str×Addr)}{es:Str->List (Int×List z0c)}{w:Str}{mk:Int}{ns:List z0c}(S:Shp σ i k kv es)(hw:Ware w)(h1:1<=mk)(h2:mk<=999)(hm:(mk,ns)∈es w)
  (q:NLf Q (ns.map z0h) σ):CW C (d+3) (.ref 300) [.ref i,.str w,.int mk] σ Q:=by
 refine z0G (G1.kin (by assumption)) ["self","ware","make"] [("NoMake",.ref 97),("list",.type "list")] (by kernel_rfl) (vs3 λ_ _ _=>by kernel_rfl) rfl (z0a (z8c (by assumption)) (z0a (z0T (by assumption)) GL_nil)) ?_
 intro env hsc
 clear hsc
 obtain⟨dx,hin⟩:=S.inst
 have hv:vAt (esV (es w)) mk=some (.lst (ns.map z0h)):=z0X (S.en w) (List.mem_map.mpr ⟨_,hm,rfl⟩)
 rcases S.at w with⟨_,_,e2⟩|⟨a,e,_,ha⟩
 ·rw[e2] at hm;cases hm
 refine z0e (z0l H) (z0m H) (z3I _) (by exact rfl) (by kernel_rfl) ?_
 intro F m0
 refine Leaf.mk (z0I hin (by decide+kernel) ?_)
 refine Leaf.mk (fnc (z85 H S hw h1 h2 ?_))
 rw[hv]
 refine Leaf.mk (z06 hin ?_)
 refine Leaf.mk (z2k S.kept S.kn e ?_)
 refine Leaf.mk (y4w ha (S.en w) hv ?_)
 exact⟨z1g (.lst _) (z0z ((S.eok w).2.2 _ hm) (by decide)) q⟩
end
end
section
section
variable {C:Cx} {d:Nat} {σ:Sto} {Q:V->Sto->Prop}
theorem y3u(es:List (Int×List z0c))(mk:Int):z2H (esV es) mk=esV (es.filter λp=>decide (p.1≠mk)):=by
 unfold z2H
 rw[List.filter_map];rfl
theorem y5h(kv:List (Str×Addr))(w:Str):z2H (kvV kv) w=kvV (kv.filter λp=>decide (p.1≠w)):=by
 unfold z2H
 rw[List.filter_map];rfl
theorem z87(kv:List (Str×Addr))(w:Str)(b:Addr):kvV (kv++[(w,b)])=kvV kv++[(w,.ref b)]:=List.map_append
theorem z4L(es:List (Int×List z0c))(mk:Int)(ns:List z0c):esV (es++[(mk,ns)])=esV es++[(mk,.lst (ns.map z0h))]:=List.map_append
theorem Shp.ne{i k:Addr}{kv:List (Str×Addr)}{es:Str->List (Int×List z0c)}(S:Shp σ i k kv es){w:Str}{a:Addr}(h:(w,a)∈kv):i≠a/\k≠a/\i≠k:=by
 have:=S.sep
 have ha:a∈kv.map (·.2):=List.mem_map.mpr ⟨_,h,rfl⟩
 have h1:=List.nodup_cons.mp this
 have h2:=List.nodup_cons.mp h1.2
 exact⟨λe=>h1.1 (.tail _ (e▸ha)),λe=>h2.1 (e▸ha),λe=>h1.1 (e▸ .head _)⟩
noncomputable def z4w(r1:Stmt):TC:=⟨[.loc 0,.mI 310 "has",.loc 1,.loc 2,.meth (.ref 272) 2,.tvalc,.not,.ife [.rawS r1] [],.loc 0,.att 310 "kept",.loc 1,.sub,.mty "dict",.loc 2,.meth (.bi "dict.pop") 1,.pop,.loc 0,.att 310 "kept",.loc 1,.sub,.dic,.tcmpc .Eq,.ife [.loc 0,.att 310 "kept",.mty "dict",.loc 1,.meth (.bi "dict.pop") 1,.pop] []],[.inl r1],[([0,0,0],none)]⟩
--z4w 1
noncomputable def z5t(r1:Stmt)(r2:Stmt)(r3:Stmt)(r4:Stmt)(r5:Stmt):TC:=⟨[.loc 1,.call (.ref 128) 1,.tvalc,.not,.ife [.rawS r1] [],.loc 2,.call (.ref 135) 1,.tvalc,.not,.ife [.rawS r2] [],.loc 1,.loc 3,.call (.ref 251) 2,.pop,.loc 0,.mI 310 "has",.loc 1,.loc 2,.meth (.ref 272) 2,.tvalc,.ife [.rawS r3] [],.cut [.loc 1,.loc 0,.att 310 "kept",.tcmpc .NotIn,.mop .And [.loc 0,.att 310 "kept",.len,.psh (.int 12),.tcmpc .Eq,.mop .And [.psh (.bool true)]],.ife [.rawS r4] []],.loc 0,.att 310 "kept",.mty "dict",.loc 1,.dic,.meth (.bi "dict.get") 2,.len,.psh (.int 8),.tcmpc .Eq,.ife [.rawS r5] [],.loc 3,.call (.type "list") 1,.loc 0,.att 310 "kept",.mty "dict",.loc 1,.dic,.meth (.bi "dict.setdefault") 2,.loc 2,.setI],[.inl r1,.inl r2,.inl r3,.inl r4,.inl r5],[([0,0,0],none),([1,0,0],none),([3,0,0],none),([4,0,0],none),([5,0,0],none)]⟩
--z5t 5
noncomputable def z2s(r1:Stmt):TC:=⟨[.rawS r1],[.inl r1],[([0],none)]⟩
--z2s 1
theorem y37(H:G1 C){i k a:Addr}{kv:List (Str×Addr)}{es:Str->List (Int×List z0c)}{w:Str}{mk:Int}{ns:List z0c}(S:Shp σ i k kv es)(hw:Ware w)(h1:1<=mk)(h2:mk<=999)(hm:(mk,ns)∈es w)(ha:(w,a)∈kv)
  (qa:(es w).filter (λp=>decide (p.1≠mk))≠[]->∀σ',UpdS σ σ' a (dI (esV ((es w).filter λp=>decide (p.1≠mk))))->Q .none σ')
  (qb:(es w).filter (λp=>decide (p.1≠mk))=[]->∀σ₁ σ',UpdS σ σ₁ a (dI [])->UpdS σ₁ σ' k (dS (kvV (kv.filter λp=>decide (p.1≠w))))->Q .none σ'):
  CW C (d+3) (.ref 286) [.ref i,.str w,.int mk] σ Q:=by
 refine z0G (G1.kin (by assumption)) ["self","ware","make"] [("NoMake",.ref 97)] (by kernel_rfl) (vs3 λ_ _ _=>by kernel_rfl) rfl (z0a (z8c (by assumption)) GL_nil) ?_
 intro env hsc
 clear hsc
 obtain⟨dx,hin⟩:=S.inst
 have hk:=S.kept
 have hkn:=S.kn
 have hen:=S.en w
 have hv:vAt (esV (es w)) mk=some (.lst (ns.map z0h)):=z0X hen (List.mem_map.mpr ⟨_,hm,rfl⟩)
 have hkv:vAt (kvV kv) w=some (.ref a):=z0X hkn (List.mem_map.mpr ⟨_,ha,rfl⟩)
 obtain⟨n1,n2,n3⟩:=S.ne ha
 refine z0e (z0l H) (z0m H) (z4w _) (by exact rfl) (by kernel_rfl) ?_
 intro F m0
 refine Leaf.mk (z0I hin (by decide+kernel) ?_)
 refine Leaf.mk (fnc (z85 H S hw h1 h2 ?_))
 rw[hv]
 refine Leaf.mk (z06 hin ?_)
 refine Leaf.mk (z2k hk hkn hkv ?_)
 refine Leaf.mk ⟨tyD (S.inn _ ha),?_⟩
 refine Leaf.mk (z9y (S.inn _ ha) hen (z0z (S.eok w).2.1 (by decide)) hv λσ' U=> ?_)
 rw[y3u] at U
 have hin':=U.at hin n1
 have hk':=U.at hk n2
 have hen':((esV ((es w).filter λp=>decide (p.1≠mk))).map (·.1)).Nodup:=by
  rw[z0s];exact((List.filter_sublist).map _).nodup (S.eok w).1
 refine Leaf.mk (z06 hin' ?_)
 refine Leaf.mk (z2k hk' hkn hkv ?_)
 intro b o hf
 refine Leaf.mk (y40 (KK.int C.prog C.w) H.ns (U.here.cons _) hen' At.hd ?_)
 have hke:∀p∈σ',p∈(b,o,AO.dict [])::σ':=λp h=> .tail _ h
 have he:(esV ((es w).filter λp=>decide (p.1≠mk))).isEmpty=((es w).filter λp=>decide (p.1≠mk)).isEmpty:=by unfold esV;rw[List.isEmpty_map]
 refine z0i ?_
 rw[he]
 refine z0o (λhb=> ?_) λhb=> ?_
 ·have hb:=List.isEmpty_iff.mp hb
  rw[hb] at U
  have hk2:=hk'.cons (b,o,AO.dict [])
  refine Leaf.mk (z06 (hin'.cons _) ?_)
  refine Leaf.mk ⟨tyD hk2,?_⟩
  refine Leaf.mk (y2x hk2 hkn (z0z S.kl (by decide)) hkv λσ₂ U2=> ?_)
  rw[y5h] at U2
  exact qb hb ((b,o,.dict [])::σ') σ₂ ⟨U.here.cons _,λp hp hn=> .tail _ (U.keep p hp hn)⟩ U2
 ·exact qa (λe=>by rw[e] at hb;cases hb) ((b,o,.dict [])::σ') ⟨U.here.cons _,λp hp hn=> .tail _ (U.keep p hp hn)⟩
theorem y3o(H:G1 C){i k nl:Addr}{kv:List (Str×Addr)}{es:Str->List (Int×List z0c)}{w:Str}{mk:Int}{ns:List z0c}(S:Shp σ i k kv es)(hw:Ware w)(h1:1<=mk)(h2:mk<=999)
  (hnl:At σ nl (.list (ns.map z0h))) (hns:NeedsOk w ns) (hnew:mk∉(es w).map (·.1)) (hroom:(es w).length≠8) (hroom2:w∉kv.map (·.1)->kv.length≠12)
  (qa:∀a,(w,a)∈kv->∀σ',UpdS σ σ' a (dI (esV (es w++[(mk,ns)])))->Q .none σ')
  (qb:w∉kv.map (·.1)->∀b σ',Fresh σ b->At σ' b (dI (esV [(mk,ns)]))->At σ' k (dS (kvV (kv++[(w,b)])))->(∀p∈σ,p.1≠k->p∈σ')->Q .none σ'):
  CW C (d+4) (.ref 279) [.ref i,.str w,.int mk,.ref nl] σ Q:=by
 refine z0G (G1.kin (by assumption)) ["self","ware","make","needs"] [("is_ware",.ref 128),("BadWare",.ref 37),("is_make",.ref 135),("BadMake",.ref 49),("need_needs",.ref 251),("Twice",.ref 73),("len",.bi "len"),("MOST_WARES",.int 12),("Full",.ref 85),("MOST_MAKES",.int 8),("list",.type "list")] (by kernel_rfl) (vs4 λ_ _ _ _=>by kernel_rfl) rfl (z0a (z1G (by assumption)) (z0a (z6a (by assumption)) (z0a (z2b (by assumption)) (z0a (z9L (by assumption)) (z0a (z6y (by assumption)) (z0a (y3f (by assumption)) (z0a (z0Q (by assumption)) (z0a (z6C (by assumption)) (z0a (y4k (by assumption)) (z0a (z6W (by assumption)) (z0a (z0T (by assumption)) GL_nil))))))))))) ?_
 intro env hsc
 clear hsc
 obtain⟨dx,hin⟩:=S.inst
 have hk:=S.kept
 have hkn:=S.kn
 have hen:=S.en w
 have hkz:(kvV kv).length<=sizeLine:=z0z S.kl (by decide)
 have hez:(esV (es w)).length<=sizeLine:=z0z (S.eok w).2.1 (by decide)
 have hv:vAt (esV (es w)) mk=none:=z1k (by rw[z0s];exact hnew)
 obtain⟨onl,hnm⟩:=hnl
 refine z0e (z0l H) (z0m H) (z5t _ _ _ _ _) (by exact rfl) (by kernel_rfl) ?_
 intro F m0
 refine Leaf.mk (fnc (z20 H hw ?_))
 refine Leaf.mk (fnc (z21 H h1 h2 ?_))
 refine Leaf.mk (fnc (z6T H ⟨onl,hnm⟩ hns ?_))
 refine Leaf.mk (z0I hin (by decide+kernel) ?_)
 refine Leaf.mk (fnc (z85 H S hw h1 h2 ?_))
 rw[hv]
 refine z05 [some (.ref i),some (.str w),some (.int mk),some (.ref nl)] σ (λK hK _=> ?_) ?_
 ·refine Leaf.mk (z06 hin ?_)
  refine Leaf.mk (y0l H.ns hk hkn (z0i ?_))
  refine z0o (λhb=> ?_) λ_=>hK
  refine Leaf.mk (z06 hin ?_)
  refine Leaf.mk (z63 H.ns hk hkn hkz ?_)
  refine z0D (decide_eq_false λe=>hroom2 (λhm=> ?_) (by rw[<-List.length_map];exact Int.ofNat.inj e)) hK
  obtain⟨p,hp,rfl⟩:=List.mem_map.mp hm
  rw[z0X hkn (List.mem_map.mpr ⟨p,hp,rfl⟩)] at hb
  cases hb
 refine Leaf.mk (z06 hin ?_)
 refine Leaf.mk ⟨tyD hk,?_⟩
 intro b0 o0 hf0
 refine Leaf.mk (z6Z H S λc hc=> ?_)
 refine Leaf.mk (z81 H.ns hc hen hez ?_)
 refine z0D (decide_eq_false λe=>hroom (by rw[<-List.length_map];exact Int.ofNat.inj e)) ?_
 clear hc c
 refine Leaf.mk (z1g (.refL (.tail _ hnm)) (z0z hns.len (by decide)) (.inl ?_))
 refine Leaf.mk (z06 (hin.cons _) ?_)
 refine Leaf.mk ⟨tyD (hk.cons _),?_⟩
 intro b o hf
 rcases S.at w with⟨e,hno,e2⟩|⟨a,e,ha,hat⟩
 ·refine Leaf.mk (z5f H.ns ((hk.cons _).cons _) hkn hkz (λY hY=>by rw[e] at hY;cases hY) λ_ σ' U=> ?_)
  rw[z1w (by rw[z0x];exact hno)] at U
  have hfb:Fresh σ b:=λp hp=>hf p (.tail _ hp)
  have hbk:k≠b:=hfb.ne hk
  refine Leaf.mk (z4U (U.at At.hd hbk.symm:At σ' b (dI [])) List.nodup_nil (by decide) λσ'' U2=> ?_)
  refine qb hno b σ'' hfb U2.here (U2.at ?_ hbk) λp hp hne=>U2.keep p (U.keep p (.tail _ (.tail _ hp)) hne) (hfb p hp)
  rw[z87]
  exact U.here
 ·refine Leaf.mk (z5f H.ns ((hk.cons _).cons _) hkn hkz (λY hY=> ?_) λhY=>by rw[e] at hY;cases hY)
  rw[e] at hY
  cases hY
  refine Leaf.mk (z4U ((hat.cons _).cons _) hen hez λσ'' U2=> ?_)
  rw[z1w (by rw[z0s];exact hnew)] at U2
  refine qa a ha σ'' ⟨?_,λp hp hne=>U2.keep p (.tail _ (.tail _ hp)) hne⟩
  rw[z4L]
  exact U2.here
theorem y4d(H:G1 C){x dx:Addr}{o:Obj}(q:∀k σ',Fresh ((x,o,.inst 310 dx [])::σ) k->At σ' x (.inst 310 dx [("kept",.ref k)])->At σ' k (dS [])->(∀p∈σ,p.1≠x->p∈σ')->Q .none σ'):
  CW C (d+1) (.ref 265) [.ref x] ((x,o,.inst 310 dx [])::σ) Q:=by
 refine z0G (G1.kin (by assumption)) ["self"] [] (by kernel_rfl) (vs1 λ_=>by kernel_rfl) rfl GL_nil ?_
 intro env hsc
 clear hsc
 refine z0e (z0l H) (z0m H) (z2s _) (by exact rfl) (by kernel_rfl) ?_
 intro F m0
 refine Leaf.mk ?_
 show AS C env ["self"] _ true _ (exec _ env) [some (.ref x)] _ _
 refine z9M (z7B H) ?_
 refine z2J λk o' hf=> ?_
 with_reducible refine z0n ?_
 refine⟨x,dx,[],rfl,At.hd.cons _,rfl,by decide,λσ' U=> ?_⟩
 have hne:x≠k:=hf _ (.head _)
 exact q k σ' hf U.here (U.at At.hd hne.symm) λp hp hn=>U.keep p (.tail _ (.tail _ hp)) hn
theorem y30(H:G1 C)(q:∀x k dx σ',Fresh σ x->Fresh σ k->x≠k->At σ' x (.inst 310 dx [("kept",.ref k)])->At σ' k (dS [])->(∀p∈σ,p∈σ')->Q (.ref x) σ'):CW C (d+2) (.ref 310) [] σ Q:=by
 refine y4H (y1P H) λx dx o hf=> ?_
 exact y4d H λk σ' hk h1 h2 h3=>⟨rfl,q x k dx σ' hf (λp hp=>hk p (.tail _ hp)) (hk _ (.head _)) h1 h2 λp hp=>h3 p hp (hf p hp)⟩
end
end
section
section
variable {C:Cx} {d:Nat} {σ:Sto} {Q:V->Sto->Prop}
noncomputable def t__law_stretch:TC:=⟨[.loc 1,.loc 0,.psh (.int 10),.binc .FloorDiv,.loc 1,.len,.binc .Mod,.sub,.asg 2,.loc 1,.loc 0,.psh (.int 60),.binc .FloorDiv,.loc 1,.len,.binc .Mod,.sub,.asg 3,.psh (.int 0),.psh (.int 1),.psh (.int 2),.psh (.int 3),.psh (.int 4),.psh (.int 4),.psh (.int 2),.psh (.int 1),.psh (.int 4),.psh (.int 5),.lst 10,.loc 0,.psh (.int 10),.binc .Mod,.sub,.asg 4,.loc 4,.psh (.int 0),.tcmpc .Eq,.ife [.loc 2,.loc 2,.tup 2,.ret] [],.loc 4,.psh (.int 1),.tcmpc .Eq,.ife [.loc 2,.loc 3,.call (.bi "min") 2,.loc 2,.loc 3,.call (.bi "max") 2,.tup 2,.ret] [],.loc 4,.psh (.int 2),.tcmpc .Eq,.ife [.loc 2,.psh (.int 999),.tup 2,.ret] [],.loc 4,.psh (.int 3),.tcmpc .Eq,.ife [.psh (.int 1),.loc 2,.tup 2,.ret] [],.loc 4,.psh (.int 4),.tcmpc .Eq,.ife [.psh (.int 1),.psh (.int 999),.tup 2,.ret] [],.psh (.int 999),.loc 2,.psh (.int 1),.binc .Add,.call (.bi "min") 2,.psh (.int 999),.loc 2,.psh (.int 1),.binc .Add,.call (.bi "min") 2,.tup 2,.ret],[],[]⟩
--t__law_stretch 0
noncomputable def isInt:V->Bool
 | .int _=>true
 |_=>false
theorem y2p{l:List V}(h:l.all isInt=true){X:V}(hX:X∈l):∃i,X= .int i:=by
 have:=List.all_eq_true.mp h X hX
 cases X<;>first|(cases this;done)|exact⟨_,rfl⟩
set_option tactic.hygienic true in
theorem z2K(H:G1 C){ms:List Int}{n:Int}(h0:0<ms.length)(h1:ms.length<=20)(hm:∀i∈ms,1<=i/\i<=999)(q:∀lo hi:Int,1<=lo->lo<=hi->hi<=999->Q (.tup [.int lo,.int hi]) σ):
  CW C (d+1) (.ref 333) [.int n,.lst (ms.map V.int)] σ Q:=by
 refine z0G (G1.kin (by assumption)) ["_law_number","_law_makes","_law_one","_law_other_here","_law_way"] [("len",.bi "len"),("min",.bi "min"),("max",.bi "max")] (by kernel_rfl) (vs2 λ_ _=>by kernel_rfl) rfl (z0a (z0Q (by assumption)) (z0a (y5I (by assumption)) (z0a (y3q (by assumption)) GL_nil))) ?_
 intro env hsc
 clear hsc
 have hl:(ms.map V.int).length<=sizeLine:=z0z h1 (by decide)
 have hp:(0:Int)<((ms.map V.int).length:Int):=by rw[List.length_map];exact Int.ofNat_lt.mpr h0
 have hk:(ms.map V.int).length<2^40:=by rw[List.length_map];exact Nat.lt_of_le_of_lt h1 (by decide)
 have hpick:∀(x:Int) (K:V->Sto->Prop),(∀i,1<=i->i<=999->K (.int i) σ)->SubR C d (.lst (ms.map V.int)) (.int (x.fmod (ms.map V.int).length)) σ K:=λx K k=>
  z3T (Int.fmod_nonneg_of_pos _ hp) (Int.fmod_lt_of_pos _ hp) hk λX hX=>by
   apply z0p hX;intro i hi
   exact k i (hm i hi).1 (hm i hi).2
 clear hm h0 h1 hk
 refine z0e (z0l H) (z0m H) t__law_stretch rfl (by kernel_rfl) ?_
 intro F m0
 repeat' (refine Leaf.mk ?_;with_reducible refine z2h (.lst _) (by with_reducible assumption) ?_)
 refine z4j hp ?_
 refine Leaf.mk (hpick _ _ λone b1 b2=> ?_)
 repeat' (refine Leaf.mk ?_;with_reducible refine z2h (.lst _) (by with_reducible assumption) ?_)
 refine z4j hp ?_
 refine Leaf.mk (hpick _ _ λother b3 b4=> ?_)
 clear hpick hp hl
 refine Leaf.mk (z3T (Int.fmod_nonneg_of_pos _ (by decide)) (Int.fmod_lt_of_pos _ (by decide)) (by decide) λX hX=> ?_)
 obtain⟨way,rfl⟩:=y2p rfl hX
 clear hX
 repeat' first|(refine Leaf.mk ?_;with_reducible first|refine y0Q ?_|refine y4R ?_)|(refine z0o (λ_=> ?_) (λ_=> ?_)<;>try (exfalso;rename_i hb;revert hb;simp[V.isNone,V.isBool];done))
 ·exact q one one b1 (Int.le_refl _) b2
 ·exact q _ _ (Int.le_min.mpr ⟨b1,b3⟩) (Int.le_trans (Int.min_le_left ..) (Int.le_max_left ..)) (Int.max_le.mpr ⟨b2,b4⟩)
 ·exact q one 999 b1 b2 (Int.le_refl _)
 ·exact q 1 one (Int.le_refl _) b1 b2
 ·exact q 1 999 (by decide) (by decide) (Int.le_refl _)
 ·exact q _ _ (Int.le_min.mpr ⟨by decide,Int.le_trans b1 (Int.le_of_lt (Int.lt_succ one))⟩) (Int.le_refl _) (Int.min_le_left ..)
end
end
section
section
variable {C:Cx} {d:Nat} {σ:Sto} {Q:V->Sto->Prop}
noncomputable def msV(mss:List (List Int)):List V:=mss.map λms=>V.lst (ms.map V.int)
structure MsOk(mss:List (List Int)):Prop where
 lo:0<mss.length
 hi:mss.length<=12
 each:∀ms∈mss,0<ms.length/\ms.length<=8/\∀i∈ms,1<=i/\i<=999
 nd:∀ms∈mss,ms.Nodup
theorem z5V{l:List V}{b:Nat}(h:(l.all λx=>match x with| .int k=>decide (0<=k)&&decide (k<=(b:Int))|_=>false)=true):∀X∈l,∃n:Nat,X= .int (n:Int)/\n<=b:=λX hX=>by
 have:=List.all_eq_true.mp h X hX
 cases X with
 |int k=>
  simp at this
  obtain⟨n,rfl⟩:=Int.eq_ofNat_of_zero_le this.1
  exact⟨n,rfl,Int.ofNat_le.mp this.2⟩
 |_=>cases this
theorem y4P{mss:List (List Int)}(h:MsOk mss){K:V->Sto->Prop}{x:Int}(h0:0<=x)(h1:x<=mss.length)(q:∀ms:List Int,0<ms.length->ms.length<=20->(∀i∈ms,1<=i/\i<=999)->K (.lst (ms.map V.int)) σ):
  SubR C d (.lst (msV mss++[.lst [.int 5]])) (.int x) σ K:=by
 have hh:=h.hi
 refine z3T h0 (by simp[msV];lia) (by simp[msV];lia) λX hX=> ?_
 rcases List.mem_append.mp hX with hX|hX
 ·apply z0p hX;intro ms hm
  have:=h.each ms hm
  exact q ms this.1 (by lia) this.2.2
 ·rw[List.mem_singleton.mp hX]
  exact q [5] (by decide) (by decide) λi hi=>by simp at hi;lia
noncomputable def z34(r1:Expr):TC:=⟨[.asgL 5,.loc 0,.loc 4,.call (.ref 321) 2,.asg 6,.psh (.int 0),.psh (.int 1),.psh (.int 1),.psh (.int 2),.psh (.int 2),.psh (.int 6),.lst 6,.loc 6,.psh (.int 6),.binc .Mod,.sub,.forR 7 [.loc 0,.loc 4,.psh (.int 1),.binc .Add,.loc 7,.binc .Add,.call (.ref 321) 2,.asg 8,.loc 3,.psh (.int 1),.binc .Add,.loc 6,.psh (.int 6),.binc .FloorDiv,.loc 7,.binc .Add,.psh (.int 1),.loc 2,.len,.psh (.int 1),.binc .Sub,.call (.bi "max") 2,.binc .Mod,.binc .Add,.loc 2,.len,.binc .Mod,.asg 9,.cut [.loc 8,.psh (.int 12),.binc .Mod,.psh (.int 5),.tcmpc .Eq,.ife [.loc 2,.len,.asg 9] []],.loc 9,.loc 3,.tcmpc .NotEq,.mop .And [.loc 1,.loc 9,.sub,.raw r1,.tcmpc .NotIn,.mop .And [.psh (.bool true)]],.ife [.loc 8,.psh (.int 12),.binc .FloorDiv,.loc 2,.psh (.int 5),.lst 1,.lst 1,.binc .Add,.loc 9,.sub,.call (.ref 333) 2,.asg2 10 11,.loc 5,.mty "list",.loc 1,.loc 9,.sub,.loc 10,.loc 11,.tup 3,.meth (.bi "list.append") 1,.pop] []],.loc 5,.ret],[.inr r1],[([2,0,3],some [1,1])]⟩
--z34 1
structure NsI(w:Str)(ns:List z0c):Prop where
 ok:∀n∈ns,NeedOk n
 ne:∀n∈ns,n.1≠w
 nd:(ns.map (·.1)).Nodup
theorem NsI.nil{w:Str}:NsI w []:=⟨(λ_ h=>by cases h),(λ_ h=>by cases h),List.nodup_nil⟩
theorem NsI.add{w nm:Str}{ns:List z0c}{lo hi:Int}(h:NsI w ns)(ok:NeedOk (nm,lo,hi))(hw:nm≠w)(hn:(ns.map (·.1)).any (·==nm)=false):NsI w (ns++[(nm,lo,hi)]):=by
 have hm:∀n∈ns++[(nm,lo,hi)],n∈ns∨n=(nm,lo,hi):=λn hn=>(List.mem_append.mp hn).imp id List.mem_singleton.mp
 refine⟨λn hn=> ?_,λn hn=> ?_,?_⟩
 ·rcases hm n hn with h'|rfl
  ·exact h.ok n h'
  ·exact ok
 ·rcases hm n hn with h'|rfl
  ·exact h.ne n h'
  ·exact hw
 ·rw[List.map_append]
  refine List.nodup_append.mpr ⟨h.nd,List.nodup_cons.mpr ⟨List.not_mem_nil,List.nodup_nil⟩,λx hx y hy e=> ?_⟩
  rw[List.mem_singleton.mp hy] at e
  exact List.any_eq_false.mp hn x hx (beq_iff_eq.mpr e)
inductive NdI(a0 a1 a2 a3 a4 a6:V)(a:Addr)(w:Str)(σ:Sto)(i:Nat):Loc->Sto->Prop
 |mk {o:Obj} {ns:List z0c} {o1 o2 o3 o4 o5:Option V}:ns.length<=i->NsI w ns->NdI a0 a1 a2 a3 a4 a6 a w σ i [some a0,some a1,some a2,some a3,some a4,some (.ref a),some a6,o1,o2,o3,o4,o5] ((a,o,.list (ns.map z0h))::σ)
set_option tactic.hygienic true in
theorem z6I(H:G1 C){xs:List Int}{ws:List Str}{mka:Addr}{mss:List (List Int)}{w:Str}{k:Nat}{at_:Int}(hx:xs.length<=100)(hmk:At σ mka (.list (msV mss)))(hms:MsOk mss)(hwl:ws.length=mss.length+1)(hw:∀x∈ws,Ware x)(hwn:ws.Nodup)
  (h1:k<mss.length) (hkw:ws[k]? =some w) (a0:0<=at_) (a1:at_<900) (q:∀ns,NeedsOk w ns->Q (.lst (ns.map z0h)) σ):
  CW C (d+3) (.ref 338) [.lst (xs.map V.int),.lst (ws.map V.str),.ref mka,.int (k:Int),.int at_] σ Q:=by
 refine z1U ?_
 refine z0G (G1.kin (by assumption)) ["_law_script","_law_names_here","_law_makes","_law_k","_law_at","_law_found","_law_first","_law_turn","_law_number","_law_other_here","_law_low","_law_high"] [("_law_mixed",.ref 321),("range",.type "range"),("max",.bi "max"),("len",.bi "len"),("_law_stretch",.ref 333)] (by kernel_rfl) (vs5 λ_ _ _ _ _=>by kernel_rfl) rfl (z0a (z1A (by assumption)) (z0a (z2m (by assumption)) (z0a (y3q (by assumption)) (z0a (z0Q (by assumption)) (z0a (z2Y (by assumption)) GL_nil))))) ?_
 intro env hsc
 have hhi:=hms.hi
 obtain⟨omk,hmm⟩:=hmk
 have hml:(msV mss).length=mss.length:=List.length_map _
 have hmz:(msV mss).length<=sizeLine:=z0t (by rw[hml];exact Nat.le_trans hhi (by decide))
 have hmz2:(msV mss).length+1<=sizeLine:=z0t (by rw[hml];exact Nat.le_trans (Nat.succ_le_succ hhi) (by decide))
 have hM:(0:Int)<max 1 ((mss.length:Int)-1):=Int.lt_of_lt_of_le (by decide) (Int.le_max_left ..)
 have hL:(0:Int)<(mss.length:Int):=Int.ofNat_lt.mpr (Nat.zero_lt_of_lt h1)
 refine z0e (z0l H) (z0m H) (z34 _) (by exact rfl) (by kernel_rfl) ?_
 intro F m0 a o hf
 refine Leaf.mk (fnc (z0E H hx a0 (Int.lt_trans a1 (by decide)) λfst b0 b1=> ?_))
 clear b0 b1
 refine Leaf.mk (z3T (Int.fmod_nonneg_of_pos _ (by decide)) (Int.fmod_lt_of_pos _ (by decide)) (by decide) λX hX=> ?_)
 obtain⟨cnt,rfl,c1⟩:∃cnt:Nat,X= .int (cnt:Int)/\cnt<=6:=z5V (by decide) X hX
 clear hX
 refine Leaf.mk (.mk cnt (NdI (.lst (xs.map V.int)) (.lst (ws.map V.str)) (.ref mka) (.int (k:Int)) (.int at_) (.int fst) a w σ) rfl (Nat.le_trans c1 (by decide)) (.mk (ns:=[]) (Nat.le_refl _) .nil) (λi hi m τ hI QB hQB _=> ?_) λm τ hI=> ?_)
 ·have hi6:i<6:=Nat.lt_of_lt_of_le hi c1
  refine hI.casesOn @λo ns o1 o2 o3 o4 o5 hnl hns=> ?_
  have hnz:(ns.map z0h).length<=sizeLine:=z0z (Nat.le_trans hnl (Nat.le_of_lt hi6)) (by decide)
  refine Leaf.mk (fnc (z0E H hx (by lia) (by lia) λnum b2 b3=> ?_))
  clear b2 b3
  repeat' refine Leaf.mk ?_
  refine z0L (.refL (.tail _ hmm)) hml hmz ?_
  repeat' (refine Leaf.mk ?_;with_reducible refine y0Q ?_)
  refine z4j hM ?_
  refine Leaf.mk (z0L (.refL (.tail _ hmm)) hml hmz ?_)
  refine z09 (Nat.zero_lt_of_lt h1) λot0 t1=> ?_
  refine z3m (α:=Nat) (λot=>ot<=mss.length) (λot=>[some (.lst (xs.map V.int)),some (.lst (ws.map V.str)),some (.ref mka),some (.int (k:Int)),some (.int at_),some (.ref a),some (.int fst),some (.int (i:Int)),some (.int num),some (.int (ot:Int)),o4,o5]) ((a,o,.list (ns.map z0h))::σ) (λK hK _=> ?_) λot hot=> ?_
  ·repeat' first|(refine z0o (λ_=> ?_) (λ_=> ?_)<;>try (exfalso;rename_i hb;revert hb;simp[V.isNone,V.isBool];done))|refine Leaf.mk ?_
   ·refine z0L (.refL (.tail _ hmm)) hml hmz ?_
    exact hK _ (Nat.le_refl _)
   ·exact hK _ (Nat.le_of_lt t1)
  clear t1 ot0 hM hL
  have hno:QB .next [some (.lst (xs.map V.int)),some (.lst (ws.map V.str)),some (.ref mka),some (.int (k:Int)),some (.int at_),some (.ref a),some (.int fst),some (.int (i:Int)),some (.int num),some (.int (ot:Int)),o4,o5] ((a,o,.list (ns.map z0h))::σ):=hQB _ _ (.mk (Nat.le_succ_of_le hnl) hns)
  by_cases hb:ot=k
  ·subst hb
   exact z0D (by rw[decide_eq_true rfl];rfl) hno
  have hoi:ot<ws.length:=by rw[hwl];exact Nat.lt_succ_of_le hot
  have ho4:ot<1000:=Nat.lt_of_le_of_lt hot (Nat.lt_of_le_of_lt hhi (by decide))
  obtain⟨nm,hnm⟩:∃nm,ws[ot]? =some nm:=⟨_,List.getElem?_eq_getElem hoi⟩
  have hnw:nm≠w:=λe=>hb (by
   subst e
   obtain⟨p1,p2⟩:=List.getElem?_eq_some_iff.mp hnm
   obtain⟨p3,p4⟩:=List.getElem?_eq_some_iff.mp hkw
   exact(List.getElem_inj hwn).mp (p2.trans p4.symm))
  have hom:=hw nm (List.mem_of_getElem? hnm)
  have hotV:=z1y (f:=V.str) hnm
  refine z0A (by rw[decide_eq_false (λe:(ot:Int)=(k:Int)=>hb (Int.ofNat.inj e))];rfl) ?_
  clear hb hnm hw hwn hkw hoi hwl
  refine Leaf.mk (z04 (.lst _) ho4 hotV ?_)
  refine Leaf.mk ?_
  show AT C env ["_law_script","_law_names_here","_law_makes","_law_k","_law_at","_law_found","_law_first","_law_turn","_law_number","_law_other_here","_law_low","_law_high"] _ true _ (eval _ env) [some (.lst (xs.map V.int)),some (.lst (ws.map V.str)),some (.ref mka),some (.int (k:Int)),some (.int at_),some (.ref a),some (.int fst),some (.int (i:Int)),some (.int num),some (.int (ot:Int)),o4,o5] _ _
  refine z1u "_law_need" [] [] (by rw[hsc];kernel_rfl) GL_nil .nil (z1b ?_)
  with_reducible refine z0n ?_
  refine⟨_,_,.refL (.head _),hnz,λenv' he=>z2a (f:=fstV) (z0u he (by decide+kernel)) (.head _) _ _ _ (λX hX K hK=> ?_) ?_⟩
  ·obtain⟨n,_,rfl⟩:=List.mem_map.mp hX
   unfold z0h at hK⊢
   repeat' with_reducible first|refine z0n ?_|refine z0O ?_|refine z1i ?_|refine z3f (by with_unfolding_all decide) (by with_unfolding_all decide) (by with_unfolding_all exact rfl) ?_
   exact hK
  rw[List.nil_append,show(ns.map z0h).map fstV=(ns.map (·.1)).map V.str by rw[List.map_map,List.map_map];rfl]
  clear hsc
  refine Leaf.mk (z8i (.lst _) ?_)
  cases hin:(ns.map (·.1)).any (·==nm) with
  |true=>exact z0i hno
  |false=>
   refine z0i ?_
   repeat' refine Leaf.mk ?_
   refine z08 (.refL (.tail _ hmm)) (.lst _) hmz2 (z0Z ?_)
   refine Leaf.mk (y4P hms (Int.natCast_nonneg _) (Int.ofNat_le.mpr hot) λms m0 m1 m2=> ?_)
   refine Leaf.mk (fnc (z2K H m0 m1 m2 λlo hi u0 u1 u2=> ?_))
   repeat' first|(refine Leaf.mk ?_;with_reducible refine⟨tyL At.hd,?_⟩)|refine Leaf.mk ?_
   refine z04 (.lst _) ho4 hotV ?_
   repeat' refine Leaf.mk ?_
   refine z1O hnz (λo'=> ?_)
   refine hQB _ _ ?_
   have:=NdI.mk (a0:= .lst (xs.map V.int)) (a1:= .lst (ws.map V.str)) (a2:= .ref mka) (a3:= .int (k:Int)) (a4:= .int at_) (a6:= .int fst) (a:=a) (σ:=σ) (o:=o') (ns:=ns++[(nm,lo,hi)]) (o1:=some (.int (i:Int))) (o2:=some (.int num)) (o3:=some (.int (ot:Int))) (o4:=some (.int lo)) (o5:=some (.int hi)) (i:=i+1) (by rw[List.length_append];exact Nat.succ_le_succ hnl) (hns.add ⟨hom,u0,u1,u2⟩ hnw hin)
   rw[List.map_append] at this
   exact this
 ·cases hI with
  | @mk o ns o1 o2 o3 o4 o5 hnl hns=>exact⟨a,o,_,σ,rfl,rfl,q ns ⟨Nat.le_trans hnl c1,hns.ok,hns.ne,hns.nd⟩⟩
end
end
section
section
variable {C:Cx} {d:Nat} {σ:Sto} {Q:V->Sto->Prop}
theorem z1E{α β:Type}{f:α->β}:∀{l:List α},(l.map f).Nodup->∀{x y:α},x∈l->y∈l->f x=f y->x=y
 |a::l,h,x,y,hx,hy,e=>by
  have h':=List.nodup_cons.mp h
  rcases List.mem_cons.mp hx with hx|hx
  ·rcases List.mem_cons.mp hy with hy|hy
   ·rw[hx,hy]
   ·exact absurd (List.mem_map.mpr ⟨y,hy,by rw[<-e,hx]⟩) h'.1
  ·rcases List.mem_cons.mp hy with hy|hy
   ·exact absurd (List.mem_map.mpr ⟨x,hx,by rw[e,hy]⟩) h'.1
   ·exact z1E h'.2 hx hy e
theorem z1q{α:Type}{l:List α}{x:α}(h:l.Nodup)(hx:x∉l):(l++[x]).Nodup:=
 List.nodup_append.mpr ⟨h,List.nodup_cons.mpr ⟨List.not_mem_nil,List.nodup_nil⟩,λa ha b hb=>by
  rw[List.mem_singleton.mp hb];rintro rfl;exact hx ha⟩
structure EsOk(w:Str)(l:List (Int×List z0c)):Prop where
 nd:(l.map (·.1)).Nodup
 len:l.length<=8
 mb:∀p∈l,1<=p.1/\p.1<=999
 nok:∀p∈l,NeedsOk w p.2
theorem EsOk.nil{w:Str}:EsOk w []:=⟨List.nodup_nil,by decide,(λp h=>by cases h),λp h=>by cases h⟩
theorem EsOk.filter{w:Str}{l:List (Int×List z0c)}(h:EsOk w l)(f:Int×List z0c->Bool):EsOk w (l.filter f):=
 ⟨((List.filter_sublist).map _).nodup h.nd,Nat.le_trans (List.length_filter_le _ _) h.len,λp hp=>h.mb p (List.mem_filter.mp hp).1,λp hp=>h.nok p (List.mem_filter.mp hp).1⟩
theorem EsOk.add{w:Str}{l:List (Int×List z0c)}(h:EsOk w l){mk:Int}{ns:List z0c}(hn:mk∉l.map (·.1))(hl:l.length<8)(h1:1<=mk)(h2:mk<=999)(h6:NeedsOk w ns):EsOk w (l++[(mk,ns)]):=by
 refine⟨by rw[List.map_append];exact z1q h.nd hn,by simp;lia,λp hp=> ?_,λp hp=> ?_⟩
 ·rcases List.mem_append.mp hp with e|e
  ·exact h.mb p e
  ·rw[List.mem_singleton.mp e];exact⟨h1,h2⟩
 ·rcases List.mem_append.mp hp with e|e
  ·exact h.nok p e
  ·rw[List.mem_singleton.mp e];exact h6
noncomputable def z1W(es:Str->List (Int×List z0c))(w:Str)(l:List (Int×List z0c)):Str->List (Int×List z0c):=λv=>if v=w then l else es v
theorem z0y(es:Str->List (Int×List z0c))(w:Str)(l:List (Int×List z0c)):z1W es w l w=l:=by simp[z1W]
theorem z0W{es:Str->List (Int×List z0c)}{w v:Str}{l:List (Int×List z0c)}(h:v≠w):z1W es w l v=es v:=by simp[z1W,h]
theorem z4i(es:Str->List (Int×List z0c))(w:Str)(l l':List (Int×List z0c)):z1W (z1W es w l) w l'=z1W es w l':=by
 funext v
 by_cases e:v=w
 ·rw[e,z0y,z0y]
 ·rw[z0W e,z0W e,z0W e]
theorem z9C{es:Str->List (Int×List z0c)}{w:Str}{l:List (Int×List z0c)}(h:es w=l):z1W es w l=es:=by
 funext v
 by_cases e:v=w
 ·rw[e,z0y,h]
 ·rw[z0W e]
structure Rw(σ:Sto)(ro:Addr)(rv:List (Str×Addr))(es:Str->List (Int×List z0c)):Prop where
 rows:At σ ro (dS (kvV rv))
 rin:∀p∈rv,At σ p.2 (dI (esV (es p.1)))
 rwn:(rv.map (·.1)).Nodup
 rl:rv.length<=12
 wok:∀p∈rv,Ware p.1
 out:∀w,w∉rv.map (·.1)->es w=[]
 eok:∀w,EsOk w (es w)
 sep:(ro::rv.map (·.2)).Nodup
variable {ro:Addr} {rv:List (Str×Addr)} {es:Str->List (Int×List z0c)}
theorem Rw.frame{σ':Sto}(S:Rw σ ro rv es)(h:∀a∈ro::rv.map (·.2),∀x,At σ a x->At σ' a x):Rw σ' ro rv es:=
 {S with rows:=h _ (.head _) _ S.rows,rin:=λp hp=>h _ (.tail _ (List.mem_map.mpr ⟨p,hp,rfl⟩)) _ (S.rin p hp)}
theorem Rw.ne(S:Rw σ ro rv es){p:Str×Addr}(h:p∈rv):p.2≠ro:=λe=>(List.nodup_cons.mp S.sep).1 (e▸List.mem_map.mpr ⟨p,h,rfl⟩)
theorem Rw.set(S:Rw σ ro rv es){σ':Sto}{w:Str}{b:Addr}{l:List (Int×List z0c)}(hb:(w,b)∈rv)(ok:EsOk w l)(U:UpdS σ σ' b (dI (esV l))):Rw σ' ro rv (z1W es w l):=by
 refine{S with rows:=U.at S.rows (S.ne hb).symm,rin:=λp hp=> ?_,out:=λv hv=> ?_,eok:=λv=> ?_}
 ·by_cases e:p.1=w
  ·have:p=(w,b):=z1E S.rwn hp hb e
   subst this;rw[z0y];exact U.here
  ·rw[z0W e]
   exact U.at (S.rin p hp) λe2=>e (by rw[z1E (List.nodup_cons.mp S.sep).2 hp hb e2])
 ·rw[z0W (λe=>hv (by rw[e];exact List.mem_map.mpr ⟨_,hb,rfl⟩))];exact S.out v hv
 ·by_cases e:v=w
  ·subst e;rw[z0y];exact ok
  ·rw[z0W e];exact S.eok v
theorem Rw.add(S:Rw σ ro rv es){σ':Sto}{w:Str}{b:Addr}{o:Obj}(hw:Ware w)(hn:w∉rv.map (·.1))(hl:rv.length<12)(hf:Fresh σ b)(U:UpdS ((b,o,dI [])::σ) σ' ro (dS (kvV (rv++[(w,b)])))):Rw σ' ro (rv++[(w,b)]) es:=by
 have hr:b≠ro:=(hf.ne S.rows).symm
 have mem:∀p∈rv++[(w,b)],p∈rv∨p=(w,b):=λp hp=>by simpa using hp
 refine⟨U.here,λp hp=> ?_,by rw[List.map_append];exact z1q S.rwn hn,by simp;lia,λp hp=> ?_,λv hv=>S.out v λh=>hv (by rw[List.map_append];exact List.mem_append_left _ h),S.eok,?_⟩
 ·rcases mem p hp with h|rfl
  ·exact U.at ((S.rin p h).cons _) (S.ne h)
  ·rw[S.out w hn];exact U.at At.hd hr
 ·rcases mem p hp with h|rfl
  ·exact S.wok p h
  ·exact hw
 ·rw[List.map_append]
  refine z1q (l:=ro::rv.map (·.2)) S.sep λh=> ?_
  rcases List.mem_cons.mp h with h|h
  ·exact hr h
  ·obtain⟨p,hp,e⟩:=List.mem_map.mp h
   exact hf.ne (S.rin p hp) e
theorem Rw.at(S:Rw σ ro rv es){w:Str}(h:w∈rv.map (·.1)):∃b,(w,b)∈rv/\vAt (kvV rv) w=some (.ref b)/\At σ b (dI (esV (es w))):=by
 apply z0p h;intro p hp
 exact⟨p.2,hp,z0X (by rw[z0x];exact S.rwn) (List.mem_map.mpr ⟨p,hp,rfl⟩),S.rin p hp⟩
noncomputable def y3s(f s:Int):V->V
 | .int j=> .int (f+j*s)
 |v=>v
noncomputable def z4p(r1:Expr):TC:=⟨[.psh (.int 1),.loc 0,.psh (.int 0),.call (.ref 321) 2,.loc 1,.binc .Mod,.binc .Add,.asg 3,.loc 0,.loc 3,.psh (.int 1),.binc .Add,.call (.ref 326) 2,.asg 4,.asgL 5,.loc 3,.forR 6 [.loc 0,.psh (.int 10),.loc 6,.binc .Add,.call (.ref 321) 2,.asg 7,.psh (.int 1),.psh (.int 999),.psh (.int 3),.loc 2,.binc .Mult,.binc .Sub,.psh (.int 1),.loc 7,.psh (.int 12),.binc .FloorDiv,.psh (.int 900),.binc .Mod,.binc .Add,.psh (.int 1),.loc 7,.psh (.int 12),.binc .FloorDiv,.psh (.int 20),.binc .Mod,.binc .Add,.lst 4,.loc 7,.psh (.int 4),.binc .Mod,.sub,.asg 8,.loc 5,.mty "list",.raw r1,.meth (.bi "list.append") 1,.pop],.asgD 9,.loc 3,.forR 6 [.dic,.loc 9,.loc 4,.loc 6,.sub,.setI,.loc 5,.loc 6,.sub,.len,.forR 10 [.loc 0,.loc 4,.loc 5,.loc 6,.psh (.int 20),.psh (.int 9),.loc 6,.binc .Mult,.binc .Add,.psh (.int 3),.loc 10,.binc .Mult,.binc .Add,.call (.ref 338) 5,.loc 9,.loc 4,.loc 6,.sub,.sub,.loc 5,.loc 6,.sub,.loc 10,.sub,.setI]],.loc 9,.ret],[.inr r1],[([3,0,2],some [1])]⟩
--z4p 1
structure MkOk(mm:Nat)(ms:List Int):Prop where
 lo:0<ms.length
 hi:ms.length<=mm
 mb:∀i∈ms,1<=i/\i<=999
 nd:ms.Nodup
theorem y1T{f st:Int}{c mm:Nat}(g0:1<=f)(g1:f<=999-3*(mm:Int))(hc:0<c)(hcm:c<=mm)(e0:0<=st)(e1:st<3):∃ms:List Int,(z1o 0 1 c).map (y3s f (1+st))=ms.map V.int/\MkOk mm ms:=by
 have h3:st=0∨st=1∨st=2:=by lia
 refine⟨(List.range c).map λj:Nat=>f+(j:Int)*(1+st),by rw[z4k,List.map_map,List.map_map];rfl,by rw[List.length_map,List.length_range];exact hc,by rw[List.length_map,List.length_range];exact hcm,λx hx=> ?_,z1M λa b _ _ e=> ?_⟩
 ·apply z0p hx;intro j hj
  have hj:=List.mem_range.mp hj
  clear hx
  rcases h3 with rfl|rfl|rfl<;>constructor<;>lia
 ·rcases h3 with rfl|rfl|rfl<;>lia
theorem y19{n:Int}{mm:Nat}(h1:1<=mm)(h8:mm<=8):∀X∈[V.int 1,.int (999-3*(mm:Int)),.int (1+(n.fdiv 12).fmod 900),.int (1+(n.fdiv 12).fmod 20)],∃f,X= .int f/\1<=f/\f<=999-3*(mm:Int):=by
 have d0:=Int.fmod_nonneg_of_pos (n.fdiv 12) (show(0:Int)<900 by decide)
 have d1:=Int.fmod_lt_of_pos (n.fdiv 12) (show(0:Int)<900 by decide)
 have d2:=Int.fmod_nonneg_of_pos (n.fdiv 12) (show(0:Int)<20 by decide)
 have d3:=Int.fmod_lt_of_pos (n.fdiv 12) (show(0:Int)<20 by decide)
 refine List.forall_mem_cons.mpr ⟨⟨_,rfl,by decide,by lia⟩,List.forall_mem_cons.mpr ⟨⟨_,rfl,by lia,Int.le_refl _⟩,List.forall_mem_cons.mpr ⟨⟨_,rfl,by lia,by lia⟩,List.forall_mem_cons.mpr ⟨⟨_,rfl,by lia,by lia⟩,λ_ h=>by cases h⟩⟩⟩⟩
structure RwNew(mm:Nat)(σ σ':Sto)(ro:Addr)(rv:List (Str×Addr))(es:Str->List (Int×List z0c)):Prop where
 rw_:Rw σ' ro rv es
 ne:∀p∈rv,es p.1≠[]/\(es p.1).length<=mm
 lo:0<rv.length
 fr:Fresh σ ro/\∀p∈rv,Fresh σ p.2
 keep:∀p∈σ,p∈σ'
inductive MkI(a0 a1 a2 a3 a4:V)(mka:Addr)(mm:Nat)(σ:Sto)(i:Nat):Loc->Sto->Prop
 |mk {o:Obj} {mss:List (List Int)} {k num fst:Option V}:mss.length=i->(∀ms∈mss,MkOk mm ms)->MkI a0 a1 a2 a3 a4 mka mm σ i [some a0,some a1,some a2,some a3,some a4,some (.ref mka),k,num,fst,none,none] ((mka,o,.list (msV mss))::σ)
inductive RwI(a0 a1 a2 a3 a4 a5:V)(num fst:Option V)(ro:Addr)(ws:List Str)(mm:Nat)(σ1:Sto)(i:Nat):Loc->Sto->Prop
 |mk {rv:List (Str×Addr)} {es:Str->List (Int×List z0c)} {k j:Option V} {τ:Sto}:Rw τ ro rv es->rv.map (·.1)=ws.take i->(∀p∈rv,es p.1≠[]/\(es p.1).length<=mm)->(∀p∈rv,Fresh σ1 p.2)->(∀p∈σ1,p∈τ)->RwI a0 a1 a2 a3 a4 a5 num fst ro ws mm σ1 i [some a0,some a1,some a2,some a3,some a4,some a5,k,num,fst,some (.ref ro),j] τ
inductive RjI(a0 a1 a2 a3 a4 a5 a6:V)(num fst:Option V)(ro:Addr)(rv:List (Str×Addr))(es:Str->List (Int×List z0c))(w:Str)(ms:List Int)(σ1:Sto)(jj:Nat):Loc->Sto->Prop
 |mk {l:List (Int×List z0c)} {j:Option V} {τ:Sto}:Rw τ ro rv (z1W es w l)->l.map (·.1)=ms.take jj->(∀p∈σ1,p∈τ)->RjI a0 a1 a2 a3 a4 a5 a6 num fst ro rv es w ms σ1 jj [some a0,some a1,some a2,some a3,some a4,some a5,some a6,num,fst,some (.ref ro),j] τ
theorem z7C(H:G1 C){xs:List Int}{most mm:Nat}(hx:xs.length<=100)(h0:0<most)(h1:most<=12)(m1:1<=mm)(m8:mm<=8)
  (q:∀ro rv es σ',RwNew mm σ σ' ro rv es->rv.length<=most->Q (.ref ro) σ'):
  CW C (d+4) (.ref 343) [.lst (xs.map V.int),.int (most:Int),.int (mm:Int)] σ Q:=by
 refine z0G (G1.kin (by assumption)) ["_law_script","_law_most","_law_many_makes","_law_many","_law_names_here","_law_makes","_law_k","_law_number","_law_first","_law_rows_here","_law_j"] [("_law_mixed",.ref 321),("_law_names",.ref 326),("range",.type "range"),("len",.bi "len"),("_law_needs",.ref 338)] (by kernel_rfl) (vs3 λ_ _ _=>by kernel_rfl) rfl (z0a (z1A (by assumption)) (z0a (z3N (by assumption)) (z0a (z2m (by assumption)) (z0a (z0Q (by assumption)) (z0a (z6n (by assumption)) GL_nil))))) ?_
 intro env hsc
 refine z0e (z0l H) (z0m H) (z4p _) (by exact rfl) (by kernel_rfl) ?_
 intro F m0
 refine Leaf.mk (fnc (z0E H hx (by decide) (by decide) λn0 b0 b1=> ?_))
 clear b0 b1
 refine z09 h0 λr0 hr0=> ?_
 have hrm:1+r0<=most:=Nat.add_comm 1 r0▸hr0
 have hr1:0<1+r0:=Nat.add_comm 1 r0▸Nat.succ_pos r0
 have hr2:=Nat.le_trans hrm h1
 have hrk:1+r0<=1000:=Nat.le_trans hr2 (by decide)
 refine Leaf.mk (fnc (z3Q H (n:=1+r0+1) hx (Nat.le_trans (Nat.succ_le_succ hr2) (by decide)) λws wl hw hwn=> ?_))
 intro mka omk hfm
 refine Leaf.mk (.mk (1+r0) (MkI (.lst (xs.map V.int)) (.int (most:Int)) (.int (mm:Int)) (.int ((1+r0:Nat):Int)) (.lst (ws.map V.str)) mka mm σ) rfl hrk (.mk (mss:=[]) rfl λ_ h=>by cases h) (λi hi m τ hI QB hQB _=> ?_) λm τ hI=> ?_)
 ·clear q
  refine hI.casesOn @λo mss k num fst hml hms=> ?_
  have hi12:i<12:=Nat.lt_of_lt_of_le hi hr2
  refine Leaf.mk (fnc (z0E H (k:=((10+i:Nat):Int)) hx (Int.natCast_nonneg _) (Int.ofNat_lt.mpr (Nat.lt_trans (Nat.add_lt_add_left hi12 10) (by decide))) λn c0 c1=> ?_))
  clear c0 c1
  repeat' first|(refine Leaf.mk ?_;with_reducible refine z3Y ?_ (IntMulOk.of_left (by with_unfolding_all decide)))|refine Leaf.mk ?_|fail
  refine z3T (Int.fmod_nonneg_of_pos _ (by decide)) (Int.fmod_lt_of_pos _ (by decide)) (show 4<2^40 by decide) λX hX=> ?_
  obtain⟨f,rfl,g0,g1⟩:=y19 (n:=n) m1 m8 X hX
  clear hX
  have e0:=Int.fmod_nonneg_of_pos (n.fdiv 24) (show(0:Int)<3 by decide)
  have e1:=Int.fmod_lt_of_pos (n.fdiv 24) (show(0:Int)<3 by decide)
  have hmp:(0:Int)<(mm:Int):=Int.ofNat_lt.mpr m1
  have hmz:(mm:Int)≠0:=Int.ne_of_gt hmp
  obtain⟨c,hc⟩:=Int.eq_ofNat_of_zero_le (Int.fmod_nonneg_of_pos (n.fdiv 72) hmp)
  have hcm:1+c<=mm:=Nat.add_comm 1 c▸Int.ofNat_lt.mp (hc▸Int.fmod_lt_of_pos (n.fdiv 72) hmp)
  obtain⟨ms,hme,hmo⟩:=y1T g0 g1 (Nat.add_comm 1 c▸Nat.succ_pos c) hcm e0 e1
  have hmo1:∀j:Int,IntMulOk j (1+(n.fdiv 24).fmod 3):=λj=>z3O (by lia)
  have hck:1+c<=1000:=Nat.le_trans hcm (Nat.le_trans m8 (by decide))
  clear e0 e1 g0 g1
  repeat' first|(refine Leaf.mk ?_;with_reducible refine⟨tyL At.hd,?_⟩)|refine Leaf.mk ?_|fail
  show AT C env ["_law_script","_law_most","_law_many_makes","_law_many","_law_names_here","_law_makes","_law_k","_law_number","_law_first","_law_rows_here","_law_j"] _ true _ (eval _ env) [some (.lst (xs.map V.int)),some (.int (most:Int)),some (.int (mm:Int)),some (.int ((1+r0:Nat):Int)),some (.lst (ws.map V.str)),some (.ref mka),some (.int (i:Int)),some (.int n),some (.int f),none,none] _ _
  refine z1u "_law_j" ["_law_first","_law_number"] [] (by rw[hsc];kernel_rfl) GL_nil (.cons LkC.lk (.cons LkC.lk .nil)) (z2L ?_)
  repeat' with_reducible first|refine z0n ?_|refine z1s ?_|refine z0O ?_|refine z0H ?_|refine z1L ?_|refine z0q ?_|refine z0v ?_|refine z5X ?_|refine z57 ?_ (by with_reducible assumption)|refine z58 ?_ (by with_unfolding_all decide) (by with_unfolding_all decide)|refine z2T ?_|refine⟨z0R,?_⟩|fail
  rw[hc]
  refine⟨_,_,_,1+c,rfl,y0D hck,y1F (1+c),z0t (by rw[z1D];exact Nat.le_trans hck (by decide)),λenv' he=>z2a (f:=y3s f (1+(n.fdiv 24).fmod 3)) (z0u he (by decide+kernel)) trivial _ _ _ (λX hX K hK=> ?_) ?_⟩
  ·obtain⟨j,hj,rfl⟩:=z2e hX
   repeat' with_reducible first|refine z0n ?_|refine z0O ?_|refine z1L ?_|refine z5X ?_|refine z57 ?_ (by with_unfolding_all decide)|refine z58 ?_ (by with_unfolding_all decide) (by with_unfolding_all decide)|refine z3Y ?_ ?_|fail
   all_goals first|exact hmo1 _|exact hK
  rw[List.nil_append,hme]
  refine Leaf.mk (z1O (z0t (by unfold msV;rw[List.length_map,hml];exact Nat.le_trans (Nat.le_of_lt hi12) (by decide))) λo'=> ?_)
  refine hQB _ _ ?_
  rw[show msV mss++[.lst (ms.map V.int)]=msV (mss++[ms]) by unfold msV;rw[List.map_append];rfl]
  exact .mk (by rw[List.length_append,hml];rfl) λx hx=>(List.mem_append.mp hx).elim (hms x) λh=>List.mem_singleton.mp h▸hmo
 refine hI.casesOn @λo mss k num fst hml hms=> ?_
 have hMs:MsOk mss:=⟨by rw[hml];exact hr1,by rw[hml];exact hr2,λms hm=>⟨(hms ms hm).lo,Nat.le_trans (hms ms hm).hi m8,(hms ms hm).mb⟩,λms hm=>(hms ms hm).nd⟩
 intro ro oro hfr
 have hmem:(mka,o,AO.list (msV mss))∈(mka,o,AO.list (msV mss))::σ:= .head _
 generalize hσ1:(mka,o,AO.list (msV mss))::σ=σ1 at hfr hmem⊢
 have hsub:∀p∈σ,p∈σ1:=λp hp=>by rw[<-hσ1];exact .tail _ hp
 clear hσ1 hfm
 refine Leaf.mk (.mk (1+r0) (RwI (.lst (xs.map V.int)) (.int (most:Int)) (.int (mm:Int)) (.int ((1+r0:Nat):Int)) (.lst (ws.map V.str)) (.ref mka) num fst ro ws mm σ1) rfl hrk (.mk (rv:=[]) (es:=λ_=>[]) ⟨At.hd,(λ_ h=>by cases h),List.nodup_nil,by decide,(λ_ h=>by cases h),(λ_ _=>rfl),(λ_=> .nil),List.nodup_cons.mpr ⟨List.not_mem_nil,List.nodup_nil⟩⟩ rfl (λ_ h=>by cases h) (λ_ h=>by cases h) λp hp=> .tail _ hp) (λi hi m τ hI QB hQB _=> ?_) λm τ hI=> ?_)
 ·clear q
  refine hI.casesOn @λrv es k j τ S hkeys hne hfp hkp=> ?_
  have hi12:i<12:=Nat.lt_of_lt_of_le hi hr2
  have hik:i<1000:=Nat.lt_trans hi12 (by decide)
  have hwi:i<ws.length:=by rw[wl];exact Nat.lt_succ_of_lt hi
  have hwnew:ws[i]∉rv.map (·.1):=by rw[hkeys];exact z7y hwn hwi
  have htk:ws.take (i+1)=ws.take i++[ws[i]]:=z7v hwi
  obtain⟨w,hwe⟩:∃w,ws[i]=w:=⟨_,rfl⟩
  rw[hwe] at hwnew htk
  have hwe:ws[i]? =some w:=by rw[List.getElem?_eq_getElem hwi,hwe]
  have hwm:w∈ws:=List.mem_of_getElem? hwe
  have hweV:=z1y (f:=V.str) hwe
  have hmi:i<mss.length:=by rw[hml];exact hi
  obtain⟨ms,hmse⟩:∃ms,mss[i]? =some ms:=⟨_,List.getElem?_eq_getElem hmi⟩
  have hmo:=hms ms (List.mem_of_getElem? hmse)
  have hmsV:(msV mss)[i]? =some (V.lst (ms.map V.int)):=z1y hmse
  have hkl:rv.length=i:=z5c hkeys (Nat.le_of_lt hwi)
  have hrn:((kvV rv).map (·.1)).Nodup:=by rw[z0x];exact S.rwn
  have hkz:(kvV rv).length<=sizeLine:=z0t (by unfold kvV;rw[List.length_map,hkl];exact Nat.le_trans (Nat.le_of_lt hi12) (by decide))
  intro b ob hfb
  refine Leaf.mk (z04 (.lst _) hik hweV ?_)
  refine Leaf.mk (y38 (S.rows.cons _) hrn hkz λτ1 U=> ?_)
  rw[z1w (by rw[z0x];exact hwnew),<-z87] at U
  have S1:=S.add (hw w hwm) hwnew (hkl▸hi12) hfb U
  have hb1:(w,b)∈rv++[(w,b)]:=List.mem_append_right _ (.head _)
  have hkp1:∀p∈σ1,p∈τ1:=λp hp=>U.keep p (.tail _ (hkp p hp)) λe=>hfr p hp e
  have hbf:Fresh σ1 b:=λp hp=>hfb p (hkp p hp)
  have hout:=S.out w hwnew
  have hm8:ms.length<=8:=Nat.le_trans hmo.hi m8
  have hmz:(ms.map V.int).length<=sizeLine:=z0z hm8 (by decide)
  clear S U hfb hkp hrn hkz hkl hmse
  refine Leaf.mk (z04 (.refL (hkp1 _ hmem)) hik hmsV ?_)
  refine Leaf.mk (z0L (.lst _) (List.length_map _) hmz ?_)
  refine Leaf.mk (.mk ms.length (RjI (.lst (xs.map V.int)) (.int (most:Int)) (.int (mm:Int)) (.int ((1+r0:Nat):Int)) (.lst (ws.map V.str)) (.ref mka) (.int (i:Int)) num fst ro (rv++[(w,b)]) es w ms σ1) rfl (Nat.le_trans hm8 (by decide)) (.mk (l:=[]) (by rw[z9C hout];exact S1) rfl hkp1) (λjj hj m τ2 hI QB hQB' _=> ?_) λm τ2 hI=> ?_)
  ·clear hQB S1 hkp1 hne hfp htk
   refine hI.casesOn @λl j2 τ2 S2 hlk hkp2=> ?_
   have hj8:jj<8:=Nat.lt_of_lt_of_le hj hm8
   have hjk:jj<1000:=Nat.lt_trans hj8 (by decide)
   have hjnew:ms[jj]∉l.map (·.1):=by rw[hlk];exact z7y hmo.nd hj
   have hjt:ms.take (jj+1)=ms.take jj++[ms[jj]]:=z7v hj
   have hjm:=hmo.mb _ (List.getElem_mem hj)
   have hje:ms[jj]? =some ms[jj]:=List.getElem?_eq_getElem hj
   generalize ms[jj]=mk at hje hjm hjnew hjt
   have hjV:=z1y (f:=V.int) hje
   have hat:=S2.rin _ hb1
   have hlok:=S2.eok w
   rw[z0y] at hat hlok
   have hll:l.length=jj:=z5c hlk (Nat.le_of_lt hj)
   have hrn2:((kvV (rv++[(w,b)])).map (·.1)).Nodup:=by rw[z0x];exact S2.rwn
   have hrv2:vAt (kvV (rv++[(w,b)])) w=some (.ref b):=z0X hrn2 (List.mem_map.mpr ⟨_,hb1,rfl⟩)
   have hen:((esV l).map (·.1)).Nodup:=by rw[z0s];exact hlok.nd
   have hlz:(esV l).length<=sizeLine:=z0t (by unfold esV;rw[List.length_map,hll];exact Nat.le_trans (Nat.le_of_lt hj8) (by decide))
   have hro:=S2.rows
   repeat' first|(refine Leaf.mk ?_;with_reducible refine z3Y ?_ (IntMulOk.of_left (by with_unfolding_all decide)))|refine Leaf.mk ?_|fail
   refine fnc (z6I H hx (at_:=((20+9*i+3*jj:Nat):Int)) ⟨_,hkp2 _ hmem⟩ hMs (by rw[wl,hml]) hw hwn hmi hwe (Int.natCast_nonneg _) (Int.ofNat_lt.mpr (show 20+9*i+3*jj<900 by lia)) λns hns=> ?_)
   refine Leaf.mk (z04 (.lst _) hik hweV ?_)
   refine Leaf.mk (z2k hro hrn2 hrv2 ?_)
   refine Leaf.mk (z04 (.refL (hkp2 _ hmem)) hik hmsV ?_)
   refine Leaf.mk (z04 (.lst _) hjk hjV ?_)
   refine Leaf.mk (z4U hat hen hlz λτ3 U3=> ?_)
   rw[z1w (by rw[z0s];exact hjnew),<-z4L] at U3
   refine hQB' _ _ (.mk (l:=l++[(mk,ns)]) ?_ (by rw[List.map_append,hlk,hjt];rfl) λp hp=>U3.keep p (hkp2 p hp) (hbf p hp))
   rw[<-z4i es w l]
   exact S2.set hb1 (hlok.add hjnew (hll▸hj8) hjm.1 hjm.2 hns) U3
  ·refine hI.casesOn @λl j2 τ2 S2 hlk hkp2=> ?_
   rw[List.take_length] at hlk
   have hll:l.length=ms.length:=by rw[<-hlk,List.length_map]
   refine hQB _ _ (.mk (rv:=rv++[(w,b)]) S2 (by rw[List.map_append,hkeys,htk];rfl) (λp hp=> ?_) (λp hp=>(List.mem_append.mp hp).elim (hfp p) λh=>List.mem_singleton.mp h▸hbf) hkp2)
   rcases List.mem_append.mp hp with h|h
   ·rw[z0W (λe=>hwnew (by rw[<-e];exact List.mem_map.mpr ⟨p,h,rfl⟩))];exact hne p h
   ·rw[List.mem_singleton.mp h,z0y]
    exact⟨λe=>Nat.lt_irrefl 0 (by have:=hmo.lo;rw[<-hll,e] at this;exact this),by rw[hll];exact hmo.hi⟩
 ·refine hI.casesOn @λrv es k j τ S hkeys hne hfp hkp=> ?_
  have hkl:rv.length=1+r0:=z5c hkeys (by rw[wl];exact Nat.le_succ _)
  exact q ro rv es τ ⟨S,hne,by rw[hkl];exact hr1,⟨λp hp=>hfr p (hsub p hp),λp hp p' hp'=>hfp p hp p' (hsub p' hp')⟩,λp hp=>hkp p (hsub p hp)⟩ (by rw[hkl];exact hrm)
end
end
section
section
variable {C:Cx} {d:Nat} {σ:Sto} {Q:V->Sto->Prop} {ro:Addr} {rv:List (Str×Addr)} {es:Str->List (Int×List z0c)}
structure WishOk(wi:List z0c):Prop where
 len:wi.length<=8
 ok:∀n∈wi,NeedOk n
theorem y4O{xs:List V}(h1:0<xs.length)(hs:xs.length<2^40)(q:∀X∈xs,Q X σ):SubR C d (.lst xs) (.int (-1)) σ Q:=by
 have hl:(-1+(xs.length:Int)).toNat<xs.length:=by lia
 exact z9d (.lst _) (by decide) (by lia) (by decide) (List.getElem?_eq_getElem hl) (q _ (List.getElem_mem hl))
theorem y0E{l:List Int}{P:Int->Prop}(h:∀i∈l,P i):∀i∈z1a l,P i:=λi hi=>h i ((z0C l).mem_iff.mp hi)
theorem z72(H:G1 C)(S:Rw σ ro rv es)(hne:∀p∈rv,es p.1≠[]/\(es p.1).length<=8){w:Str}(hw:w∈rv.map (·.1)):
  0<(z1a ((es w).map (·.1))).length/\(z1a ((es w).map (·.1))).length<=20/\∀i∈z1a ((es w).map (·.1)),1<=i/\i<=999:=by
 apply z0p hw;intro p hp
 have h:=hne p hp
 have hl:(z1a ((es p.1).map (·.1))).length=(es p.1).length:=by rw[(z0C _).length_eq,List.length_map]
 refine⟨by rw[hl];exact List.length_pos_iff.mpr h.1,by lia,y0E λi hi=> ?_⟩
 apply z0p hi;intro e he
 exact(S.eok p.1).mb e he
noncomputable def z4r(r1:Expr):TC:=⟨[.loc 1,.call (.type "list") 1,.loc 0,.loc 1,.len,.psh (.int 1),.binc .Add,.call (.ref 326) 2,.psh (.int 1),.una .USub,.psh .none,.psh .none,.slc,.sub,.binc .Add,.asg 3,.asgL 4,.loc 0,.psh (.int 170),.call (.ref 321) 2,.asg 5,.psh (.int 1),.loc 5,.psh (.int 9),.binc .FloorDiv,.loc 2,.binc .Mod,.binc .Add,.psh (.int 8),.psh (.int 0),.lst 3,.psh (.int 0),.psh (.int 0),.psh (.int 0),.psh (.int 0),.psh (.int 2),.psh (.int 0),.psh (.int 1),.psh (.int 0),.psh (.int 0),.lst 9,.loc 5,.psh (.int 9),.binc .Mod,.sub,.sub,.forR 6 [.loc 0,.psh (.int 171),.loc 6,.binc .Add,.call (.ref 321) 2,.asg 5,.loc 3,.loc 5,.loc 1,.len,.binc .Mod,.sub,.asg 7,.cut [.loc 5,.psh (.int 7),.binc .FloorDiv,.psh (.int 24),.binc .Mod,.psh (.int 5),.tcmpc .Eq,.ife [.loc 3,.psh (.int 1),.una .USub,.sub,.asg 7] []],.loc 5,.psh (.int 168),.binc .FloorDiv,.loc 1,.mty "dict",.loc 7,.raw r1,.meth (.bi "dict.get") 2,.call (.bi "sorted") 1,.call (.ref 333) 2,.asg2 8 9,.drp,.loc 4,.mty "list",.loc 7,.loc 8,.loc 9,.tup 3,.meth (.bi "list.append") 1,.pop],.loc 4,.ret],[.inr r1],[([3,0,3],some [2,1,2])]⟩
--z4r 1
theorem z9T(H:G1 C)(S:Rw σ ro rv es)(hne:∀p∈rv,es p.1≠[]/\(es p.1).length<=8){nm:Str}{b:Addr}{τ:Sto}(hk:∀a x,At σ a x->At τ a x)(hb:At τ b (.dict (z00 (KK.int C.prog C.w) [(7,V.lst [])])))(q:∀ms:List Int,0<ms.length->ms.length<=20->(∀i∈ms,1<=i/\i<=999)->Q (.lst (ms.map V.int)) τ):KW C d (.bi "sorted") [(vAt (kvV rv) nm).getD (.ref b)] τ Q:=by
 by_cases hm:nm∈rv.map (·.1)
 ·obtain⟨b',hb',e,hat⟩:=S.at hm
  have hs:=z72 H S hne hm
  rw[e]
  refine z2W (kvs:=esV (es nm)) H.ns (hk _ _ hat) (by rw[z0s];exact(S.eok nm).nd) (by unfold esV;rw[List.length_map];exact Nat.lt_of_le_of_lt (hne _ hb').2 (by decide)) (.inl ?_)
  rw[z0s]
  exact q _ hs.1 hs.2.1 hs.2.2
 ·rw[z1k (by rw[z0x];exact hm)]
  refine z2W (kvs:=[(7,V.lst [])]) H.ns hb (by decide) (by decide) (.inl ?_)
  show Q (.lst ((z1a [7]).map V.int)) _
  rw[show z1a [7]=[7] from by simp[z1a]]
  exact q [7] (by decide) (by decide) (by decide)
theorem y1g{k:Nat}(h:k<8):∀X∈[V.int (1+(k:Int)),.int 8,.int 0],∃cnt:Nat,X= .int (cnt:Int)/\cnt<=8:=
 List.forall_mem_cons.mpr ⟨⟨1+k,rfl,Nat.add_comm 1 k▸h⟩,List.forall_mem_cons.mpr ⟨⟨8,rfl,by decide⟩,List.forall_mem_cons.mpr ⟨⟨0,rfl,by decide⟩,λ_ h=>by cases h⟩⟩⟩
inductive WiI(a0 a1 a2 a3:V)(a:Addr)(σ:Sto)(i:Nat):Loc->Sto->Prop
 |mk {o:Obj} {wi:List z0c} {v1 v2 v3 v4 v5:Option V}:wi.length<=i->(∀n∈wi,NeedOk n)->WiI a0 a1 a2 a3 a σ i [some a0,some a1,some a2,some a3,some (.ref a),v1,v2,v3,v4,v5] ((a,o,.list (wi.map z0h))::σ)
theorem z7L(H:G1 C){xs:List Int}{most:Nat}(hx:xs.length<=100)(S:Rw σ ro rv es)(hlo:0<rv.length)(hne:∀p∈rv,es p.1≠[]/\(es p.1).length<=8)(m1:0<most)(m2:most<=8)
  (q:∀wi,WishOk wi->Q (.lst (wi.map z0h)) σ):CW C (d+3) (.ref 350) [.lst (xs.map V.int),.ref ro,.int (most:Int)] σ Q:=by
 refine z1U ?_
 refine z0G (G1.kin (by assumption)) ["_law_script","_law_rows_here","_law_most","_law_names_here","_law_found","_law_number","_law_turn","_law_name","_law_low","_law_high"] [("list",.type "list"),("_law_names",.ref 326),("len",.bi "len"),("_law_mixed",.ref 321),("range",.type "range"),("_law_stretch",.ref 333),("sorted",.bi "sorted")] (by kernel_rfl) (vs3 λ_ _ _=>by kernel_rfl) rfl (z0a (z0T (by assumption)) (z0a (z3N (by assumption)) (z0a (z0Q (by assumption)) (z0a (z1A (by assumption)) (z0a (z2m (by assumption)) (z0a (z2Y (by assumption)) (z0a (z2G (by assumption)) GL_nil))))))) ?_
 intro env hsc
 clear hsc
 have hrl:=S.rl
 have hro:=S.rows
 have hrn:((kvV rv).map (·.1)).Nodup:=by rw[z0x];exact S.rwn
 have hkl:(kvV rv).length=rv.length:=List.length_map _
 have hkp:0<(kvV rv).length:=hkl▸hlo
 have hkz:(kvV rv).length<=sizeLine:=z0z hrl (by decide)
 refine z0e (z0l H) (z0m H) (z4r _) (by exact rfl) (by kernel_rfl) ?_
 intro F m0
 refine Leaf.mk (y10 H.ns hro hrn hkz (.inl ?_))
 refine Leaf.mk (z63 H.ns hro hrn hkz ?_)
 refine Leaf.mk (fnc (z3Q H (n:=(kvV rv).length+1) hx (Nat.le_trans (Nat.succ_le_succ (hkl▸hrl)) (by decide)) λws wl hw hwn=> ?_))
 refine Leaf.mk (z4B ?_)
 have hwl:(ws.map V.str).length<=20:=by rw[List.length_map,wl,hkl];exact Nat.le_trans (Nat.succ_le_succ hrl) (by decide)
 refine Leaf.mk (z0B (.lst _) (.int _) .none .none (λe=>nomatch e) (z0t (Nat.le_trans hwl (by decide))) (z0Z ?_))
 have hsl:=Nat.le_trans (z6G (xs:=ws.map V.str) (lo:=some (-1)) (hi:=none)) hwl
 have hnm:∀X∈((kvV rv).map λp=>V.str p.1)++slL (ws.map V.str) (some (-1)) none none,∃w,X= .str w/\Ware w:=λX hX=>by
  rcases List.mem_append.mp hX with h|h
  ·apply z0p h;intro p hp
   apply z0p hp;intro p' hp'
   exact⟨_,rfl,S.wok p' hp'⟩
  ·apply z0p (z2p X h);intro w hm
   exact⟨w,rfl,hw w hm⟩
 have hl1:((kvV rv).map λp=>V.str p.1).length=(kvV rv).length:=List.length_map _
 have hs40:((kvV rv).map λp=>V.str p.1).length+(slL (ws.map V.str) (some (-1)) none none).length<=40:=by rw[hl1,hkl];exact Nat.le_trans (Nat.add_le_add hrl hsl) (by decide)
 refine Leaf.mk (z08 (.lst _) (.lst _) (z0t (Nat.le_trans hs40 (by decide))) (z0Z ?_))
 have hnl:(((kvV rv).map λp=>V.str p.1)++slL (ws.map V.str) (some (-1)) none none).length<2^40:=by rw[List.length_append];exact Nat.lt_of_le_of_lt hs40 (by decide)
 have hlow:(kvV rv).length<=(((kvV rv).map λp=>V.str p.1)++slL (ws.map V.str) (some (-1)) none none).length:=by rw[List.length_append,hl1];exact Nat.le_add_right _ _
 generalize ((kvV rv).map λp=>V.str p.1)++slL (ws.map V.str) (some (-1)) none none=nms at hnm hnl hlow⊢
 clear hs40 hl1 hsl hwl hw hwn wl hlo hkl hrl
 intro a o hf
 refine Leaf.mk (fnc (z0E H hx (by decide) (by decide) λn0 b0 b1=> ?_))
 clear b0 b1
 refine z09 m1 λk hk=> ?_
 refine Leaf.mk (z3T (Int.fmod_nonneg_of_pos _ (by decide)) (Int.fmod_lt_of_pos _ (by decide)) (by decide) λX hX=> ?_)
 obtain⟨w0,rfl,w2⟩:∃w0:Nat,X= .int (w0:Int)/\w0<=2:=z5V (by decide) X hX
 clear hX
 refine Leaf.mk (z3T (Int.natCast_nonneg w0) (Int.ofNat_lt.mpr (Nat.lt_succ_of_le w2)) (show 3<2^40 by decide) λX hX=> ?_)
 obtain⟨cnt,rfl,c1⟩:=y1g (Nat.lt_of_lt_of_le hk m2) X hX
 clear hX hk w2
 refine Leaf.mk (.mk cnt (WiI (.lst (xs.map V.int)) (.ref ro) (.int (most:Int)) (.lst nms) a σ) rfl (Nat.le_trans c1 (by decide)) (.mk (wi:=[]) (Nat.le_refl _) λ_ h=>by cases h) (λi hi m τ hI QB hQB _=> ?_) λm τ hI=> ?_)
 ·clear q hf
  refine hI.casesOn @λo wi v1 v2 v3 v4 v5 hwl2 hok=> ?_
  have hi8:i<8:=Nat.lt_of_lt_of_le hi c1
  have hwV:(wi.map z0h).length<=sizeLine:=z0z (Nat.le_trans hwl2 (Nat.le_of_lt hi8)) (by decide)
  refine Leaf.mk (fnc (z0E H (k:=((171+i:Nat):Int)) hx (Int.natCast_nonneg _) (Int.ofNat_lt.mpr (Nat.lt_trans (Nat.add_lt_add_left hi8 171) (by decide))) λn c2 c3=> ?_))
  clear c2 c3
  refine Leaf.mk (z63 H.ns (hro.cons _) hrn hkz ?_)
  refine z09 hkp λj hj=> ?_
  refine Leaf.mk (z3T (Int.natCast_nonneg j) (Int.ofNat_lt.mpr (Nat.lt_of_lt_of_le hj hlow)) hnl λX hX=> ?_)
  obtain⟨nm0,rfl,hnw0⟩:=hnm X hX
  refine z3m (α:=Str) Ware (λnm=>[some (.lst (xs.map V.int)),some (.ref ro),some (.int (most:Int)),some (.lst nms),some (.ref a),some (.int n),some (.int (i:Int)),some (.str nm),v4,v5]) ((a,o,.list (wi.map z0h))::σ) (λK hK _=> ?_) λnm hnw=> ?_
  ·refine z0o (λ_=> ?_) λ_=>hK _ hnw0
   refine Leaf.mk (z4B ?_)
   refine Leaf.mk (y4O (Nat.lt_of_lt_of_le hkp hlow) hnl λX hX=> ?_)
   obtain⟨nm,rfl,hnw⟩:=hnm X hX
   exact hK _ hnw
  clear hX hnw0
  refine Leaf.mk ⟨tyD (hro.cons _),?_⟩
  refine Leaf.mk ?_
  show AT C env _ _ true _ (eval _ env) [some (.lst (xs.map V.int)),some (.ref ro),some (.int (most:Int)),some (.lst nms),some (.ref a),some (.int n),some (.int (i:Int)),some (.str nm),v4,v5] _ _
  refine z79 (KK.int C.prog C.w) λb ob hfb=> ?_
  repeat' with_reducible first|refine z0O ?_|refine z3C ?_|refine z0v ?_|refine⟨by with_unfolding_all exact Nat.le_of_ble_eq_true rfl,?_⟩|fail
  refine⟨7,rfl,rfl,λob'=> ?_⟩
  refine Leaf.mk (z4I H.ns ((hro.cons _).cons _) hrn ?_)
  refine Leaf.mk (z9T H S hne (λa x h=>(h.cons _).cons _) At.hd λms k0 k1 k2=> ?_)
  refine Leaf.mk (fnc (z2K H k0 k1 k2 λlo hi u0 u1 u2=> ?_))
  refine Leaf.mk ⟨(a,o,.list (wi.map z0h))::σ,List.sublist_cons_self _ _,?_⟩
  refine Leaf.mk ⟨tyL At.hd,?_⟩
  refine Leaf.mk (z1O hwV λo'=> ?_)
  refine hQB _ _ ?_
  have hm:WiI (.lst (xs.map V.int)) (.ref ro) (.int (most:Int)) (.lst nms) a σ (i+1) _ ((a,o',.list ((wi++[(nm,lo,hi)]).map z0h))::σ):= .mk (v1:=some (.int n)) (v2:=some (.int (i:Int))) (v3:=some (.str nm)) (v4:=some (.int lo)) (v5:=some (.int hi)) (by rw[List.length_append];exact Nat.succ_le_succ hwl2) λn hn=>(List.mem_append.mp hn).elim (hok n) λh=>List.mem_singleton.mp h▸⟨hnw,u0,u1,u2⟩
  rw[List.map_append] at hm
  exact hm
 ·cases hI with
  | @mk o wi v1 v2 v3 v4 v5 hwl2 hok=>exact⟨a,o,_,σ,rfl,rfl,q wi ⟨Nat.le_trans hwl2 c1,hok⟩⟩
end
end
section
section
variable {C:Cx} {d:Nat} {σ:Sto} {Q:V->Sto->Prop} {i k ro:Addr} {kv rv:List (Str×Addr)} {es:Str->List (Int×List z0c)}
theorem EsOk.e3{w:Str}{l:List (Int×List z0c)}(h:EsOk w l):(l.map (·.1)).Nodup/\l.length<=8/\∀p∈l,p.2.length<=6:=⟨h.nd,h.len,λp hp=>(h.nok p hp).len⟩
theorem Shp.frame{σ':Sto}(S:Shp σ i k kv es)(h:∀a∈i::k::kv.map (·.2),∀x,At σ a x->At σ' a x):Shp σ' i k kv es:=
 ⟨let⟨dx,e⟩:=S.inst;⟨dx,h _ (.head _) _ e⟩,h _ (.tail _ (.head _)) _ S.kept,S.kvn,S.kl,λp hp=>h _ (.tail _ (.tail _ (List.mem_map.mpr ⟨p,hp,rfl⟩))) _ (S.inn p hp),S.out,S.eok,S.sep⟩
theorem z1Y{P:Str->List (Int×List z0c)->Prop}{w:Str}{l:List (Int×List z0c)}(h:∀v,P v (es v))(hl:P w l):∀v,P v (z1W es w l v):=λv=>by
 by_cases e:v=w
 ·subst e;rw[z0y];exact hl
 ·rw[z0W e];exact h v
noncomputable abbrev E3(l:List (Int×List z0c)):Prop:=(l.map (·.1)).Nodup/\l.length<=8/\∀p∈l,p.2.length<=6
theorem Shp.vv(S:Shp σ i k kv es):(kv.map (·.2)).Nodup:=(List.nodup_cons.mp (List.nodup_cons.mp S.sep).2).2
theorem Shp.set(S:Shp σ i k kv es){σ':Sto}{w:Str}{a:Addr}{l:List (Int×List z0c)}(ha:(w,a)∈kv)(ok:EsOk w l)(U:UpdS σ σ' a (dI (esV l))):Shp σ' i k kv (z1W es w l):=by
 obtain⟨n1,n2,n3⟩:=S.ne ha
 obtain⟨dx,hin⟩:=S.inst
 refine⟨⟨dx,U.at hin n1⟩,U.at S.kept n2,S.kvn,S.kl,λp hp=> ?_,λv hv=> ?_,z1Y (P:=λ_ l=>E3 l) S.eok ok.e3,S.sep⟩
 ·by_cases e:p.1=w
  ·have:p=(w,a):=z1E S.kvn hp ha e
   subst this;rw[z0y];exact U.here
  ·rw[z0W e]
   exact U.at (S.inn p hp) λe2=>e (by rw[z1E S.vv hp ha e2])
 ·rw[z0W (λe=>hv (by rw[e];exact List.mem_map.mpr ⟨_,ha,rfl⟩))];exact S.out v hv
theorem Shp.add(S:Shp σ i k kv es){σ':Sto}{w:Str}{b:Addr}{l:List (Int×List z0c)}(hno:w∉kv.map (·.1))(hl:kv.length<12)(ok:EsOk w l)(hf:Fresh σ b)(h1:At σ' b (dI (esV l)))(h2:At σ' k (dS (kvV (kv++[(w,b)]))))(h3:∀p∈σ,p.1≠k->p∈σ'):
  Shp σ' i k (kv++[(w,b)]) (z1W es w l):=by
 have mv:∀c x,c≠k->At σ c x->At σ' c x:=λc x h ⟨o,ho⟩=>⟨o,h3 _ ho h⟩
 have mem:∀p∈kv++[(w,b)],p∈kv∨p=(w,b):=λp hp=>by simpa using hp
 obtain⟨dx,hin⟩:=S.inst
 have s1:=List.nodup_cons.mp S.sep
 have s2:=List.nodup_cons.mp s1.2
 refine⟨⟨dx,mv _ _ (λe=>s1.1 (e▸ .head _)) hin⟩,h2,by rw[List.map_append];exact z1q S.kvn hno,by simp;lia,λp hp=> ?_,λv hv=> ?_,z1Y (P:=λ_ l=>E3 l) S.eok ok.e3,?_⟩
 ·rcases mem p hp with h|rfl
  ·rw[z0W (λe=>hno (by rw[<-e];exact List.mem_map.mpr ⟨p,h,rfl⟩))]
   exact mv _ _ (λe=>s2.1 (e▸List.mem_map.mpr ⟨p,h,rfl⟩)) (S.inn p h)
  ·rw[z0y];exact h1
 ·rw[List.map_append,List.mem_append,not_or] at hv
  rw[z0W (λe=>hv.2 (by rw[e];exact .head _))];exact S.out v hv.1
 ·rw[List.map_append]
  refine z1q (l:=i::k::kv.map (·.2)) S.sep λh=> ?_
  rcases List.mem_cons.mp h with h|h
  ·exact hf.ne hin h.symm
  ·rcases List.mem_cons.mp h with h|h
   ·exact hf.ne S.kept h.symm
   ·obtain⟨p,hp,e⟩:=List.mem_map.mp h
    exact hf.ne (S.inn p hp) e
theorem Shp.del(S:Shp σ i k kv es){σ₁ σ':Sto}{w:Str}{a:Addr}(ha:(w,a)∈kv)(U:UpdS σ σ₁ a (dI []))(U2:UpdS σ₁ σ' k (dS (kvV (kv.filter λp=>decide (p.1≠w))))):
  Shp σ' i k (kv.filter λp=>decide (p.1≠w)) (z1W es w []):=by
 obtain⟨n1,n2,n3⟩:=S.ne ha
 obtain⟨dx,hin⟩:=S.inst
 have s1:=List.nodup_cons.mp S.sep
 have s2:=List.nodup_cons.mp s1.2
 have sub:∀p,p∈kv.filter (λp=>decide (p.1≠w))->p∈kv/\p.1≠w:=λp hp=>by simpa using List.mem_filter.mp hp
 refine⟨⟨dx,U2.at (U.at hin n1) n3⟩,U2.here,((List.filter_sublist).map _).nodup S.kvn,Nat.le_trans (List.length_filter_le _ _) S.kl,λp hp=> ?_,λv hv=> ?_,z1Y (P:=λ_ l=>E3 l) S.eok (EsOk.nil (w:=w)).e3,?_⟩
 ·obtain⟨h1,h2⟩:=sub p hp
  rw[z0W h2]
  exact U2.at (U.at (S.inn p h1) λe2=>h2 (by rw[z1E S.vv h1 ha e2])) λe=>s2.1 (e▸List.mem_map.mpr ⟨p,h1,rfl⟩)
 ·by_cases e:v=w
  ·rw[e,z0y]
  ·rw[z0W e]
   refine S.out v λhm=>hv ?_
   obtain⟨p,hp,rfl⟩:=List.mem_map.mp hm
   exact List.mem_map.mpr ⟨p,List.mem_filter.mpr ⟨hp,by simpa using e⟩,rfl⟩
 ·exact((((List.filter_sublist (l:=kv)).map (·.2)).cons_cons k).cons_cons i).nodup S.sep
theorem y3n(l:List (Str×Addr)):((kvV l).map λp=>(KK.str C.prog C.w).v p.1)=(l.map (·.1)).map V.str:=by rw[List.map_map,List.map_map];rfl
noncomputable def z4A(r1:Stmt):TC:=⟨[.rawS r1,.loc 0,.forDS 2 [.loc 0,.loc 2,.sub,.forDI 3 [.loc 1,.mI 310 "put",.loc 2,.loc 3,.loc 0,.loc 2,.sub,.loc 3,.sub,.call (.type "list") 1,.meth (.ref 279) 3,.pop]],.loc 1,.ret],[.inl r1],[([0],none)]⟩
--z4A 1
inductive ShI(ro x k:Addr)(rv:List (Str×Addr))(es:Str->List (Int×List z0c))(σ:Sto)(i:Nat):Loc->Sto->Prop
 |mk {kv:List (Str×Addr)} {es':Str->List (Int×List z0c)} {u v:Option V} {τ:Sto}:Shp τ x k kv es'->kv.map (·.1)=(rv.map (·.1)).take i->(∀w∈(rv.map (·.1)).take i,es' w=es w)->(∀p∈kv,Fresh σ p.2)->(∀p∈σ,p∈τ)->ShI ro x k rv es σ i [some (.ref ro),some (.ref x),u,v] τ
inductive SjI(ro x k:Addr)(kv:List (Str×Addr))(es':Str->List (Int×List z0c))(w:Str)(l:List (Int×List z0c))(σ:Sto)(j:Nat):Loc->Sto->Prop
 |mk {kv':List (Str×Addr)} {v:Option V} {τ:Sto}:Shp τ x k kv' (z1W es' w (l.take j))->(j=0/\kv'=kv∨0<j/\kv'.map (·.1)=kv.map (·.1)++[w])->(∀p∈kv',Fresh σ p.2)->(∀p∈σ,p∈τ)->SjI ro x k kv es' w l σ j [some (.ref ro),some (.ref x),some (.str w),v] τ
theorem EsOk.tk{w:Str}{l:List (Int×List z0c)}(h:EsOk w l)(j:Nat):EsOk w (l.take j):=
 ⟨((List.take_sublist _ _).map _).nodup h.nd,Nat.le_trans (List.take_sublist _ _).length_le h.len,λp hp=>h.mb p (List.mem_of_mem_take hp),λp hp=>h.nok p (List.mem_of_mem_take hp)⟩
theorem z36{α:Type}{l:List α}{j:Nat}{x:α}(h:l[j]? =some x):l.take (j+1)=l.take j++[x]:=by rw[List.take_add_one,h];rfl
theorem z9h{α:Type}{l:List α}(hn:l.Nodup){j:Nat}{x:α}(h:l[j]? =some x):x∉l.take j:=λhm=>by
 have:=(List.take_sublist (j+1) l).nodup hn
 rw[z36 h] at this
 exact(List.nodup_append.mp this).2.2 _ hm _ (.head _) rfl
theorem z7M(H:G1 C)(S:Rw σ ro rv es)(hne:∀p∈rv,es p.1≠[])
  (q:∀x k kv σ',Shp σ' x k kv es->kv.map (·.1)=rv.map (·.1)->Fresh σ x->Fresh σ k->(∀p∈kv,Fresh σ p.2)->(∀p∈σ,p∈σ')->Q (.ref x) σ'):CW C (d+5) (.ref 357) [.ref ro] σ Q:=by
 refine z0G (G1.kin (by assumption)) ["_law_rows_here","_law_shop_here","_law_ware","_law_make"] [("Shop",.ref 310),("list",.type "list")] (by kernel_rfl) (vs1 λ_=>by kernel_rfl) rfl (z0a (y31 (by assumption)) (z0a (z0T (by assumption)) GL_nil)) ?_
 intro env hsc
 clear hsc
 have hrn:((kvV rv).map (·.1)).Nodup:=by rw[z0x];exact S.rwn
 obtain⟨oro,hrm⟩:=S.rows
 refine z0e (z0l H) (z0m H) (z4A _) (by exact rfl) (by kernel_rfl) ?_
 intro F m0
 refine Leaf.mk ?_
 show AS C env ["_law_rows_here","_law_shop_here","_law_ware","_law_make"] [("Shop",.ref 310),("list",.type "list")] true _ (exec _ env) [some (.ref ro),none,none,none] _ _
 refine z1K (y0h (y1P H) ?_)
 with_reducible refine z1s ?_
 refine⟨rfl,y30 H λx k dx σ1 f1 f2 f3 f4 f5 f6=> ?_⟩
 with_reducible refine z2t ?_
 refine Leaf.mk (.mk ro oro (kvV rv) (ShI ro x k rv es σ) rfl H.ns (f6 _ hrm) hrn (.mk (kv:=[]) (es':=λ_=>[]) ⟨⟨dx,f4⟩,f5,List.nodup_nil,by decide,(λ_ h=>by cases h),(λ_ _=>rfl),(λ_=>(EsOk.nil (w:="")).e3),List.nodup_cons.mpr ⟨λh=>f3 (List.mem_singleton.mp h),List.nodup_cons.mpr ⟨List.not_mem_nil,List.nodup_nil⟩⟩⟩ rfl (λ_ h=>by cases h) (λ_ h=>by cases h) f6) (λi p hX m τ hI QB hQB _=> ?_) λm τ hI=> ?_)
 ·clear q
  refine hI.casesOn @λkv es' u v τ T hkeys hes hfp hkp=> ?_
  rw[List.getElem?_map] at hX
  apply z1I hX;rintro ⟨w,b⟩ hwb
  have hb:=List.mem_of_getElem? hwb
  have hwe:(rv.map (·.1))[i]? =some w:=z1y hwb
  have htk:=z36 hwe
  have hnew:w∉kv.map (·.1):=by rw[hkeys];exact z9h S.rwn hwe
  have hil:=(List.getElem?_eq_some_iff.mp hwb).1
  have hkl:kv.length<12:=by
   have:=congrArg List.length hkeys
   rw[List.length_map,List.length_take,List.length_map] at this
   have:=S.rl
   lia
  have hok:=S.eok w
  have hw:=S.wok _ hb
  have hen:((esV (es w)).map (·.1)).Nodup:=by rw[z0s];exact hok.nd
  obtain⟨ob,hbm⟩:=S.rin _ hb
  have hrb:vAt (kvV rv) w=some (.ref b):=z0X hrn (List.mem_map.mpr ⟨_,hb,rfl⟩)
  have hne1:=hne _ hb
  clear hX hwb hwe hil
  refine Leaf.mk (z2k ⟨oro,hkp _ hrm⟩ hrn hrb ?_)
  refine Leaf.mk (.mk b ob (esV (es w)) (SjI ro x k kv es' w (es w) σ) rfl H.ns (hkp _ hbm) hen (.mk (kv':=kv) (by rw[List.take_zero,z9C (T.out w hnew)];exact T) (.inl ⟨rfl,rfl⟩) hfp hkp) (λj p hX m τ2 hI QB hQB' _=> ?_) λm τ2 hI=> ?_)
  ·clear hQB hes hkeys hne1 T hfp hkp htk
   refine hI.casesOn @λkv' v' τ2 T2 hk2 hfp2 hkp2=> ?_
   rw[List.getElem?_map] at hX
   apply z1I hX;rintro ⟨mk,ns⟩ hme
   have hmem:=List.mem_of_getElem? hme
   have hjl:=(List.getElem?_eq_some_iff.mp hme).1
   have hns:=hok.nok _ hmem
   have hmb:=hok.mb _ hmem
   have hv:vAt (esV (es w)) mk=some (.lst (ns.map z0h)):=z0X hen (List.mem_map.mpr ⟨_,hmem,rfl⟩)
   have hjt:=z36 hme
   have hjnew:mk∉(z1W es' w ((es w).take j) w).map (·.1):=by rw[z0y,List.map_take];exact z9h hok.nd (z1y hme)
   have hj8:(z1W es' w ((es w).take j) w).length≠8:=by rw[z0y,List.length_take];have:=hok.len;lia
   have hokj:=hok.tk (j+1)
   obtain⟨dx',hin⟩:=T2.inst
   have hkl2:w∉kv'.map (·.1)->j=0/\kv'=kv:=λhno=>by
    rcases hk2 with h|⟨_,e⟩
    ·exact h
    ·rw[e] at hno;exact absurd (List.mem_append_right _ (.head _)) hno
   clear hX hme hjl hmem
   refine Leaf.mk (z0I hin (by decide+kernel) ?_)
   refine Leaf.mk (z2k ⟨oro,hkp2 _ hrm⟩ hrn hrb ?_)
   refine Leaf.mk (y4w ⟨ob,hkp2 _ hbm⟩ hen hv ?_)
   refine Leaf.mk (z1g (.lst _) (z0z hns.len (by decide)) (.inr λnl onl hfn=> ?_))
   have T3:Shp ((nl,onl,.list (ns.map z0h))::τ2) x k kv' (z1W es' w ((es w).take j)):=T2.frame λa _ y hy=>hy.cons _
   clear T2 hin
   refine Leaf.mk (fnc (y3o H T3 hw hmb.1 hmb.2 At.hd hns hjnew hj8 (λhno e=>Nat.ne_of_lt hkl (by rw[<-(hkl2 hno).2];exact e)) (λa ha σ2 U=> ?_) λhno b2 σ2 hf h1 h2 h3=> ?_))
   ·rw[z0y,<-hjt] at U
    have T4:=T3.set ha hokj U
    rw[z4i] at T4
    refine hQB' _ _ (U.keep _ (.tail _ (hkp2 _ hbm)) λe=>hfp2 _ ha _ hbm e) (.mk T4 (.inr ⟨Nat.succ_pos _,?_⟩) hfp2 λp hp=>U.keep p (.tail _ (hkp2 p hp)) λe=>hfp2 _ ha p hp e)
    rcases hk2 with⟨_,rfl⟩|⟨_,e⟩
    ·exact absurd (List.mem_map.mpr ⟨_,ha,rfl⟩) hnew
    ·exact e
   ·obtain⟨rfl,rfl⟩:=hkl2 hno
    have T4:=T3.add hno hkl hokj hf (by rw[hjt];exact h1) h2 h3
    rw[z4i] at T4
    have kp:∀p∈σ,p∈σ2:=λp hp=>h3 p (.tail _ (hkp2 p hp)) (f2 p hp)
    refine hQB' _ _ (kp _ hbm) (.mk T4 (.inr ⟨Nat.succ_pos _,List.map_append⟩) (λp hp=>(List.mem_append.mp hp).elim (hfp2 p) λh=>List.mem_singleton.mp h▸λp' hp'=>hf p' (.tail _ (hkp2 p' hp'))) kp)
  ·refine hI.casesOn @λkv' v' τ2 T2 hk2 hfp2 hkp2=> ?_
   have hz:(esV (es w)).length=(es w).length:=List.length_map _
   rw[hz,List.take_length] at T2
   have hk3:kv'.map (·.1)=kv.map (·.1)++[w]:=by
    rcases hk2 with⟨e,_⟩|⟨_,e⟩
    ·exact absurd (List.eq_nil_of_length_eq_zero (hz▸e)) hne1
    ·exact e
   refine hQB _ _ (hkp2 _ hrm) (.mk T2 (by rw[hk3,htk,hkeys]) (λv hv=> ?_) hfp2 hkp2)
   rw[htk] at hv
   by_cases e:v=w
   ·rw[e,z0y]
   ·rw[z0W e]
    exact(List.mem_append.mp hv).elim (hes v) λh=>absurd (List.mem_singleton.mp h) e
 ·refine hI.casesOn @λkv es' u v τ T hkeys hes hfp hkp=> ?_
  rw[List.length_map,<-List.length_map (f:=(·.1)),List.take_length] at hkeys hes
  have e:es'=es:=funext λv=>by
   by_cases h:v∈rv.map (·.1)
   ·exact hes v h
   ·rw[S.out v h,T.out v (by rw[hkeys];exact h)]
  subst e
  exact q x k kv τ T hkeys f1 f2 hfp hkp
end
end
section
section
variable {C:Cx} {d:Nat} {σ:Sto} {Q:V->Sto->Prop} {i k ro:Addr} {kv rv:List (Str×Addr)} {es:Str->List (Int×List z0c)}
noncomputable abbrev pkV(pk:List (Str×Int)):List (Str×V):=pk.map λp=>(p.1,V.int p.2)
theorem z0Y(pk:List (Str×Int)):(pkV pk).map (·.1)=pk.map (·.1):=by simp[List.map_map,Function.comp_def]
structure PkB(pk:List (Str×Int)):Prop where
 nd:(pk.map (·.1)).Nodup
 len:pk.length<=12
 ok:∀p∈pk,Ware p.1/\1<=p.2/\p.2<=999
noncomputable def PkIn(es:Str->List (Int×List z0c))(pk:List (Str×Int)):Prop:=∀p∈pk,∃ns,(p.2,ns)∈es p.1
noncomputable def nx(es:Str->List (Int×List z0c))(pk:List (Str×Int))(w:Str):List Str:=
 match pk.find? (λp=>decide (p.1=w)) with
 |none=>[]
 |some p=>match(es w).find? (λe=>decide (e.1=p.2)) with
  |none=>[]
  |some e=>e.2.map (·.1)
theorem z3V{K B:Type}[DecidableEq K]{l:List (K×B)}(hn:(l.map (·.1)).Nodup){k:K}{b:B}(h:(k,b)∈l):l.find? (λp=>decide (p.1=k))=some (k,b):=by
 cases e:l.find? (λp=>decide (p.1=k)) with
 |none=>exact absurd (List.find?_eq_none.mp e _ h) (by simp)
 |some p=>
  have h1:=List.mem_of_find?_eq_some e
  have h2:=List.find?_some e
  rw[z1E hn h1 h (by simpa using h2)]
theorem z9s{K B:Type}[DecidableEq K]{l:List (K×B)}{k:K}(h:k∉l.map (·.1)):l.find? (λp=>decide (p.1=k))=none:=
 List.find?_eq_none.mpr λp hp=>by
  have:p.1≠k:=λe=>h (e▸List.mem_map.mpr ⟨p,hp,rfl⟩)
  simpa using this
theorem y3t{pk:List (Str×Int)}(pb:PkB pk)(pi:PkIn es pk)(w:Str)(en:((es w).map (·.1)).Nodup):
  (w∉pk.map (·.1)/\vAt (pkV pk) w=none/\nx es pk w=[])∨∃mk ns,(w,mk)∈pk/\vAt (pkV pk) w=some (.int mk)/\(mk,ns)∈es w/\nx es pk w=ns.map (·.1):=by
 by_cases h:w∈pk.map (·.1)
 ·obtain⟨⟨w,mk⟩,hp,rfl⟩:=List.mem_map.mp h
  obtain⟨ns,hns⟩:=pi _ hp
  refine .inr ⟨mk,ns,hp,z0X (by rw[z0Y];exact pb.nd) (List.mem_map.mpr ⟨_,hp,rfl⟩),hns,?_⟩
  unfold nx
  rw[z3V pb.nd hp]
  show(match(es w).find? (λe:Int×List z0c=>decide (e.1=mk)) with|none=>[]|some e=>e.2.map (λn:z0c=>n.1))=_
  rw[z3V en hns]
 ·refine .inl ⟨h,z1k (by rw[z0Y];exact h),?_⟩
  unfold nx
  rw[z9s h]
set_option tactic.hygienic true in
theorem y3K{pk:List (Str×Int)}(h:∀w,∀p∈es w,p.2.length<=6)(w:Str):(nx es pk w).length<=6:=by
 unfold nx
 split
 ·exact Nat.zero_le _
 ·split
  ·exact Nat.zero_le _
  ·rename_i e he
   rw[List.length_map];exact h w _ (List.mem_of_find?_eq_some he)
theorem y5Q{b:Bool}(h:(!b)=true):¬b=true:=by cases b<;>simp at h⊢
theorem y5t{b:Bool}(h:(!b)=false):b=true:=by cases b<;>simp at h⊢
noncomputable def z4t(r1:Expr)(r2:Stmt):TC:=⟨[.loc 0,.isi .lst,.tvalc,.not,.mop .Or [.loc 0,.len,.psh (.int 8),.tcmpc .Gt,.mop .Or [.raw r1,.call (.bi "all") 1,.tvalc,.not,.mop .Or [.psh (.bool false)]]],.ife [.rawS r2] []],[.inr r1,.inl r2],[([0],some [2,0,1]),([0,0,0],none)]⟩
--z4t 2
noncomputable def t_agenda_of_1:TC:=⟨[.cut [.loc 3,.loc 5,.sub,.loc 2,.tcmpc .In,.ife [.loc 0,.mI 310 "needs",.loc 3,.loc 5,.sub,.loc 2,.loc 3,.loc 5,.sub,.sub,.meth (.ref 300) 2,.forL 4 [.loc 4,.subT 0,.loc 3,.tcmpc .NotIn,.ife [.loc 3,.mty "list",.loc 4,.subT 0,.meth (.bi "list.append") 1,.pop] []]] []],.loc 5,.psh (.int 1),.binc .Add,.asg 5],[],[]⟩
--t_agenda_of_1 0
noncomputable def z4C(r1:Stmt):TC:=⟨[.asgL 3,.loc 1,.forL 4 [.loc 4,.subT 0,.loc 3,.tcmpc .NotIn,.ife [.loc 3,.mty "list",.loc 4,.subT 0,.meth (.bi "list.append") 1,.pop] []],.psh (.int 0),.asg 5,.rawS r1,.loc 3,.ret],[.inl r1],[([3],none)]⟩
--z4C 1
theorem z4Q{x:V}{xs:List V}{P:Sto->Prop}{k:TK}(h:Has σ x (.list xs) P)(q:Q (.bool (TK.lst.is k)) σ):cQ ((y2G x k).map .bool) σ Q (KW C d (.bi "isinstance") [x,.type k.n] σ Q):=by
 cases h with
 |lst=>exact q
 |refL h=>exact⟨z6V (.refL h) q⟩
theorem z4x(H:G1 C){x:V}{wi:List z0c}{Px:Sto->Prop}(hx:Has σ x (.list (wi.map z0h)) Px)(ok:WishOk wi)(q:Q .none σ):CW C (d+3) (.ref 154) [x] σ Q:=by
 refine z0G (G1.kin (by assumption)) ["wish"] [("isinstance",.bi "isinstance"),("list",.type "list"),("len",.bi "len"),("MOST_WISHES",.int 8),("all",.bi "all"),("BadWish",.ref 109)] (by kernel_rfl) (vs1 λ_=>by kernel_rfl) rfl (z0a (z0k (by assumption)) (z0a (z0T (by assumption)) (z0a (z0Q (by assumption)) (z0a (z5z (by assumption)) (z0a (y0A (by assumption)) (z0a (y0a (by assumption)) GL_nil)))))) ?_
 intro env hsc
 have hz:(wi.map z0h).length<=sizeLine:=z0z ok.len (by decide)
 refine z0e (z0l H) (z0m H) (z4t _ _) (by exact rfl) (by kernel_rfl) ?_
 intro F m0
 refine z4Q hx ?_
 refine z5b hx hz ?_
 refine z0D (decide_eq_false (Int.not_lt.mpr (Int.ofNat_le.mpr (by rw[List.length_map];exact ok.len)))) ?_
 refine Leaf.mk ?_
 show AT C env ["wish"] _ true _ (eval _ env) [some x] _ _
 refine z1u "need" [] [("is_need",.ref 142)] (by rw[hsc];kernel_rfl) (z0a (z55 H) GL_nil) .nil (z1b ?_)
 with_reducible refine z0n ?_
 refine⟨_,_,hx,hz,λenv' he=>z2a (f:=λ_=> .bool true) (z0u he (by decide+kernel)) hx.p _ _ _ (λX hX K hK=> ?_) ?_⟩
 ·apply z0p hX;intro n hn
  repeat' with_reducible first|refine z0n ?_|refine z1s ?_|refine z0H ?_|refine z0q ?_|refine z0v ?_|refine⟨z6m (by assumption),?_⟩|fail
  exact fnc (z6b H (ok.ok n hn) hK)
 ·rw[List.nil_append,show(wi.map z0h).map (λ_=>V.bool true)=(wi.map λ_=>true).map V.bool by rw[List.map_map,List.map_map];rfl]
  refine Leaf.mk (y2j (.lst _) ?_)
  rw[show(wi.map λ_=>true).all id=true by rw[List.all_map];exact List.all_eq_true.mpr λ_ _=>rfl]
  exact q
theorem z4X{f:List Str}{l:List Str}{j:Nat}{y:Str}(h:l[j]? =some y):z1c f (l.take (j+1))=z1c (z1c f (l.take j)) [y]:=by rw[z36 h,z8a];rfl
noncomputable abbrev agC:List Ins:=[.loc 4,.subT 0,.loc 3,.tcmpc .NotIn,.ife [.loc 3,.mty "list",.loc 4,.subT 0,.meth (.bi "list.append") 1,.pop] []]
theorem z9l{F:Fx}{n:Nat}{QB:Fl->Loc->Sto->Prop}{a0 a1 a2:V}{v5:Option V}{a:Addr}{o:Obj}{f:List Str}{nd:z0c}(hl:f.length<=1000)(h:∀o',QB .next [some a0,some a1,some a2,some (.ref a),some (z0h nd),v5] ((a,o',.list ((z1c f [nd.1]).map V.str))::σ)):W F (n+50) QB agC [] [some a0,some a1,some a2,some (.ref a),some (z0h nd),v5] [] ((a,o,.list (f.map V.str))::σ):=by
 refine Leaf.mk (z8i (.refL (.head _)) (z0i ?_))
 have e:z1c f [nd.1]=if f.any (·==nd.1) then f else f++[nd.1]:=rfl
 refine z0o (λhb=> ?_) λhb=> ?_
 ·rw[if_neg (y5Q hb)] at e
  rw[e,List.map_append] at h
  refine Leaf.mk ⟨tyL At.hd,?_⟩
  exact⟨z1O (z0z hl (by decide)) h⟩
 ·rw[if_pos (y5t hb)] at e
  rw[e] at h
  exact h o
inductive AgI(a0 a1 a2:V)(a:Addr)(f l:List Str)(v5:Option V)(σ:Sto)(j:Nat):Loc->Sto->Prop
 |mk {o:Obj} {v:Option V}:AgI a0 a1 a2 a f l v5 σ j [some a0,some a1,some a2,some (.ref a),v,v5] ((a,o,.list ((z1c f (l.take j)).map V.str))::σ)
inductive AwI(a0 a1 a2:V)(a:Addr)(nx:Str->List Str)(R:List Str)(σ:Sto)(n:Nat):Loc->Sto->Prop
 |mk {o:Obj} {v:Option V} {f w:List Str}:Bf nx n f w R->(f++w).Nodup->f.length+n<=100->AwI a0 a1 a2 a nx R σ n [some a0,some a1,some a2,some (.ref a),v,some (.int (f.length:Int))] ((a,o,.list ((f++w).map V.str))::σ)
theorem z7T(H:G1 C)(S:Shp σ i k kv es){x:V}{wi:List z0c}{Px:Sto->Prop}(hx:Has σ x (.list (wi.map z0h)) Px)(ok:WishOk wi){pa:Addr}{pk:List (Str×Int)}(hp:At σ pa (dS (pkV pk)))(pb:PkB pk)(pi:PkIn es pk)
  {N:Nat} {R:List Str} (hN:N<=100) (hB:Bf (nx es pk) N [] (wi.map (·.1)) R) (q:∀a o,Fresh σ a->Q (.ref a) ((a,o,.list (R.map V.str))::σ)):CW C (d+4) (.ref 161) [.ref i,x,.ref pa] σ Q:=by
 refine z0G (G1.kin (by assumption)) ["shop","wish","pick","found","need","at"] [("len",.bi "len")] (by kernel_rfl) (vs3 λ_ _ _=>by kernel_rfl) rfl (z0a (z0Q (by assumption)) GL_nil) ?_
 intro env hsc
 clear hsc
 have hn:((pkV pk).map (·.1)).Nodup:=by rw[z0Y];exact pb.nd
 obtain⟨dx,hin⟩:=S.inst
 refine z0e (z0l H) (z0m H) (z4C _) (by exact rfl) (by kernel_rfl) ?_
 intro F m0 a o hf
 refine Leaf.mk (.mk _ _ (AgI (.ref i) x (.ref pa) a [] (wi.map (·.1)) none σ) (hx.mono λp h=> .tail _ h) .mk (λj X hX m τ hI QB hQB _=> ?_) λm τ hI=> ?_)
 ·rw[List.getElem?_map] at hX
  apply z1I hX;intro n hne
  refine hI.casesOn @λo v=> ?_
  have hl:=addNew_len ((wi.map (·.1)).take j) []
  exact z9l (Nat.le_trans hl (by rw[List.length_take,List.length_map,List.length_nil];have:=ok.len;lia)) λo'=>hQB _ _ (hx.mono λp h=> .tail _ h).p (by rw[<-z4X (z1y hne)];exact .mk)
 refine hI.casesOn @λo v=> ?_
 rw[List.length_map,<-List.length_map (f:=(·.1)),List.take_length]
 obtain⟨n0,v0,hn0,hB0,he0⟩:=Bf.news (w:=[]) (ys:=wi.map (·.1)) (f:=[]) hB
 rw[List.nil_append,List.nil_append] at he0
 rw[he0]
 have hnd0:v0.Nodup:=by rw[<-he0];exact addNew_nodup List.nodup_nil
 clear he0 hx ok hB
 refine Leaf.mk ?_
 show AS C env ["shop","wish","pick","found","need","at"] _ true _ (exec _ env) [some (.ref i),some x,some (.ref pa),some (.ref a),v,some (.int 0)] _ _
 refine y2h (AwI (.ref i) x (.ref pa) a (nx es pk) R σ) (λn m τ hI QB hQB=> ?_) n0 (.mk (f:=[]) (w:=v0) hB0 hnd0 (by rw[List.length_nil,Nat.zero_add];exact Nat.le_trans hn0 hN))
 refine hI.casesOn @λo v f w hB hnd hfl=> ?_
 have hwl:=hB.len
 have hzz:((f++w).map V.str).length=f.length+w.length:=by rw[List.length_map,List.length_append]
 repeat' with_reducible first|refine z0n ?_|refine z1s ?_|refine z0H ?_|refine z0q ?_|refine z0v ?_|refine z1S ?_|refine⟨z2f,?_⟩|fail
 refine z0L (.refL (.head _)) hzz (z0t (by rw[hzz];lia)) ?_
 refine y45 (z0i ⟨λhb=> ?_,λhb=> ?_⟩)
 ·cases w with
  |nil=>exact absurd (of_decide_eq_true hb) (Int.lt_irrefl _)
  |cons y w=>
   clear hb q
   have hyf:y∉f:=λh=>(List.nodup_append.mp hnd).2.2 _ h _ (.head _) rfl
   obtain⟨n,rfl,hB2⟩:∃n',n=n'+1/\Bf (nx es pk) n' (f++[y]) (w++nx es pk y) R:=by
    cases hB with
    |skip h _=>exact absurd h hyf
    |take _ h=>exact⟨_,rfl,h⟩
   obtain⟨n',w',hn',hB',he'⟩:=Bf.news hB2
   have hnd':(f++[y]++w').Nodup:=by
    rw[<-he'];exact addNew_nodup (by rw[List.append_assoc];exact hnd)
   have hf99:f.length<1000:=by lia
   have hat:((f++y::w).map V.str)[f.length]? =some (.str y):=z1y (by rw[List.getElem?_append_right (Nat.le_refl _),Nat.sub_self];rfl)
   have hpc:∀o' l,At ((a,o',AO.list l)::σ) pa (dS (pkV pk)):=λo' l=>hp.cons _
   have hend:∀o v,QB .next [some (.ref i),some x,some (.ref pa),some (.ref a),v,some (.int ((f++[y]).length:Int))] ((a,o,.list ((f++[y]++w').map V.str))::σ):=λo v=>hQB n' _ _ (Nat.lt_succ_of_le hn') (.mk hB' hnd' (by rw[List.length_append];show f.length+1+n'<=100;lia))
   rw[List.length_append] at hend
   have hfa:f.length+(y::w).length<=200:=by have:=hB2.len;rw[List.length_append] at this;rw[List.length_cons];lia
   clear hQB hB hnd hB2 hB' hnd' hwl hn' hB0 hnd0 hn0 hN hzz
   refine z0e (z0l H) (z0m H) t_agenda_of_1 rfl (by kernel_rfl) ?_
   intro F m0
   refine y5x (α:=Obj×Option V) (λ_=>True) (λp=>[some (.ref i),some x,some (.ref pa),some (.ref a),p.2,some (.int (f.length:Int))]) (λp=>(a,p.1,.list ((f++[y]++w').map V.str))::σ) (λK hK _=> ?_) λp _=>hend p.1 p.2
   clear hend
   refine Leaf.mk (z04 (.refL (.head _)) hf99 hat ?_)
   rcases y3t pb pi y (S.eok y).1 with⟨_,e1,e2⟩|⟨mk,ns,hpm,e1,hns,e2⟩
   ·rw[e2] at he'
    have he':f++[y]++w=f++[y]++w':=he'
    rw[List.append_assoc] at he'
    rw[show f++y::w=f++[y]++w' from he']
    refine Leaf.mk (z2I H.ns (hpc _ _) hn (z0i ?_))
    rw[e1]
    exact hK (o,v) trivial
   ·obtain⟨hw,h1,h2⟩:=pb.ok _ hpm
    have hnl:=(S.eok y).2.2 _ hns
    refine Leaf.mk (z2I H.ns (hpc _ _) hn (z0i ?_))
    rw[e1]
    refine Leaf.mk (z0I (hin.cons _) (by decide+kernel) ?_)
    refine Leaf.mk (z04 (.refL (.head _)) hf99 hat ?_)
    refine Leaf.mk (z04 (.refL (.head _)) hf99 hat ?_)
    refine Leaf.mk (z2k (hpc _ _) hn e1 ?_)
    refine Leaf.mk (fnc (z4M H (S.frame λa _ x h=>h.cons _) hw h1 h2 hns (.inl ?_)))
    refine Leaf.mk (.mk _ _ (AgI (.ref i) x (.ref pa) a (f++y::w) (ns.map (·.1)) (some (.int (f.length:Int))) σ) (.lst _) .mk (λj X hX m τ hI QB hQB _=> ?_) λm τ hI=> ?_)
    ·rw[List.getElem?_map] at hX
     apply z1I hX;intro nd hne
     refine hI.casesOn @λo v=> ?_
     have hl:=addNew_len ((ns.map (·.1)).take j) (f++y::w)
     exact z9l (Nat.le_trans hl (by rw[List.length_take,List.length_map,List.length_append];simp only at hnl;lia)) λo'=>hQB _ _ trivial (by rw[<-z4X (z1y hne)];exact .mk)
    ·refine hI.casesOn @λo v=> ?_
     rw[show(ns.map z0h).length=(ns.map (·.1)).length by rw[List.length_map,List.length_map],List.take_length,<-e2,show f++y::w=f++[y]++w from(List.append_assoc f [y] w).symm,he']
     exact hK (o,v) trivial
 ·cases w with
  |nil=>
   have hfR:f=R:=by cases hB;rfl
   subst hfR
   rw[List.append_nil]
   exact q _ _ hf
  |cons y w=>exact absurd (Int.ofNat_lt.mpr (Nat.lt_add_of_pos_right (Nat.succ_pos w.length))) (of_decide_eq_false hb)
end
end
section
section
variable {C:Cx} {d:Nat} {σ:Sto} {Q:V->Sto->Prop} {i k ro:Addr} {kv rv:List (Str×Addr)} {es:Str->List (Int×List z0c)}
noncomputable def z1j(es:Str->List (Int×List z0c))(p:Str×Int):List z0c:=match(es p.1).find? (λe=>decide (e.1=p.2)) with
 |none=>[]
 |some e=>e.2
theorem z23{w:Str}{mk:Int}{ns:List z0c}(en:((es w).map (·.1)).Nodup)(h:(mk,ns)∈es w):z1j es (w,mk)=ns:=by
 unfold z1j
 show(match(es w).find? (λe:Int×List z0c=>decide (e.1=mk)) with|none=>[]|some e=>e.2)=_
 rw[z3V en h]
theorem y3J{pk:List (Str×Int)}{wi:List z0c}(h4:pk.length<=5)(h6:∀w,∀p∈es w,p.2.length<=6)(h8:wi.length<=8):∃N R,N<=60/\Bf (nx es pk) N [] (wi.map (·.1)) R:=by
 obtain⟨N,R,h1,h2⟩:=y1B (nx:=nx es pk) (U:=pk.map (·.1)) (λx hx=>by unfold nx;rw[z9s hx]) 60 [] (wi.map (·.1)) (by
  have:=y0G (U:=pk.map (·.1)) (f:=[]) (y3K (pk:=pk) h6)
  rw[List.length_map] at this⊢
  lia)
 exact⟨N,R,h1,h2⟩
set_option tactic.hygienic true in
theorem y2w{pk:List (Str×Int)}(h:∀w,∀p∈es w,∀n∈p.2,NeedOk n)(w:Str):∀y∈nx es pk w,Ware y:=by
 unfold nx
 intro y hy
 split at hy
 ·cases hy
 ·split at hy
  ·cases hy
  ·rename_i e he
   apply z0p hy;intro n hn
   exact(h w _ (List.mem_of_find?_eq_some he) n hn).w
theorem z5T{α:Type}[DecidableEq α]:∀{l r:List α},l.Nodup->(∀x∈l,x∈r)->l.length<=r.length
 |[],r,_,_=>Nat.zero_le _
 |x::l,r,hn,hs=>by
  obtain⟨h1,h2⟩:=List.nodup_cons.mp hn
  have hx:=hs x (.head _)
  have:=z5T (r:=r.erase x) h2 λy hy=>(List.mem_erase_of_ne λe=>h1 (by rw[<-e];exact hy)).mpr (hs y (.tail _ hy))
  rw[List.length_erase_of_mem hx] at this
  have h3:0<r.length:=List.length_pos_of_mem hx
  rw[List.length_cons];lia
noncomputable def t_within:TC:=⟨[.loc 1,.loc 0,.cm2 .LtE [.loc 2,.cmpc .LtE],.ret],[],[]⟩
--t_within 0
theorem z41(H:G1 C){mk lo hi:Int}(q:Q (.bool (decide (lo<=mk)&&decide (mk<=hi))) σ):CW C (d+1) (.ref 149) [.int mk,.int lo,.int hi] σ Q:=by
 refine z0G (G1.kin (by assumption)) ["make","low","high"] [] (by kernel_rfl) (vs3 λ_ _ _=>by kernel_rfl) rfl GL_nil ?_
 intro env hsc
 clear hsc
 refine z0e (z0l H) (z0m H) t_within rfl (by kernel_rfl) ?_
 intro F m0
 exact z0o (λh=>qB q (by rw[h];rfl)) λh=>qB q (by rw[h];rfl)
theorem z6U(H:G1 C)(S:Shp σ i k kv es){x:V}{wi:List z0c}{Px:Sto->Prop}(hx:Has σ x (.list (wi.map z0h)) Px)(ok:WishOk wi){pa:Addr}{pk:List (Str×Int)}(hp:At σ pa (dS (pkV pk)))(pb:PkB pk)(pi:PkIn es pk)
  {N:Nat} {R:List Str} (hN:N<=100) (hB:Bf (nx es pk) N [] (wi.map (·.1)) R) (q:Q (.lst (R.map V.str)) σ):CW C (d+4) (.ref 161) [.ref i,x,.ref pa] σ Q:=
 z1U (z7T H S hx ok hp pb pi hN hB λa o hf=>⟨a,o,_,σ,rfl,rfl,q⟩)
theorem Rw.inRv(S:Rw σ ro rv es){w:Str}{e:Int×List z0c}(h:e∈es w):w∈rv.map (·.1):=by
 by_cases hm:w∈rv.map (·.1)
 ·exact hm
 ·rw[S.out w hm] at h;cases h
theorem z9J{env:Env}{caps:List Str}{gl:List (Str×V)}{x:Str}{elt c:Expr}{pp:Pos}{P:Sto->Prop}{Z:List V->Sto->Prop}{ms:Loc}(hk:env.kindOf x=some .local)(hP:P σ)(xs:List V):
  ∀(acc:List V) (o:Option V),(∀X∈xs,∀K:Bool->Sto->Prop,(∀b,K b σ)->AB C env (x::caps) gl false d (isTrue c env (eval c env)) (some X::ms) σ K)->
   (∀X∈xs,∀K:V->Sto->Prop,K X σ->AT C env (x::caps) gl false d (eval elt env) (some X::ms) σ K)->(∀ys:List V,ys.Sublist xs->Z (acc++ys) σ)->
   z0S C env (x::caps) gl d (.Name x pp) elt [c] P Z xs acc (o::ms) σ:=by
 induction xs with
 |nil=>intro acc o _ _ q;simpa[z0S] using q [] (List.Sublist.refl _)
 |cons X xs ih=>
  intro acc o ht h q
  refine z0w Put.head ?_ (.inr hk)
  refine ht X (.head _) _ λb=>⟨λe=>h X (.head _) _ ⟨hP,ih (acc++[X]) (some X) (λY hY=>ht Y (.tail _ hY)) (λY hY=>h Y (.tail _ hY)) λys hs=> ?_⟩,λe=>⟨hP,ih acc (some X) (λY hY=>ht Y (.tail _ hY)) (λY hY=>h Y (.tail _ hY)) λys hs=>q ys (hs.cons _)⟩⟩
  rw[List.append_assoc];exact q (X::ys) (hs.cons_cons _)
noncomputable def z3y(pk:List (Str×Int))(w:Str)(mk:Int):List (Str×Int):=if pk.any (λp=>p.1=w) then pk.map (λp=>if p.1=w then(p.1,mk) else p) else pk++[(w,mk)]
theorem y0J(pk:List (Str×Int))(w:Str)(mk:Int):z2c (pkV pk) w (.int mk)=pkV (z3y pk w mk):=by
 unfold z2c z3y pkV
 rw[show(pk.map λp=>(p.1,V.int p.2)).any (λkv=>decide (kv.1=w))=pk.any (λp=>decide (p.1=w)) by rw[List.any_map];rfl]
 split
 ·rw[List.map_map,List.map_map]
  refine List.map_congr_left λp _=> ?_
  show(if p.1=w then(p.1,V.int mk) else(p.1,V.int p.2))=((if p.1=w then(p.1,mk) else p).1,V.int (if p.1=w then(p.1,mk) else p).2)
  split<;>rfl
 ·rw[List.map_append];rfl
set_option tactic.hygienic true in
theorem z7J{pk:List (Str×Int)}{w:Str}{mk:Int}{p:Str×Int}(h:p∈z3y pk w mk):p=(w,mk)∨p∈pk:=by
 unfold z3y at h
 split at h
 ·apply z0p h;intro p' hp
  split
  ·rename_i e;exact .inl (by rw[e])
  ·exact .inr hp
 ·rcases List.mem_append.mp h with h|h
  ·exact .inr h
  ·exact .inl (List.mem_singleton.mp h)
set_option tactic.hygienic true in
theorem z9t{pk:List (Str×Int)}{w:Str}{mk:Int}(hn:(pk.map (·.1)).Nodup):((z3y pk w mk).map (·.1)).Nodup:=by
 unfold z3y
 split
 ·rw[List.map_map,show((λp:Str×Int=>p.1)∘λp=>if p.1=w then(p.1,mk) else p)=λp=>p.1 by funext p;show(if p.1=w then(p.1,mk) else p).1=p.1;split<;>rfl]
  exact hn
 ·rename_i h
  rw[List.map_append]
  refine z1q hn λhm=>h ?_
  obtain⟨p,hp,e⟩:=List.mem_map.mp hm
  exact List.any_eq_true.mpr ⟨p,hp,decide_eq_true e⟩
theorem y1J(S:Rw σ ro rv es){pk:List (Str×Int)}(hn:(pk.map (·.1)).Nodup)(pi:PkIn es pk):pk.length<=rv.length:=by
 have:=z5T (r:=rv.map (·.1)) hn λw hw=>by
  apply z0p hw;intro p hp
  obtain⟨ns,hns⟩:=pi p hp
  exact S.inRv hns
 rw[List.length_map,List.length_map] at this
 exact this
theorem PkIn.put{pk:List (Str×Int)}(pi:PkIn es pk){w:Str}{mk:Int}{ns:List z0c}(h:(mk,ns)∈es w):PkIn es (z3y pk w mk):=λp hp=>by
 rcases z7J hp with rfl|hp
 ·exact⟨ns,h⟩
 ·exact pi p hp
theorem PkB.sub{pk pk':List (Str×Int)}(pb:PkB pk)(h:pk'.Sublist pk):PkB pk':=⟨(h.map _).nodup pb.nd,Nat.le_trans h.length_le pb.len,λp hp=>pb.ok p (h.subset hp)⟩
theorem z9S(S:Rw σ ro rv es)(h4r:rv.length<=5){wi:List z0c}(ok:WishOk wi){pk:List (Str×Int)}(pb:PkB pk)(pi:PkIn es pk):∃N R,N<=60/\Bf (nx es pk) N [] (wi.map (·.1)) R/\(∀w∈R,Ware w)/\R.length<=N:=by
 obtain⟨N,R,hN,hB⟩:=y3J (es:=es) (pk:=pk) (wi:=wi) (Nat.le_trans (Nat.le_trans (y1J S pb.nd pi) h4r) (by decide)) (λw p hp=>((S.eok w).nok p hp).len) ok.len
 refine⟨N,R,hN,hB,hB.all (y2w λw p hp n hn=>((S.eok w).nok p hp).ok n hn) (λ_ h=>by cases h) λy hy=> ?_,?_⟩
 ·apply z0p hy;intro n hn
  exact(ok.ok n hn).w
 ·have:=hB.rlen
  rw[List.length_nil,Nat.zero_add] at this
  exact this
noncomputable def pI(pk:List (Str×Int))(w:Str):Option Int:=(pk.find? (λp=>decide (p.1=w))).map (·.2)
theorem y3x{pk:List (Str×Int)}(hn:(pk.map (·.1)).Nodup){w:Str}{mk:Int}(h:(w,mk)∈pk):pI pk w=some mk:=by
 unfold pI;rw[z3V hn h];rfl
theorem z4n{pk:List (Str×Int)}{w:Str}{mk:Int}(h:pI pk w=some mk):(w,mk)∈pk:=by
 unfold pI at h
 apply z1I h;rintro ⟨v,n⟩ e
 have h2:=List.find?_some e
 have h3:v=w:=by simpa using h2
 rw[<-h3];exact List.mem_of_find?_eq_some e
theorem y3L{ps:List (Str×Int)}{x:Str}(hn:(ps.map (·.1)).Nodup)(h:x∈ps.map (·.1)):∃m,(x,m)∈ps/\pI ps x=some m:=by
 apply z0p h;rintro ⟨x,m⟩ hp
 exact⟨m,hp,y3x hn hp⟩
end
end
section
section
variable {es:Str->List (Int×List z0c)} {wi:List z0c} {ps:List (Str×Int)} {w:Str}
noncomputable def lsO(X:V):Option (List V):=match X with
 | .lst a=>some a
 |_=>none
noncomputable def l1{α:Type}(l:List V)(k:V->α)(z:α):α:=match l with
 |[]=>z
 |x::l=>match l with
  |[]=>k x
  |_::_=>z
noncomputable def l2{α:Type}(l:List V)(k:V->V->α)(z:α):α:=match l with
 |[]=>z
 |x::l=>l1 l (k x) z
noncomputable def l3{α:Type}(l:List V)(k:V->V->V->α)(z:α):α:=match l with
 |[]=>z
 |x::l=>l2 l (k x) z
noncomputable def oE{α β:Type}(o:Option β)(k:β->α)(z:α):α:=match o with
 |some b=>k b
 |none=>z
section
variable {α β:Type} {l:List V} {z:α} {P:α->Prop}
theorem l1E{k:V->α}(h:∀x,l=[x]->P (k x))(hz:P z):P (l1 l k z):=by
 rcases l with _|⟨x,_|⟨y,l⟩⟩
 ·exact hz
 ·exact h x rfl
 ·exact hz
theorem l2E{k:V->V->α}(h:∀x y,l=[x,y]->P (k x y))(hz:P z):P (l2 l k z):=by
 cases l with
 |nil=>exact hz
 |cons x l=>exact l1E (λy e=>h x y (congrArg (x::·) e)) hz
theorem l3E{k:V->V->V->α}(h:∀x y u,l=[x,y,u]->P (k x y u))(hz:P z):P (l3 l k z):=by
 cases l with
 |nil=>exact hz
 |cons x l=>exact l2E (λy u e=>h x y u (congrArg (x::·) e)) hz
theorem oEE{o:Option β}{k:β->α}(h:∀b,o=some b->P (k b))(hz:P z):P (oE o k z):=by
 cases o with
 |none=>exact hz
 |some b=>exact h b rfl
theorem ifE{c:Bool}{x:α}(h:c=true->P x)(hz:P z):P (if c then x else z):=by
 cases c with
 |true=>exact h rfl
 |false=>exact hz
end
noncomputable def s1(wi:List z0c)(t:Str)(r:List V):Option z0c:=l1 r (λa=>oE (inO a) (λk=>if(t==("wish":Str))&&(decide (0<=k)&&decide (k<(wi.length:Int))) then wi[k.toNat]? else none) none) none
noncomputable def s2(ps:List (Str×Int))(t:Str)(r:List V)(n:Option z0c):Option z0c:=l2 r (λa b=>oE (stO a) (λx=>oE (inO b) (λm=>if(t==("pick":Str))&&decide (pI ps x=some m) then some (x,m,m) else n) n) n) n
noncomputable def s3(es:Str->List (Int×List z0c))(ps:List (Str×Int))(t:Str)(r:List V)(n:Option z0c):Option z0c:=l3 r (λa b c=>oE (stO a) (λx=>oE (inO b) (λm=>oE (inO c) (λk=>if(t==("need":Str))&&(decide (pI ps x=some m)&&(decide (0<=k)&&decide (k<((z1j es (x,m)).length:Int)))) then(z1j es (x,m))[k.toNat]? else n) n) n) n) n
section
variable {t:Str} {r:List V} {n:Option z0c} {P:Option z0c->Prop}
theorem s1E(h:∀k:Int,r=[.int k]->((t==("wish":Str))&&(decide (0<=k)&&decide (k<(wi.length:Int))))=true->P wi[k.toNat]?)(hz:P none):P (s1 wi t r):=
 l1E (λa e=>oEE (λk ek=>ifE (h k (by rw[e,z3R ek])) hz) hz) hz
theorem s2E(h:∀x m,r=[.str x,.int m]->((t==("pick":Str))&&decide (pI ps x=some m))=true->P (some (x,m,m)))(hz:P n):P (s2 ps t r n):=
 l2E (λa b e=>oEE (λx ex=>oEE (λm em=>ifE (h x m (by rw[e,z8f ex,z3R em])) hz) hz) hz) hz
theorem s3E(h:∀x m (k:Int),r=[.str x,.int m,.int k]->((t==("need":Str))&&(decide (pI ps x=some m)&&(decide (0<=k)&&decide (k<((z1j es (x,m)).length:Int)))))=true->P (z1j es (x,m))[k.toNat]?)(hz:P n):P (s3 es ps t r n):=
 l3E (λa b c e=>oEE (λx ex=>oEE (λm em=>oEE (λk ek=>ifE (h x m k (by rw[e,z8f ex,z3R em,z3R ek])) hz) hz) hz) hz) hz
end
noncomputable def z3l(es:Str->List (Int×List z0c))(wi:List z0c)(ps:List (Str×Int))(v:V):Option z0c:=oE (tuO v) (λxs=>match xs with
 |[]=>none
 |a::r=>oE (stO a) (λt=>s3 es ps t r (s2 ps t r (s1 wi t r))) none) none
theorem y4o{v:V}{P:Option z0c->Prop}(h:∀t r,v= .tup (.str t::r)->P (s3 es ps t r (s2 ps t r (s1 wi t r))))(hz:P none):P (z3l es wi ps v):=
 oEE (λxs e=>by
  cases xs with
  |nil=>exact hz
  |cons a r=>exact oEE (λt et=>h t r (by rw[y1Z e,z8f et])) hz) hz
noncomputable def z8u(w:Str):Option z0c->Option (Int×Int)
 |some n=>if n.1==w then some n.2 else none
 |none=>none
noncomputable def z1l(es:Str->List (Int×List z0c))(wi:List z0c)(ps:List (Str×Int))(w:Str)(v:V):Option (Int×Int):=z8u w (z3l es wi ps v)
noncomputable def z1R(es:Str->List (Int×List z0c))(wi:List z0c)(ps:List (Str×Int))(w:Str):List V->Option (List (Int×Int))
 |[]=>some []
 |v::vs=>match z1l es wi ps w v with
  |none=>none
  |some p=>match z1R es wi ps w vs with
   |none=>none
   |some l=>some (p::l)
set_option tactic.hygienic true in
theorem srcs_len:∀{l:List V} {st:List (Int×Int)},z1R es wi ps w l=some st->st.length=l.length:=λ{l}=>by
 induction l with
 |nil=>intro st h;cases h;rfl
 |cons v l ih=>
  intro st h
  unfold z1R at h
  split at h
  ·cases h
  ·split at h
   ·cases h
   ·rename_i e;cases h;rw[List.length_cons,List.length_cons,ih e]
theorem srcs_snoc:∀(l:List V) (v:V),z1R es wi ps w (l++[v])=match z1R es wi ps w l with
  |none=>none
  |some st=>(z1l es wi ps w v).map λp=>st++[p]:=λl v=>by
 induction l with
 |nil=>
  show z1R es wi ps w [v]=_
  unfold z1R
  cases z1l es wi ps w v<;>rfl
 |cons x l ih=>
  rw[List.cons_append]
  unfold z1R
  cases z1l es wi ps w x with
  |none=>rfl
  |some p=>
   rw[ih]
   cases z1R es wi ps w l with
   |none=>rfl
   |some st=>cases z1l es wi ps w v<;>rfl
theorem z5P{l:List V}(h:∃v∈l,z1l es wi ps w v=none):z1R es wi ps w l=none:=by
 induction l with
 |nil=>obtain⟨v,hv,_⟩:=h;cases hv
 |cons x l ih=>
  obtain⟨v,hv,e⟩:=h
  unfold z1R
  rcases List.mem_cons.mp hv with rfl|hv
  ·rw[e]
  ·rw[ih ⟨v,hv,e⟩];cases z1l es wi ps w x<;>rfl
theorem y1d{l:List V}(h:∀v∈l,z1l es wi ps w v≠none):∃st,z1R es wi ps w l=some st/\l.map (z1l es wi ps w)=st.map some:=by
 induction l with
 |nil=>exact⟨[],rfl,rfl⟩
 |cons x l ih=>
  obtain⟨st,e,e2⟩:=ih λv hv=>h v (.tail _ hv)
  cases e3:z1l es wi ps w x with
  |none=>exact absurd e3 (h x (.head _))
  |some p=>exact⟨p::st,by unfold z1R;rw[e3,e],by rw[List.map_cons,List.map_cons,e2,e3]⟩
noncomputable def z3j(st:List (Int×Int))(m:Int):Bool:=st.all λp=>decide (p.1<=m)&&decide (m<=p.2)
noncomputable def z4e(es:Str->List (Int×List z0c))(w:Str):List Int:=(z1a ((es w).map (·.1))).reverse
noncomputable def lfF(es:Str->List (Int×List z0c))(w:Str)(st:List (Int×Int)):List Int:=(z4e es w).filter (z3j st)
theorem y2N{st:List (Int×Int)}{p:Int×Int}:lfF es w (st++[p])=(lfF es w st).filter λm=>decide (p.1<=m)&&decide (m<=p.2):=by
 unfold lfF
 rw[List.filter_filter]
 congr 1
 funext m
 unfold z3j
 rw[List.all_append,Bool.and_comm];simp
noncomputable def z3v(b:V)(g:Int):Bool:=oE (tuO b) (λxs=>l2 xs (λa _=>oE (inO a) (λk=>decide (k=g)) false) false) false
theorem y0Y{b:V}{g:Int}{P:Bool->Prop}(h:∀k r,b= .tup [.int k,r]->P (decide (k=g)))(hz:P false):P (z3v b g):=
 oEE (λxs e=>l2E (λa r e2=>oEE (λk ek=>h k r (by rw[y1Z e,e2,z3R ek])) hz) hz) hz
noncomputable def brB(bs:List V)(gs:List Int):Bool:=decide (bs.length=gs.length)&&(bs.zip gs).all λp=>z3v p.1 p.2
noncomputable def z6X(f:List (Str×Int)->V->Bool)(ps:List (Str×Int))(w:Str)(b:V):Bool:=oE (tuO b) (λxs=>l2 xs (λa r=>oE (inO a) (λk=>f (z3y ps w k) r) false) false) false
noncomputable def hB(es:Str->List (Int×List z0c))(wi:List z0c):Nat->List (Str×Int)->V->Bool
 |0,_,_=>false
 |n+1,ps,v=>oE (tuO v) (λxs=>l3 xs (λa b c=>oE (stO a) (λw=>oE (lsO b) (λss=>oE (lsO c) (λbs=> !ss.isEmpty&&(match z1R es wi ps w ss with
   |none=>false
   |some st=> !((pI ps w).isSome&& !(lfF es w st).isEmpty)&&(brB bs (lfF es w st)&&bs.all (z6X (hB es wi n) ps w)))) false) false) false) false) false
theorem y4Y{t:Str}{r:List V}{n:z0c}(ok:WishOk wi):s1 wi t r=some n->NeedOk n:=
 s1E (P:=λy=>y=some n->NeedOk n) (λk _ _ h=>ok.ok n (List.mem_of_getElem? h)) λh=>nomatch h
theorem y1G{t:Str}{k:Nat}(ht:(t==("wish":Str))=true)(h:k<wi.length):s1 wi t [.int (k:Int)]=wi[k]? :=by
 show(if(t==("wish":Str))&&(decide (0<=(k:Int))&&decide ((k:Int)<(wi.length:Int))) then wi[(k:Int).toNat]? else none)=_
 rw[ht,decide_eq_true (Int.natCast_nonneg k),decide_eq_true (Int.ofNat_lt.mpr h),Int.toNat_natCast];rfl
theorem y3m{t:Str}{x:Str}{m:Int}{n:Option z0c}(ht:(t==("pick":Str))=true)(h:pI ps x=some m):s2 ps t [.str x,.int m] n=some (x,m,m):=by
 show(if(t==("pick":Str))&&decide (pI ps x=some m) then some (x,m,m) else n)=_
 rw[ht,decide_eq_true h];rfl
theorem y1X{t:Str}{x:Str}{m:Int}{k:Nat}{n:Option z0c}(ht:(t==("need":Str))=true)(hp:pI ps x=some m)(h:k<(z1j es (x,m)).length):s3 es ps t [.str x,.int m,.int (k:Int)] n=(z1j es (x,m))[k]? :=by
 show(if(t==("need":Str))&&(decide (pI ps x=some m)&&(decide (0<=(k:Int))&&decide ((k:Int)<((z1j es (x,m)).length:Int)))) then(z1j es (x,m))[(k:Int).toNat]? else n)=_
 rw[ht,decide_eq_true hp,decide_eq_true (Int.natCast_nonneg k),decide_eq_true (Int.ofNat_lt.mpr h),Int.toNat_natCast];rfl
end
end
section
section
variable {C:Cx} {d:Nat} {σ:Sto} {Q:V->Sto->Prop} {i k:Addr} {kv:List (Str×Addr)} {es:Str->List (Int×List z0c)} {wi:List z0c} {ps:List (Str×Int)} {w:Str}
noncomputable abbrev aV(p:Int×V):V:= .tup [.int p.1,p.2]
noncomputable def SrV(s:V):Prop:=∃l,s= .tup l/\1<=l.length/\l.length<=4/\∀x∈l,(∃i,x= .int i)∨∃y,x= .str y/\Asc y
inductive ROk:Nat->V->Prop
 |mk {n:Nat} {w:Str} {ss:List V} {bs:List (Int×V)}:Ware w->ss≠[]->ss.length<=99->(∀s∈ss,SrV s)->bs.length<=8->(∀b∈bs,1<=b.1/\b.1<=999)->(∀b∈bs,ROk n b.2)->ROk (n+1) (.tup [.str w,.lst ss,.lst (bs.map aV)])
theorem ROk.up{n:Nat}{t:V}(h:ROk n t):∀{m:Nat},n<=m->ROk m t:=by
 induction h with
 |mk a b c e f g _ ih=>
  intro m hm
  obtain⟨m,rfl⟩:=Nat.exists_eq_add_of_le hm
  rw[Nat.add_right_comm]
  exact .mk a b c e f g λx hx=>ih x hx (Nat.le_add_right _ _)
theorem SrV.of{t:Str}{r:List V}(ht:Asc t)(hl:r.length<=3)(h:∀x∈r,(∃i,x= .int i)∨∃y,x= .str y/\Asc y):SrV (.tup (.str t::r)):=
 ⟨_,rfl,Nat.le_add_left _ _,Nat.succ_le_succ hl,λx hx=>by
  rcases List.mem_cons.mp hx with rfl|hx
  ·exact .inr ⟨t,rfl,ht⟩
  ·exact h x hx⟩
theorem z4a{x:Str}(h:(decide (x.length<=100)&&x.cps.toList.all λc=>decide (c<128))=true):Asc x:=by
 rw[Bool.and_eq_true] at h
 exact⟨of_decide_eq_true h.1,λc hc=>of_decide_eq_true (List.all_eq_true.mp h.2 c hc)⟩
theorem asc_wish:Asc "wish":=z4a (by decide+kernel)
theorem asc_pick:Asc "pick":=z4a (by decide+kernel)
theorem asc_need:Asc "need":=z4a (by decide+kernel)
theorem sr_wish{k:Int}:SrV (.tup [.str "wish",.int k]):= .of asc_wish (Nat.le_of_ble_eq_true rfl) λx hx=> .inl ⟨k,List.mem_singleton.mp hx⟩
theorem z8Y{x:Str}{k:Int}(h:Asc x):SrV (.tup [.str "pick",.str x,.int k]):= .of asc_pick (Nat.le_of_ble_eq_true rfl) λy hy=>by
 rcases List.mem_cons.mp hy with rfl|hy
 ·exact .inr ⟨x,rfl,h⟩
 ·exact .inl ⟨k,List.mem_singleton.mp hy⟩
theorem z86{x:Str}{m k:Int}(h:Asc x):SrV (.tup [.str "need",.str x,.int m,.int k]):= .of asc_need (Nat.le_of_ble_eq_true rfl) λy hy=>by
 rcases List.mem_cons.mp hy with rfl|hy
 ·exact .inr ⟨x,rfl,h⟩
 ·rcases List.mem_cons.mp hy with rfl|hy
  ·exact .inl ⟨m,rfl⟩
  ·exact .inl ⟨k,List.mem_singleton.mp hy⟩
theorem ROk.two{n:Nat}{a b:V}(hw:Ware w)(ha:SrV a)(hb:SrV b):ROk (n+1) (.tup [.str w,.lst [a,b],.lst []]):=
 .mk (bs:=[]) hw (λe=>nomatch e) (Nat.le_of_ble_eq_true rfl) (λs hs=>by
  rcases List.mem_cons.mp hs with rfl|hs
  ·exact ha
  ·rw[List.mem_singleton.mp hs];exact hb) (by decide) (λb hb=>by cases hb) λb hb=>by cases hb
inductive Src
 |wish (k:Nat)
 |need (o:Str) (mk:Int) (k:Nat)
noncomputable def srcV:Src->V
 | .wish k=> .tup [.str "wish",.int (k:Int)]
 | .need o mk k=> .tup [.str "need",.str o,.int mk,.int (k:Int)]
inductive SrcOk(es:Str->List (Int×List z0c))(wi:List z0c)(ps:List (Str×Int))(w:Str):Src->Int->Int->Prop
 |wish {k:Nat} {lo hi:Int}:wi[k]? =some (w,lo,hi)->SrcOk es wi ps w (.wish k) lo hi
 |need {o:Str} {mk:Int} {k:Nat} {ns:List z0c} {lo hi:Int}:(o,mk)∈ps->(mk,ns)∈es o->ns[k]? =some (w,lo,hi)->SrcOk es wi ps w (.need o mk k) lo hi
theorem SrcOk.sr{s:Src}{lo hi:Int}(h:SrcOk es wi ps w s lo hi)(pb:PkB ps):SrV (srcV s):=by
 cases h with
 |wish _=>exact sr_wish
 |need h1 _ _=>exact z86 (pb.ok _ h1).1.asc
theorem z6f{p:Int×Int}:z8u w (some (w,p))=some p:=by
 show(if(w==w)=true then some p else none)=_
 rw[beq_self_eq_true];rfl
theorem SrcOk.src{s:Src}{lo hi:Int}(h:SrcOk es wi ps w s lo hi)(pn:(ps.map (·.1)).Nodup)(en:∀w,((es w).map (·.1)).Nodup):z1l es wi ps w (srcV s)=some (lo,hi):=by
 cases h with
 | @wish k lo hi hk=>
  have hl:=(List.getElem?_eq_some_iff.mp hk).1
  show z8u w (s1 wi "wish" [.int (k:Int)])=_
  rw[y1G (beq_self_eq_true _) hl,hk]
  exact z6f
 | @need o mk k ns lo hi h1 h2 hk=>
  have hl:=(List.getElem?_eq_some_iff.mp hk).1
  show z8u w (s3 es ps "need" [.str o,.int mk,.int (k:Int)] (s2 ps "need" [.str o,.int mk,.int (k:Int)] (s1 wi "need" [.str o,.int mk,.int (k:Int)])))=_
  have hnd:=z23 (en o) h2
  rw[y1X (beq_self_eq_true _) (y3x pn h1) (by rw[hnd];exact hl),hnd,hk]
  exact z6f
theorem z42(ps:List (Str×Int))(x:Str):vAt (pkV ps) x=(pI ps x).map V.int:=by
 unfold vAt pI pkV
 rw[List.find?_map]
 cases e:List.find? ((λp:Str×V=>decide (p.1=x))∘λp:Str×Int=>(p.1,V.int p.2)) ps with
 |none=>rw[show List.find? (λp:Str×Int=>decide (p.1=x)) ps=none from e];rfl
 |some p=>rw[show List.find? (λp:Str×Int=>decide (p.1=x)) ps=some p from e];rfl
noncomputable def z5C(t:V)(many:Nat):Bool:=match t with
 | .int k=>decide (0<=k)&&decide (k<(many:Int))
 |_=>false
theorem z9q{t:V}{m:Nat}(h:tkB t .int=false):z5C t m=false:=by cases t<;>first|rfl|exact tf h|exact ff h
set_option tactic.hygienic true in
theorem z3S{t:V}{m:Nat}(h:z5C t m=true):∃k:Nat,t= .int (k:Int)/\k<m:=by
 cases t<;>first|(cases h;done)|skip
 rename_i i
 have h:(decide (0<=i)&&decide (i<(m:Int)))=true:=h
 rw[Bool.and_eq_true] at h
 obtain⟨k,rfl⟩:=Int.eq_ofNat_of_zero_le (of_decide_eq_true h.1)
 exact⟨k,rfl,Int.ofNat_lt.mp (of_decide_eq_true h.2)⟩
noncomputable def grV(ps:List (Str×Int))(x m:V):Bool:=match x with
 | .str x=>match m with
  | .int m=>decide (pI ps x=some m)
  |_=>false
 |_=>false
theorem y2a{x m:V}(h:tkB x .str=false):grV ps x m=false:=by cases x<;>first|rfl|exact tf h|exact ff h
theorem y2r{x m:V}(h:tkB m .int=false):grV ps x m=false:=by
 cases x<;>first|rfl|skip
 cases m<;>first|rfl|exact tf h|exact ff h
theorem y2C{x m:V}(h:tkB m .bool=true):grV ps x m=false:=by
 cases x<;>first|rfl|skip
 cases m<;>first|rfl|exact tf h|exact ff h
theorem z22{x m:V}(h:grV ps x m=true):∃y k,x= .str y/\m= .int k/\pI ps y=some k:=by
 cases x<;>first|(cases h;done)|skip
 cases m<;>first|(cases h;done)|skip
 exact⟨_,_,rfl,rfl,of_decide_eq_true h⟩
theorem y5y{x:Str}{m:V}(pb:PkB ps)(h:wareV (.str x)=false):grV ps (.str x) m=false:=by
 cases e:grV ps (.str x) m with
 |false=>rfl
 |true=>
  obtain⟨y,k,e1,_,e2⟩:=z22 e
  cases e1
  rw[z5a (pb.ok _ (z4n e2)).1] at h;cases h
theorem y5c{x:V}{m:V}(pb:PkB ps)(h:makeV m=false):grV ps x m=false:=by
 cases e:grV ps x m with
 |false=>rfl
 |true=>
  obtain⟨y,k,_,rfl,e2⟩:=z22 e
  obtain⟨_,h1,h2⟩:=pb.ok _ (z4n e2)
  have h:(decide (1<=k)&&decide (k<=999))=false:=h
  rw[decide_eq_true h1,decide_eq_true h2] at h;cases h
noncomputable def t_is_number:TC:=⟨[.loc 0,.isi .int,.vop .And [.loc 0,.isi .bool,.una .Not,.vop .And [.psh (.int 0),.loc 0,.cm2 .LtE [.loc 1,.cmpc .Lt]]],.ret],[],[]⟩
--t_is_number 0
noncomputable def t__law_place:TC:=⟨[.loc 0,.isi .int,.vop .And [.loc 0,.isi .bool,.una .Not,.vop .And [.psh (.int 0),.loc 0,.cm2 .LtE [.loc 1,.cmpc .Lt]]],.ret],[],[]⟩
--t__law_place 0
noncomputable def t_is_granted:TC:=⟨[.loc 1,.call (.ref 128) 1,.vop .And [.loc 2,.call (.ref 135) 1,.vop .And [.loc 0,.mty "dict",.loc 1,.meth (.bi "dict.get") 1,.loc 2,.cmpc .Eq]],.ret],[],[]⟩
--t_is_granted 0
noncomputable def t__law_granted:TC:=⟨[.loc 1,.subT 1,.isi .str,.tvalc,.not,.mop .Or [.loc 1,.subT 2,.isi .int,.tvalc,.not,.mop .Or [.loc 1,.subT 2,.isi .bool,.tvalc,.mop .Or [.psh (.bool false)]]],.ife [.psh (.bool false),.ret] [],.loc 1,.subT 1,.loc 0,.cmpc .In,.vop .And [.loc 0,.loc 1,.subT 1,.sub,.loc 1,.subT 2,.cmpc .Eq],.ret],[],[]⟩
--t__law_granted 0
theorem z3Z(H:G1 C){v t:V}{n m:Nat}(h:Dn σ n v t)(q:Q (.bool (z5C t m)) σ):CW C (d+1) (.ref 168) [v,.int (m:Int)] σ Q:=by
 refine z0G (G1.kin (by assumption)) ["thing","many"] [("isinstance",.bi "isinstance"),("int",.type "int"),("bool",.type "bool")] (by kernel_rfl) (vs2 λ_ _=>by kernel_rfl) rfl (z0a (z0k (by assumption)) (z0a (z84 (by assumption)) (z0a (z3p (by assumption)) GL_nil))) ?_
 intro env hsc
 clear hsc
 refine z0e (z0l H) (z0m H) t_is_number rfl (by kernel_rfl) ?_
 intro F m0
 cases h.ish with
 |no h hk=>exact z0N h hk (qB q (z9q hk))
 |bool=>exact⟨z27 z1N q⟩
 | @int i=>
  refine Leaf.mk (z27 z1N ?_)
  have q:Q (.bool (decide (0<=i)&&decide (i<(m:Int)))) σ:=q
  exact z0o (λh=>qB q (by rw[h];rfl)) λh=>qB q (by rw[h];rfl)
theorem z3g(H:G1 C){v t:V}{n m:Nat}(h:Dn σ n v t)(q:Q (.bool (z5C t m)) σ):CW C (d+1) (.ref 364) [v,.int (m:Int)] σ Q:=by
 refine z0G (G1.kin (by assumption)) ["_law_thing","_law_many"] [("isinstance",.bi "isinstance"),("int",.type "int"),("bool",.type "bool")] (by kernel_rfl) (vs2 λ_ _=>by kernel_rfl) rfl (z0a (z0k (by assumption)) (z0a (z84 (by assumption)) (z0a (z3p (by assumption)) GL_nil))) ?_
 intro env hsc
 clear hsc
 refine z0e (z0l H) (z0m H) t__law_place rfl (by kernel_rfl) ?_
 intro F m0
 cases h.ish with
 |no h hk=>exact z0N h hk (qB q (z9q hk))
 |bool=>exact⟨z27 z1N q⟩
 | @int i=>
  refine Leaf.mk (z27 z1N ?_)
  have q:Q (.bool (decide (0<=i)&&decide (i<(m:Int)))) σ:=q
  exact z0o (λh=>qB q (by rw[h];rfl)) λh=>qB q (by rw[h];rfl)
theorem z3k(H:G1 C){ga:Addr}(hg:At σ ga (dS (pkV ps)))(pb:PkB ps){vx tx vm tm:V}{n:Nat}(hx:Dn σ n vx tx)(hm:Dn σ n vm tm)(q:Q (.bool (grV ps tx tm)) σ):CW C (d+2) (.ref 182) [.ref ga,vx,vm] σ Q:=by
 refine z0G (G1.kin (by assumption)) ["granted","ware","make"] [("is_ware",.ref 128),("is_make",.ref 135)] (by kernel_rfl) (vs3 λ_ _ _=>by kernel_rfl) rfl (z0a (z1G (by assumption)) (z0a (z2b (by assumption)) GL_nil)) ?_
 intro env hsc
 clear hsc
 have hn:((pkV ps).map (·.1)).Nodup:=by rw[z0Y];exact pb.nd
 refine z0e (z0l H) (z0m H) t_is_granted rfl (by kernel_rfl) ?_
 intro F m0
 refine Leaf.mk (fnc (z10 H hx ?_))
 cases hx.ssh with
 |no hx hk=>
  rw[z5p hk]
  exact qB q (y2a hk)
 | @str x hxa=>
 cases hk:wareV (.str x) with
 |false=>exact qB q (y5y pb hk)
 |true=>
 refine Leaf.mk (fnc (z3s H hm ?_))
 cases hk2:makeV tm with
 |false=>exact qB q (y5c pb hk2)
 |true=>
 obtain⟨i,rfl,_,_⟩:=z5Y hk2
 cases hm
 obtain⟨og,hgm⟩:=hg
 refine Leaf.mk ⟨tyD ⟨og,hgm⟩,?_⟩
 refine Leaf.mk (y3X (KK.str C.prog C.w) H.ns hgm hn ?_)
 rw[z42]
 have q:Q (.bool (decide (pI ps x=some i))) σ:=q
 cases e:pI ps x with
 |none=>
  rw[e] at q
  exact⟨y3z .none (.int i) rfl rfl q⟩
 |some k=>exact qB q (by rw[e];exact decide_eq_decide.mpr ⟨λh=>Option.some.inj h,λh=>congrArg some h⟩)
theorem z2v(H:G1 C){ga:Addr}(hg:At σ ga (dS (pkV ps)))(pb:PkB ps){x0 vx tx vm tm:V}{r:List V}{n:Nat}(hx:Dn σ n vx tx)(hm:Dn σ n vm tm)(q:Q (.bool (grV ps tx tm)) σ):CW C (d+1) (.ref 371) [.ref ga,.tup (x0::vx::vm::r)] σ Q:=by
 refine z0G (G1.kin (by assumption)) ["_law_granted_here","_law_source_here"] [("isinstance",.bi "isinstance"),("str",.type "str"),("int",.type "int"),("bool",.type "bool")] (by kernel_rfl) (vs2 λ_ _=>by kernel_rfl) rfl (z0a (z0k (by assumption)) (z0a (z5o (by assumption)) (z0a (z84 (by assumption)) (z0a (z3p (by assumption)) GL_nil)))) ?_
 intro env hsc
 clear hsc
 have hn:((pkV ps).map (·.1)).Nodup:=by rw[z0Y];exact pb.nd
 refine z0e (z0l H) (z0m H) t__law_granted rfl (by kernel_rfl) ?_
 intro F m0
 cases hx.ssh with
 |no hx hk=>exact z0N hx hk (qB q (y2a hk))
 | @str x hxa=>
 cases hm.ish with
 |no hm hk2=>exact z0N hm hk2 (qB q (y2r hk2))
 |bool=>exact qB q (y2C rfl)
 | @int i=>
 refine Leaf.mk (z2I H.ns hg hn ?_)
 rw[z42]
 have q:Q (.bool (decide (pI ps x=some i))) σ:=q
 cases e:pI ps x with
 |none=>exact qB q (by rw[e];rfl)
 |some k=>
  refine Leaf.mk (z2k hg hn (by rw[z42,e];rfl) ?_)
  exact qB q (by rw[e];exact decide_eq_decide.mpr ⟨λh=>Option.some.inj h,λh=>congrArg some h⟩)
end
end
section
section
variable {C:Cx} {d:Nat} {σ:Sto} {Q:V->Sto->Prop} {i k ro:Addr} {kv rv:List (Str×Addr)} {es:Str->List (Int×List z0c)} {wi:List z0c} {ps:List (Str×Int)} {w:Str}
noncomputable def k_stretch_of_L80:List Ins:=[.loc 5,.psh .none,.tcmpc .Is,.mop .Or [.loc 5,.subT 0,.loc 3,.tcmpc .NotEq,.mop .Or [.psh (.bool false)]],.ife [.psh .none,.ret] [],.loc 5,.subT 1,.loc 5,.subT 2,.tup 2,.ret]
noncomputable def t_stretch_of:TC:=⟨.loc 4:: .isi .tup:: .tvalc:: .not:: .mop .Or [.loc 4,.len,.psh (.int 0),.tcmpc .Eq,.mop .Or [.loc 4,.subT 0,.isi .str,.tvalc,.not,.mop .Or [.psh (.bool false)]]]:: .ife [.psh .none,.ret] []:: .psh .none:: .asg 5:: .cut [.loc 4,.subT 0,.psh (.str "wish"),.tcmpc .Eq,.mop .And [.loc 4,.len,.psh (.int 2),.tcmpc .Eq,.mop .And [.loc 4,.subT 1,.loc 1,.len,.call (.ref 168) 2,.tvalc,.mop .And [.psh (.bool true)]]],.ife [.loc 1,.loc 4,.subT 1,.sub,.asg 5] []]:: .cut [.loc 4,.subT 0,.psh (.str "pick"),.tcmpc .Eq,.mop .And [.loc 4,.len,.psh (.int 3),.tcmpc .Eq,.mop .And [.loc 2,.loc 4,.subT 1,.loc 4,.subT 2,.call (.ref 182) 3,.tvalc,.mop .And [.psh (.bool true)]]],.ife [.loc 4,.subT 1,.loc 4,.subT 2,.loc 4,.subT 2,.tup 3,.asg 5] []]:: .cut [.loc 4,.subT 0,.psh (.str "need"),.tcmpc .Eq,.mop .And [.loc 4,.len,.psh (.int 4),.tcmpc .Eq,.mop .And [.loc 2,.loc 4,.subT 1,.loc 4,.subT 2,.call (.ref 182) 3,.tvalc,.mop .And [.psh (.bool true)]]],.ife [.loc 0,.mI 310 "needs",.loc 4,.subT 1,.loc 4,.subT 2,.meth (.ref 300) 2,.asg 6,.loc 4,.subT 3,.loc 6,.len,.call (.ref 168) 2,.tvalc,.ife [.loc 6,.loc 4,.subT 3,.sub,.asg 5] []] []]::k_stretch_of_L80,[],[]⟩
--t_stretch_of 0
noncomputable def k__law_source_L315:List Ins:=[.loc 5,.psh .none,.tcmpc .Is,.mop .Or [.loc 5,.subT 0,.loc 3,.tcmpc .NotEq,.mop .Or [.psh (.bool false)]],.ife [.psh .none,.ret] [],.loc 5,.subT 1,.loc 5,.subT 2,.tup 2,.ret]
noncomputable def t__law_source:TC:=⟨.psh .none:: .asg 5:: .loc 4:: .isi .tup:: .tvalc:: .not:: .mop .Or [.loc 4,.len,.psh (.int 2),.tcmpc .Lt,.mop .Or [.loc 4,.subT 0,.isi .str,.tvalc,.not,.mop .Or [.psh (.bool false)]]]:: .ife [.psh .none,.ret] []:: .cut [.loc 4,.subT 0,.psh (.str "wish"),.tcmpc .Eq,.mop .And [.loc 4,.len,.psh (.int 2),.tcmpc .Eq,.mop .And [.loc 4,.subT 1,.loc 1,.len,.call (.ref 364) 2,.tvalc,.mop .And [.psh (.bool true)]]],.ife [.loc 1,.loc 4,.subT 1,.sub,.asg 5] []]:: .cut [.loc 4,.subT 0,.psh (.str "need"),.tcmpc .Eq,.mop .And [.loc 4,.len,.psh (.int 4),.tcmpc .Eq,.mop .And [.loc 2,.loc 4,.call (.ref 371) 2,.tvalc,.mop .And [.psh (.bool true)]]],.ife [.loc 0,.loc 4,.subT 1,.sub,.loc 4,.subT 2,.sub,.asg 6,.loc 4,.subT 3,.loc 6,.len,.call (.ref 364) 2,.tvalc,.ife [.loc 6,.loc 4,.subT 3,.sub,.asg 5] []] []]:: .cut [.loc 4,.subT 0,.psh (.str "pick"),.tcmpc .Eq,.mop .And [.loc 4,.len,.psh (.int 3),.tcmpc .Eq,.mop .And [.loc 2,.loc 4,.call (.ref 371) 2,.tvalc,.mop .And [.psh (.bool true)]]],.ife [.loc 4,.subT 1,.loc 4,.subT 2,.loc 4,.subT 2,.tup 3,.asg 5] []]::k__law_source_L315,[],[]⟩
--t__law_source 0
noncomputable def optN:Option z0c->V
 |none=> .none
 |some (a,b,c)=> .tup [.str a,.int b,.int c]
noncomputable def optS:Option (Int×Int)->V
 |none=> .none
 |some p=> .tup [.int p.1,.int p.2]
theorem z7q{t:V}(h:tkB t .tup=false):z3l es wi ps t=none:=by cases t<;>first|rfl|exact tf h|exact ff h
theorem z54{t:V}{r:List V}(h:tkB t .str=false):z3l es wi ps (.tup (t::r))=none:=by cases t<;>first|rfl|exact tf h|exact ff h
section
variable {t:Str} {r:List V} {n:Option z0c}
theorem z6J(h:¬(r.length+1=2)):s1 wi t r=none:=s1E (P:=(·=none)) (λk e _=>absurd (by rw[e];rfl) h) rfl
theorem z7d(h:¬(r.length+1=3)):s2 ps t r n=n:=s2E (P:=(·=n)) (λ_ _ e _=>absurd (by rw[e];rfl) h) rfl
theorem z6R(h:¬(r.length+1=4)):s3 es ps t r n=n:=s3E (P:=(·=n)) (λ_ _ _ e _=>absurd (by rw[e];rfl) h) rfl
theorem y5l(h:(t==("wish":Str))=false):s1 wi t r=none:=s1E (P:=(·=none)) (λ_ _ hc=>by rw[h] at hc;exact ff hc) rfl
theorem y49(h:(t==("pick":Str))=false):s2 ps t r n=n:=s2E (P:=(·=n)) (λ_ _ _ hc=>by rw[h] at hc;exact ff hc) rfl
theorem y5i(h:(t==("need":Str))=false):s3 es ps t r n=n:=s3E (P:=(·=n)) (λ_ _ _ _ hc=>by rw[h] at hc;exact ff hc) rfl
theorem z8M{a:V}(h:z5C a wi.length=false):s1 wi t [a]=none:=s1E (P:=(·=none)) (λk e hc=>by
 rw[(List.cons.inj e).1] at h
 have h:(decide (0<=k)&&decide (k<(wi.length:Int)))=false:=h
 rw[h,Bool.and_false] at hc;exact ff hc) rfl
theorem y3H{a b:V}(h:grV ps a b=false):s2 ps t [a,b] n=n:=s2E (P:=(·=n)) (λx m e hc=>by
 rw[(List.cons.inj e).1,(List.cons.inj (List.cons.inj e).2).1] at h
 have h:decide (pI ps x=some m)=false:=h
 rw[h,Bool.and_false] at hc;exact ff hc) rfl
theorem y3v{a b c:V}(h:grV ps a b=false):s3 es ps t [a,b,c] n=n:=s3E (P:=(·=n)) (λx m k e hc=>by
 rw[(List.cons.inj e).1,(List.cons.inj (List.cons.inj e).2).1] at h
 have h:decide (pI ps x=some m)=false:=h
 rw[h,Bool.false_and,Bool.and_false] at hc;exact ff hc) rfl
theorem y2i{x:Str}{m:Int}{c:V}(h:z5C c (z1j es (x,m)).length=false):s3 es ps t [.str x,.int m,c] n=n:=s3E (P:=(·=n)) (λx' m' k e hc=>by
 cases e
 have h:(decide (0<=k)&&decide (k<((z1j es (x,m)).length:Int)))=false:=h
 rw[h,Bool.and_false,Bool.and_false] at hc;exact ff hc) rfl
end
inductive SrcSh(σ:Sto):V->V->Prop
 |no {n:Nat} {v t:V}:Dn σ n v t->tkB t .tup=false->SrcSh σ v t
 |nil:SrcSh σ (.tup []) (.tup [])
 |nost {n:Nat} {X Y:V} {xs ys:List V}:Dn σ n X Y->tkB Y .str=false->(X::xs).length<=200->SrcSh σ (.tup (X::xs)) (.tup (Y::ys))
 |one {n:Nat} {t:Str} {a b:V}:Dn σ n a b->SrcSh σ (.tup [.str t,a]) (.tup [.str t,b])
 |two {n:Nat} {t:Str} {a b a' b':V}:Dn σ n a a'->Dn σ n b b'->SrcSh σ (.tup [.str t,a,b]) (.tup [.str t,a',b'])
 |three {n:Nat} {t:Str} {a b c a' b' c':V}:Dn σ n a a'->Dn σ n b b'->Dn σ n c c'->SrcSh σ (.tup [.str t,a,b,c]) (.tup [.str t,a',b',c'])
 |other {t:Str} {xs ys:List V}:(V.str t::xs).length<=200->¬(xs.length+1=2)->¬(xs.length+1=3)->¬(xs.length+1=4)->xs.length=ys.length->SrcSh σ (.tup (.str t::xs)) (.tup (.str t::ys))
theorem Dn.sh{v t:V}{n:Nat}(h:Dn σ n v t):SrcSh σ v t:=by
 cases hk:tkB t .tup with
 |false=>exact .no h hk
 |true=>
  obtain⟨m,xs,ys,rfl,rfl,rfl,hl,h200,hd⟩:=h.tupI hk
  cases xs with
  |nil=>cases ys with
   |nil=>exact .nil
   |cons=>cases hl
  |cons X xs=>cases ys with
   |nil=>cases hl
   |cons Y ys=>
    have hX:=hd 0 X Y rfl rfl
    cases hs:tkB Y .str with
    |false=>exact .nost hX hs h200
    |true=>
     obtain⟨t,rfl,rfl,_⟩:=hX.strI hs
     have hl:xs.length=ys.length:=Nat.succ.inj hl
     rcases xs with _|⟨a,_|⟨b,_|⟨c,_|⟨e,xs⟩⟩⟩⟩
     ·exact .other h200 (by decide) (by decide) (by decide) hl
     ·rcases ys with _|⟨a',_|⟨b',ys⟩⟩<;>first|(simp at hl;done)|exact .one (hd 1 _ _ rfl rfl)
     ·rcases ys with _|⟨a',_|⟨b',_|⟨c',ys⟩⟩⟩<;>first|(simp at hl;done)|exact .two (hd 1 _ _ rfl rfl) (hd 2 _ _ rfl rfl)
     ·rcases ys with _|⟨a',_|⟨b',_|⟨c',_|⟨e',ys⟩⟩⟩⟩<;>first|(simp at hl;done)|exact .three (hd 1 _ _ rfl rfl) (hd 2 _ _ rfl rfl) (hd 3 _ _ rfl rfl)
     ·exact .other h200 (by simp) (by simp) (by simp) hl
theorem z6F{x a:V}{xs:List V}{k:Nat}{X:V}{P:Sto->Prop}(e:a= .int (k:Int))(h:Has σ x (.list xs) P)(hi:k<1000)(hx:xs[k]? =some X)(q:Q X σ):SubR C d x a σ Q:=by subst e;exact z04 h hi hx q
theorem Dn.intE{v:V}{n:Nat}{k:Int}(h:Dn σ n v (.int k)):v= .int k:=by cases h;rfl
theorem Dn.strE{v:V}{n:Nat}{k:Str}(h:Dn σ n v (.str k)):v= .str k:=by cases h;rfl
theorem z0U(H:G1 C){a1 a2 a3 a4 a5:V}(w:∀env,let F:Fx:=⟨C,env,["shop","wish","granted","ware","source","need","needs"],[("isinstance",.bi "isinstance"),("tuple",.type "tuple"),("len",.bi "len"),("str",.type "str"),("is_number",.ref 168),("is_granted",.ref 182)],true,d,fnL,mtL,atL⟩;W F 3000 (z99 Q) t_stretch_of.k [] [some a1,some a2,some a3,some a4,some a5,none,none] [] σ):CW C (d+1) (.ref 189) [a1,a2,a3,a4,a5] σ Q:=by
 refine z0G (G1.kin (by assumption)) ["shop","wish","granted","ware","source","need","needs"] [("isinstance",.bi "isinstance"),("tuple",.type "tuple"),("len",.bi "len"),("str",.type "str"),("is_number",.ref 168),("is_granted",.ref 182)] (by kernel_rfl) (vs5 λ_ _ _ _ _=>by kernel_rfl) rfl (z0a (z0k (by assumption)) (z0a (z1h (by assumption)) (z0a (z0Q (by assumption)) (z0a (z5o (by assumption)) (z0a (z76 (by assumption)) (z0a (z6t (by assumption)) GL_nil)))))) ?_
 intro env hsc
 exact z0e (z0l H) (z0m H) t_stretch_of rfl (by kernel_rfl) (w env)
theorem z8t{t:Str}{b:V}:z3l es wi ps (.tup [.str t,b])=s1 wi t [b]:=by
 show s3 es ps t [b] (s2 ps t [b] (s1 wi t [b]))=_
 rw[z6R (r:=[b]) (by simp),z7d (r:=[b]) (by simp)]
theorem y1b{t:Str}{a b:V}:z3l es wi ps (.tup [.str t,a,b])=s2 ps t [a,b] none:=by
 show s3 es ps t [a,b] (s2 ps t [a,b] (s1 wi t [a,b]))=_
 rw[z6R (r:=[a,b]) (by simp),z6J (r:=[a,b]) (by simp)]
theorem y1y{t:Str}{a b c:V}:z3l es wi ps (.tup [.str t,a,b,c])=s3 es ps t [a,b,c] none:=by
 show s3 es ps t [a,b,c] (s2 ps t [a,b,c] (s1 wi t [a,b,c]))=_
 rw[z7d (r:=[a,b,c]) (by simp),z6J (r:=[a,b,c]) (by simp)]
theorem z7a(F:Fx){n:Nat}{a1 a2 a3 a5:V}{v:Option V}{o:Option z0c}(q:Q (optS (z8u w o)) σ):W F (n+100) (z99 Q) k_stretch_of_L80 [] [some a1,some a2,some a3,some (.str w),some a5,some (optN o),v] [] σ:=by
 cases o with
 |none=>exact q
 |some nd=>
  obtain⟨nm,lo,hi⟩:=nd
  have q:Q (optS (if nm==w then some (lo,hi) else none)) σ:=q
  cases en:nm==w with
  |true=>
   rw[en] at q
   have en':(!(nm==w))=false:=by rw[en];rfl
   refine z0D en' ?_
   exact q
  |false=>
   rw[en] at q
   have en':(!(nm==w))=true:=by rw[en];rfl
   refine z0A en' ?_
   exact q
set_option tactic.hygienic true in
theorem z3e(H:G1 C)(S:Shp σ i k kv es){x:V}{Px:Sto->Prop}(hx:Has σ x (.list (wi.map z0h)) Px)(h8:wi.length<=8){ga:Addr}(hg:At σ ga (dS (pkV ps)))(pb:PkB ps)(pi:PkIn es ps)(en:∀w,((es w).map (·.1)).Nodup){v t:V}{n:Nat}(h:Dn σ n v t)(q:Q (optS (z1l es wi ps w t)) σ):
  CW C (d+4) (.ref 189) [.ref i,x,.ref ga,.str w,v] σ Q:=by
 unfold z1l at q
 have th:=h.sh
 clear h
 revert q
 refine th.casesOn (@λ_ _ _ h hk q=> ?_) (λq=> ?_) (@λn X Y xs ys hX hs h200 q=> ?_) (@λn t a b ha q=> ?_) (@λn t a b a' b' ha hb q=> ?_) (@λn t a b c a' b' c' ha hb hc q=> ?_) (@λt xs ys h200 h2 h3 h4 hl q=> ?_)
 ·rw[z7q hk] at q
  refine z0U H λenv=> ?_
  intro F
  refine z0N h hk ?_
  skip
  exact q
 ·refine z0U H λenv=> ?_
  intro F
  skip
  exact q
 ·rw[z54 hs] at q
  have e0:decide (((X::xs).length:Int)=0)=false:=decide_eq_false (by rw[List.length_cons];lia)
  refine z0U H λenv=> ?_
  intro F
  have e1:=z2F h200 rfl
  repeat' refine z0A (by with_reducible assumption) ?_
  refine z0N hX hs ?_
  skip
  exact q
 ·rw[z8t] at q
  refine z0U H λenv=> ?_
  intro F
  refine z05 [some (.ref i),some x,some (.ref ga),some (.str w),some (.tup [.str t,a]),some (optN (s1 wi t [b])),none] σ (λK hK _=> ?_) ?_
  ·clear q
   cases e1:t==("wish":Str) with
   |false=>
    rw[y5l e1] at hK
    repeat' refine z0D (by with_reducible assumption) ?_
    exact hK
   |true=>
    repeat' refine z0A (by with_reducible assumption) ?_
    refine z5b hx (z0z h8 (by decide)) ?_
    rw[List.length_map]
    refine Leaf.mk (fnc (z3Z H ha ?_))
    cases hn:z5C b wi.length with
    |false=>
     rw[z8M hn] at hK
     skip
     exact hK
    |true=>
     obtain⟨k,eb,hk⟩:=z3S hn
     repeat' refine Leaf.mk ?_
     refine z6F (eb▸ha).intE hx (Nat.lt_of_lt_of_le hk (Nat.le_trans h8 (by decide))) (z1y (List.getElem?_eq_getElem hk)) ?_
     rw[eb,y1G e1 hk,List.getElem?_eq_getElem hk] at hK
     exact hK
  refine z05 [some (.ref i),some x,some (.ref ga),some (.str w),some (.tup [.str t,a]),some (optN (s1 wi t [b])),none] σ (λK hK _=> ?_) ?_
  ·repeat' (refine z0o (λ_=> ?_) (λ_=> ?_)<;>try (exfalso;rename_i hb;revert hb;simp[V.isNone];done))
   all_goals exact hK
  refine z05 [some (.ref i),some x,some (.ref ga),some (.str w),some (.tup [.str t,a]),some (optN (s1 wi t [b])),none] σ (λK hK _=> ?_) ?_
  ·repeat' (refine z0o (λ_=> ?_) (λ_=> ?_)<;>try (exfalso;rename_i hb;revert hb;simp[V.isNone];done))
   all_goals exact hK
  exact z7a F q
 ·rw[y1b] at q
  refine z0U H λenv=> ?_
  intro F
  refine z05 [some (.ref i),some x,some (.ref ga),some (.str w),some (.tup [.str t,a,b]),some (optN (none)),none] σ (λK hK _=> ?_) ?_
  ·repeat' (refine z0o (λ_=> ?_) (λ_=> ?_)<;>try (exfalso;rename_i hb;revert hb;simp[V.isNone];done))
   all_goals exact hK
  refine z05 [some (.ref i),some x,some (.ref ga),some (.str w),some (.tup [.str t,a,b]),some (optN (s2 ps t [a',b'] none)),none] σ (λK hK _=> ?_) ?_
  ·clear q
   cases e1:t==("pick":Str) with
   |false=>
    rw[y49 e1] at hK
    repeat' refine z0D (by with_reducible assumption) ?_
    exact hK
   |true=>
    repeat' first|refine z0A (by with_reducible assumption) ?_|refine Leaf.mk ?_
    refine fnc (z3k H hg pb ha hb ?_)
    cases hn:grV ps a' b' with
    |false=>
     rw[y3H hn] at hK
     skip
     exact hK
    |true=>
     obtain⟨y,k,ea,eb,hp⟩:=z22 hn
     skip
     rw[ea,eb,y3m e1 hp,show a= .str y from(ea▸ha:Dn σ n a (.str y)).strE,show b= .int k from(eb▸hb:Dn σ n b (.int k)).intE] at hK
     rw[show a= .str y from(ea▸ha:Dn σ n a (.str y)).strE,show b= .int k from(eb▸hb:Dn σ n b (.int k)).intE]
     exact hK
  refine z05 [some (.ref i),some x,some (.ref ga),some (.str w),some (.tup [.str t,a,b]),some (optN (s2 ps t [a',b'] none)),none] σ (λK hK _=> ?_) ?_
  ·repeat' (refine z0o (λ_=> ?_) (λ_=> ?_)<;>try (exfalso;rename_i hb;revert hb;simp[V.isNone];done))
   all_goals exact hK
  exact z7a F q
 ·rw[y1y] at q
  refine z0U H λenv=> ?_
  intro F
  refine z05 [some (.ref i),some x,some (.ref ga),some (.str w),some (.tup [.str t,a,b,c]),some (optN (none)),none] σ (λK hK _=> ?_) ?_
  ·repeat' (refine z0o (λ_=> ?_) (λ_=> ?_)<;>try (exfalso;rename_i hb;revert hb;simp[V.isNone];done))
   all_goals exact hK
  refine z05 [some (.ref i),some x,some (.ref ga),some (.str w),some (.tup [.str t,a,b,c]),some (optN (none)),none] σ (λK hK _=> ?_) ?_
  ·repeat' (refine z0o (λ_=> ?_) (λ_=> ?_)<;>try (exfalso;rename_i hb;revert hb;simp[V.isNone];done))
   all_goals exact hK
  refine z3m (α:=Option V) (λ_=>True) (λv=>[some (.ref i),some x,some (.ref ga),some (.str w),some (.tup [.str t,a,b,c]),some (optN (s3 es ps t [a',b',c'] none)),v]) σ (λK hK _=> ?_) λv _=> ?_
  ·clear q
   cases e1:t==("need":Str) with
   |false=>
    rw[y5i e1] at hK
    repeat' refine z0D (by with_reducible assumption) ?_
    exact hK _ trivial
   |true=>
    repeat' first|refine z0A (by with_reducible assumption) ?_|refine Leaf.mk ?_
    refine fnc (z3k H hg pb ha hb ?_)
    cases hn:grV ps a' b' with
    |false=>
     rw[y3v hn] at hK
     skip
     exact hK _ trivial
    |true=>
     obtain⟨y,k,ea,eb,hp⟩:=z22 hn
     have ea':=(ea▸ha).strE
     have eb':=(eb▸hb).intE
     subst ea eb ea' eb'
     have hpm:=z4n hp
     obtain⟨ns,hns⟩:=pi _ hpm
     obtain⟨hy,hk1,hk2⟩:=pb.ok _ hpm
     have hnd:z1j es (y,k)=ns:=z23 (en y) hns
     have hnl:ns.length<=6:=(S.eok y).2.2 _ hns
     obtain⟨dx,hin⟩:=S.inst
     clear ha hb hn pi en hpm hx
     repeat' first|(refine Leaf.mk ?_;with_reducible refine z0I (by assumption) (by decide+kernel) ?_)|refine Leaf.mk ?_
     refine fnc (z4M H S hy hk1 hk2 hns (.inl ?_))
     repeat' refine Leaf.mk ?_
     refine z2h (.lst _) (z0z hnl (by decide)) ?_
     rw[show(ns.map z0h).length=(z1j es (y,k)).length by rw[List.length_map,hnd]]
     refine Leaf.mk (fnc (z3Z H hc ?_))
     cases hm:z5C c' (z1j es (y,k)).length with
     |false=>
      rw[y2i hm] at hK
      skip
      exact hK _ trivial
     |true=>
      obtain⟨l,ec,hl2⟩:=z3S hm
      have hle:(z1j es (y,k))[l]? =some (z1j es (y,k))[l]:=List.getElem?_eq_getElem hl2
      repeat' refine Leaf.mk ?_
      refine z6F (ec▸hc).intE (.lst _) (by rw[hnd] at hl2;lia) (z1y (show ns[l]? =some (z1j es (y,k))[l] from(congrArg (λz=>z[l]?) hnd).symm.trans hle)) ?_
      rw[ec,y1X e1 hp hl2,hle] at hK
      exact hK (some (.lst (ns.map z0h))) trivial
  exact z7a F q
 ·rw[show z3l es wi ps (.tup (.str t::ys))=none from(show s3 es ps t ys (s2 ps t ys (s1 wi t ys))=_ by rw[z6R (hl▸h4),z7d (hl▸h3),z6J (hl▸h2)])] at q
  have e0:decide (((V.str t::xs).length:Int)=0)=false:=decide_eq_false (by rw[List.length_cons];lia)
  have e2:decide (((V.str t::xs).length:Int)=2)=false:=decide_eq_false (by rw[List.length_cons];lia)
  have e3:decide (((V.str t::xs).length:Int)=3)=false:=decide_eq_false (by rw[List.length_cons];lia)
  have e4:decide (((V.str t::xs).length:Int)=4)=false:=decide_eq_false (by rw[List.length_cons];lia)
  clear h2 h3 h4 hl
  have e1:=z2F h200 rfl
  refine z0U H λenv=> ?_
  intro F
  refine z0A e1 ?_
  refine z05 [some (.ref i),some x,some (.ref ga),some (.str w),some (.tup (.str t::xs)),some (optN (none)),none] σ (λK hK _=> ?_) ?_
  ·repeat' first|refine z0A (by with_reducible assumption) ?_|refine z0D (by with_reducible assumption) ?_|(refine z0o (λ_=> ?_) (λ_=> ?_)<;>try (exfalso;rename_i hb;revert hb;simp[V.isNone];done))
   all_goals exact hK
  refine z05 [some (.ref i),some x,some (.ref ga),some (.str w),some (.tup (.str t::xs)),some (optN (none)),none] σ (λK hK _=> ?_) ?_
  ·repeat' first|refine z0A (by with_reducible assumption) ?_|refine z0D (by with_reducible assumption) ?_|(refine z0o (λ_=> ?_) (λ_=> ?_)<;>try (exfalso;rename_i hb;revert hb;simp[V.isNone];done))
   all_goals exact hK
  refine z05 [some (.ref i),some x,some (.ref ga),some (.str w),some (.tup (.str t::xs)),some (optN (none)),none] σ (λK hK _=> ?_) ?_
  ·repeat' first|refine z0A (by with_reducible assumption) ?_|refine z0D (by with_reducible assumption) ?_|(refine z0o (λ_=> ?_) (λ_=> ?_)<;>try (exfalso;rename_i hb;revert hb;simp[V.isNone];done))
   all_goals exact hK
  exact z7a F q
theorem SrV.dn{v:V}(h:SrV v):Dn σ 1 v v:=by
 obtain⟨l,rfl,_,hl,ha⟩:=h
 refine .tup rfl (Nat.le_trans hl (by decide)) λj X Y h1 h2=> ?_
 rw[h1] at h2;cases h2
 rcases ha X (List.mem_of_getElem? h1) with⟨i,rfl⟩|⟨y,rfl,hy⟩
 ·exact .int i
 ·exact .str y hy
theorem z35(H:G1 C)(S:Shp σ i k kv es){x:V}{Px:Sto->Prop}(hx:Has σ x (.list (wi.map z0h)) Px)(h8:wi.length<=8){ga:Addr}(hg:At σ ga (dS (pkV ps)))(pb:PkB ps)(pi:PkIn es ps)(en:∀w,((es w).map (·.1)).Nodup){s:Src}{lo hi:Int}(hs:SrcOk es wi ps w s lo hi)(q:Q (.tup [.int lo,.int hi]) σ):
  CW C (d+4) (.ref 189) [.ref i,x,.ref ga,.str w,srcV s] σ Q:=z3e H S hx h8 hg pb pi en (hs.sr pb).dn (by rw[hs.src pb.nd en];exact q)
end
end
section
section
variable {C:Cx} {d:Nat} {σ:Sto} {Q:V->Sto->Prop}
open AutoSeq1 (wpAny_loadPart')
theorem y3c(l b:Addr)(items items2:Array Value)(n n2:Nat)(hsz:(items.size !=items2.size)=true):
  MeetsIn C.prog C.w (Builtin.«list.__eq__» ⟨[.ref l,.ref b],[]⟩)
   (λA R s=>s.heap.get? l=some (z0r items n)/\s.heap.get? b=some (z0r items2 n2)/\R (.ok (.ret (.bool false))) s):=by
 intro A R s h
 obtain⟨hp,g,d,tk,os⟩:=s;obtain⟨hl,hb,h⟩:=h
 have f3:=AutoSeq1.sub_list_list
 wp_walk using wpAny_loadPart' hl,wpAny_loadPart' hb
 exact h
theorem y3R{xs:List V}(q:Q (.bool xs.isEmpty) σ):AC2 C d (compareOp .Eq) (.lst xs) (.lst []) σ Q:=by
 cases xs with
 |nil=>exact y3z (.lst .nil) (.lst .nil) rfl rfl q
 |cons X xs=>
  intro A G D s v u hA R hv hu
  obtain⟨a,ws,n,rfl,ho,hr⟩:=(Has.lst (σ:=σ) (X::xs)).isList R hv
  obtain⟨b,zs,n',rfl,ho',hr'⟩:=(Has.lst (σ:=σ) []).isList R hu
  have e1:ws.size=xs.length+1:=by rw[<-Array.length_toList,hr.length,List.length_cons]
  have e2:zs.size=0:=by rw[<-Array.length_toList,hr'.length];rfl
  refine wpAny_richCompare_same_room (op:= .Eq) (T:="list") ⟨_,ho,rfl⟩ ⟨_,ho',rfl⟩ F.slot_list_eq (call_meetsIn F.slot_list_eq ⟨_,ho,rfl⟩ F.entry_list_eq (F.args_list_eq_2 _ _) (y3c a b ws zs n n' (by rw[e1,e2];rfl)) ⟨ho,ho',?_⟩) hA.line0
  exact⟨(λx=>nomatch x),PostC.now R (.bool _) q⟩
end
section
variable {C:Cx} {d:Nat} {σ:Sto} {Q:V->Sto->Prop} {i k ro:Addr} {kv rv:List (Str×Addr)} {er es:Str->List (Int×List z0c)}
noncomputable def prV(p:Str×Int):V:= .tup [.str p.1,.int p.2]
theorem z7O{env:Env}{caps:List Str}{gl:List (Str×V)}{x y:Str}{elt c:Expr}{p1 p2 pt:Pos}{kt:Nat}{P:Sto->Prop}{Z:List V->Sto->Prop}{ms:Loc}{f:Str×Int->V}{t:Str×Int->Bool}(hk1:env.kindOf x=some .local)(hk2:env.kindOf y=some .local)(hP:P σ)(ps:List (Str×Int)):
  ∀(acc:List V) (o1 o2:Option V),(∀p∈ps,∀K:Bool->Sto->Prop,K (t p) σ->AB C env (x::y::caps) gl false d (isTrue c env (eval c env)) (some (.str p.1)::some (.int p.2)::ms) σ K)->
   (∀p∈ps,t p=true->∀K:V->Sto->Prop,K (f p) σ->AT C env (x::y::caps) gl false d (eval elt env) (some (.str p.1)::some (.int p.2)::ms) σ K)->Z (acc++(ps.filter t).map f) σ->
   z0S C env (x::y::caps) gl d (.Tuple [.Name x p1,.Name y p2] kt pt) elt [c] P Z (ps.map prV) acc (o1::o2::ms) σ:=by
 induction ps with
 |nil=>intro acc o1 o2 _ _ q;simpa[z0S] using q
 |cons p ps ih=>
  intro acc o1 o2 ht h q
  refine y0i (z0w Put.head (z0w (Put.tail Put.head) ?_ (.inr hk2)) (.inr hk1))
  refine ht p (.head _) _ ⟨λe=>h p (.head _) e _ ⟨hP,ih (acc++[f p]) _ _ (λY hY=>ht Y (.tail _ hY)) (λY hY=>h Y (.tail _ hY)) ?_⟩,λe=>⟨hP,ih acc _ _ (λY hY=>ht Y (.tail _ hY)) (λY hY=>h Y (.tail _ hY)) ?_⟩⟩
  ·simpa[List.filter_cons,e] using q
  ·simpa[List.filter_cons,e] using q
theorem z6e{env:Env}{vars:List Str}{gl:List (Str×V)}{own:Bool}{m:Loc}{elt tgt iter:Expr}{ifs:List Expr}{scope:Scope}{pos:Pos}{ms:Loc}(x y:Str)(caps:List Str)(gl':List (Str×V))
  (hok:z14 scope env.scope vars [x,y] caps (gl'.map (·.1))=true) (hgl:∀p∈gl',z0f C p.1 p.2) (hcaps:Caps vars m caps ms)
  (h:AI C env vars gl own d iter tgt m σ λxs Pp σ₁=>xs.length<=sizeLine/\∀env',env'.scope=relabel scope env->
   z0S C env' (x::y::caps) gl' d tgt elt ifs Pp (λys σ₂=>Q (.lst ys) σ₂) xs [] (none::none::ms) σ₁)
  (hs:autoParam (∀x,foldedSetIterable iter env x=pure x) auF):
  AT C env vars gl own d (eval (.ListComp elt [⟨tgt,iter,ifs,0⟩] scope pos) env) m σ Q:=z77 [x,y] caps gl' hok hgl hcaps h hs
noncomputable def z3X(r1:Expr):TC:=⟨[.raw r1,.lst 0,.cmp .Eq,.ret],[.inr r1],[([0],some [0])]⟩
--z3X 1
set_option tactic.hygienic true in
theorem z65(H:G1 C)(S:Rw σ ro rv es){pk:List (Str×Int)}(pb:PkB pk)(q1:PkIn es pk->Q (.bool true) σ)(q2:Q (.bool false) σ):CW C (d+1) (.ref 440) [.ref ro,.lst (pk.map prV)] σ Q:=by
 refine z0G (G1.kin (by assumption)) ["_law_rows_here","_law_pairs"] [] (by kernel_rfl) (vs2 λ_ _=>by kernel_rfl) rfl GL_nil ?_
 intro env hsc
 have hrn:((kvV rv).map (·.1)).Nodup:=by rw[z0x];exact S.rwn
 have h12:=pb.len
 have hro:=S.rows
 refine z0e (z0l H) (z0m H) (z3X _) (by exact rfl) (by kernel_rfl) ?_
 intro F m0
 refine Leaf.mk ?_
 show AT C env ["_law_rows_here","_law_pairs"] _ true _ (eval _ env) [some (.ref ro),some (.lst (pk.map prV))] _ _
 refine z6e "_law_ware" "_law_make" ["_law_rows_here"] [] (by rw[hsc];kernel_rfl) GL_nil (.cons LkC.lk .nil) (z1b ?_)
 repeat' first|(with_reducible refine z0n ?_)|fail
 refine⟨_,_,.lst _,z0t (by rw[List.length_map];lia),λenv' he=>z7O (f:=λ_=> .int 1) (t:=λp=> !((es p.1).map (·.1)).any (·==p.2)) (z0u he (by decide+kernel)) (z0u he (by decide+kernel)) trivial pk [] none none (λp hp K hK=> ?_) (λp hp _ K hK=> ?_) ?_⟩
 ·refine z9A ?_
  repeat' with_reducible first|refine z0n ?_|refine z2J (λ_ _ _=> ?_)|refine z6S M_get ?_|refine z0q ?_|refine z0v ?_|refine z1S ?_|refine⟨tyD (by assumption),?_⟩|fail
  refine z4I H.ns (hro.cons _) hrn ?_
  rename_i a o hf
  by_cases hm:p.1∈rv.map (·.1)
  ·obtain⟨b,hb,hrb,hat⟩:=S.at hm
   have hen:((esV (es p.1)).map (·.1)).Nodup:=by rw[z0s];exact(S.eok p.1).nd
   rw[hrb]
   refine z8D H.ns (hat.cons _) hen ?_
   have e:(vAt (esV (es p.1)) p.2).isSome=((es p.1).map (·.1)).any (·==p.2):=by
    by_cases h:p.2∈(es p.1).map (·.1)
    ·obtain⟨e,he,h2⟩:=List.mem_map.mp h
     rw[<-h2,z0X (X:= .lst (e.2.map z0h)) hen (List.mem_map.mpr ⟨e,he,rfl⟩)]
     exact(List.any_eq_true.mpr ⟨e.1,List.mem_map.mpr ⟨e,he,rfl⟩,by simp⟩).symm
    ·rw[z1k (by rw[z0s];exact h)]
     refine(eq_false_of_ne_true λh2=> ?_).symm
     obtain⟨z,hz,e⟩:=List.any_eq_true.mp h2
     exact h ((beq_iff_eq.mp e)▸hz)
   rw[e]
   exact z0i ⟨σ,List.sublist_cons_self _ _,hK⟩
  ·rw[z1k (by rw[z0x];exact hm)]
   refine z8D (kvs:=[]) H.ns At.hd List.nodup_nil ?_
   have e:es p.1=[]:=S.out p.1 hm
   rw[e] at hK
   exact z0i ⟨σ,List.sublist_cons_self _ _,hK⟩
 ·repeat' first|(with_reducible refine z0O ?_)|fail
  exact hK
 rw[List.nil_append]
 refine Leaf.mk (y3R ?_)
 cases e:pk.filter λp=> !((es p.1).map (·.1)).any (·==p.2) with
 |nil=>
  refine q1 λp hp=> ?_
  have:=List.filter_eq_nil_iff.mp e p hp
  have h2:((es p.1).map (·.1)).any (·==p.2)=true:=by
   cases h:((es p.1).map (·.1)).any (·==p.2) with
   |true=>rfl
   |false=>rw[h] at this;exact absurd rfl this
  obtain⟨z,hz,e⟩:=List.any_eq_true.mp h2
  obtain⟨en,hen,rfl⟩:=List.mem_map.mp hz
  exact⟨en.2,by rw[<-beq_iff_eq.mp e];exact hen⟩
 |cons _ _=>exact q2
end
end
section
section
variable {C:Cx} {d:Nat} {σ:Sto} {Q:V->Sto->Prop} {i k:Addr} {kv:List (Str×Addr)} {es:Str->List (Int×List z0c)} {wi:List z0c} {ps:List (Str×Int)} {w:Str}
theorem Shp.c1(S:Shp σ i k kv es)(p:Addr×Obj×AO):Shp (p::σ) i k kv es:=S.frame λ_ _ _ h=>h.cons _
theorem y2R(ps:List (Str×Int)):ps.map prV=(pkV ps).map λp=>V.tup [(KK.str C.prog C.w).v p.1,p.2]:=by rw[List.map_map];rfl
theorem y2e{K:Type}[DecidableEq K]{kvs:List (K×V)}(hn:(kvs.map (·.1)).Nodup):y1x kvs=kvs:=by
 unfold y1x
 have:∀(l acc:List (K×V)),((acc++l).map (·.1)).Nodup->l.foldl (λacc p=>z2c acc p.1 p.2) acc=acc++l:=by
  intro l
  induction l with
  |nil=>intro acc _;rw[List.append_nil];rfl
  |cons p l ih=>
   intro acc h
   rw[List.foldl_cons,z1w,ih,List.append_assoc]
   ·rfl
   ·rw[List.append_assoc];exact h
   ·intro hm
    rw[List.map_append] at h
    exact(List.nodup_append.mp h).2.2 _ hm _ (.head _) rfl
 exact this kvs [] hn
theorem z2E{x:V}{P:Sto->Prop}(h:Has σ x (.list (ps.map prV)) P)(pb:PkB ps)(q:∀a o,Fresh σ a->Q (.ref a) ((a,o,dS (pkV ps))::σ)):KW C d (.type "dict") [x] σ Q:=by
 rw[y2R (C:=C)] at h
 refine y2W (KK.str C.prog C.w) h (by rw[List.length_map];exact Nat.le_trans pb.len (by decide)) λa o hf=> ?_
 rw[y2e (by rw[z0Y];exact pb.nd)]
 exact q a o hf
theorem y2M{xs:List V}{X:V}(q:Q X σ):SubR C d (.lst (xs++[X])) (.int (-1)) σ Q:=by
 have hl:(xs++[X]).length=xs.length+1:=by rw[List.length_append];rfl
 refine z9d (.lst _) (by decide) (by rw[hl];lia) (by decide) ?_ q
 rw[hl,show(-1+((xs.length+1:Nat):Int)).toNat=xs.length by lia]
 exact List.getElem?_concat_length
theorem z8o{ns:List z0c}{j:Nat}{X:V}(h:(z3U (ns.map z0h))[j]? =some X):∃n,ns[j]? =some n/\X= .tup [.int (j:Int),z0h n]:=by
 simp only[z3U,List.getElem?_map,List.getElem?_zipIdx,Nat.zero_add] at h
 cases e:ns[j]? with
 |none=>rw[e] at h;simp at h
 |some n=>rw[e] at h;simp at h;exact⟨n,rfl,h.symm⟩
theorem z9j{mk:Int}:∀{ss:List (Int×Int)} {ys:List V},F2 (λ(p:V×V) Y=>∀lo hi,p=(V.int lo,V.int hi)->Y= .bool (decide (lo<=mk)&&decide (mk<=hi))) (ss.map λp=>(V.int p.1,V.int p.2)) ys->ys=(ss.map λp=>decide (p.1<=mk)&&decide (mk<=p.2)).map V.bool
 |[],_,h=>by cases h;rfl
 |p::ss,_,h=>by
  cases h with
  |cons a b=>rw[a p.1 p.2 rfl,z9j b];rfl
noncomputable def z6g(r1:Expr):TC:=⟨[.asgL 3,.loc 0,.mI 310 "makes",.loc 1,.meth (.ref 293) 1,.forV 4 [.raw r1,.call (.bi "all") 1,.tvalc,.ife [.loc 3,.mty "list",.loc 4,.meth (.bi "list.append") 1,.pop] []],.loc 3,.ret],[.inr r1],[([1,0,0],some [1])]⟩
--z6g 1
noncomputable def t_clash:TC:=⟨[.loc 1,.call (.type "dict") 1,.asg 2,.loc 1,.psh (.int 1),.una .USub,.sub,.asg2 3 4,.loc 0,.mI 310 "needs",.loc 3,.loc 4,.meth (.ref 300) 2,.forE 5 6 [.loc 6,.subT 0,.loc 2,.tcmpc .In,.mop .And [.loc 2,.loc 6,.subT 0,.sub,.loc 6,.subT 1,.loc 6,.subT 2,.call (.ref 149) 3,.tvalc,.not,.mop .And [.psh (.bool true)]],.ife [.loc 6,.subT 0,.psh (.str "pick"),.loc 6,.subT 0,.loc 2,.loc 6,.subT 0,.sub,.tup 3,.psh (.str "need"),.loc 3,.loc 4,.loc 5,.tup 4,.lst 2,.lst 0,.tup 3,.ret] []],.psh .none,.ret],[],[]⟩
--t_clash 0
noncomputable def t_outside:TC:=⟨[.loc 2,.call (.type "dict") 1,.asg 6,.loc 5,.forL 7 [.loc 0,.loc 1,.loc 6,.loc 3,.loc 7,.call (.ref 189) 5,.asg2 8 9,.loc 4,.loc 8,.loc 9,.call (.ref 149) 3,.tvalc,.not,.ife [.loc 3,.psh (.str "pick"),.loc 3,.loc 4,.tup 3,.loc 7,.lst 2,.lst 0,.tup 3,.ret] []],.psh .none,.ret],[],[]⟩
--t_outside 0
theorem y3a{p:Str×Int}(q:Q (prV p) σ):SubR C d (.lst ((ps++[p]).map prV)) (.int (-1)) σ Q:=by rw[List.map_append];exact y2M q
inductive LbI(a0 a1 a2:V)(fa:Addr)(l:List Int)(t:Int->Bool)(σ:Sto)(j:Nat):Loc->Sto->Prop
 |mk {o:Obj} {v:Option V}:LbI a0 a1 a2 fa l t σ j [some a0,some a1,some a2,some (.ref fa),v] ((fa,o,.list (((l.take j).filter t).map V.int))::σ)
theorem y3b{l:List Int}{t:Int->Bool}{j:Nat}{mk:Int}(h:l[j]? =some mk):(l.take (j+1)).filter t=if t mk then(l.take j).filter t++[mk] else(l.take j).filter t:=by
 rw[z36 h,List.filter_append]
 cases e:t mk<;>simp[e]
theorem z5S(H:G1 C)(S:Shp σ i k kv es)(hw:Ware w){ss:List (Int×Int)}(hl:ss.length<=200)(q:Q (.lst ((lfF es w ss).map V.int)) σ):
  CW C (d+3) (.ref 194) [.ref i,.str w,.lst (ss.map λp=> .tup [.int p.1,.int p.2])] σ Q:=by
 refine z1U (z03 ?_)
 refine z0G (G1.kin (by assumption)) ["shop","ware","stretches","found","make"] [("reversed",.type "reversed"),("all",.bi "all")] (by kernel_rfl) (vs3 λ_ _ _=>by kernel_rfl) rfl (z0a (z5n (by assumption)) (z0a (y0A (by assumption)) GL_nil)) ?_
 intro env hsc
 obtain⟨dx,hin⟩:=S.inst
 have h8:=(S.eok w).2.1
 have hsl:(z4e es w).length=(es w).length:=by unfold z4e;rw[List.length_reverse,(z0C _).length_eq,List.length_map]
 refine z0e (z0l H) (z0m H) (z6g _) (by exact rfl) (by kernel_rfl) ?_
 intro F m0 fa ofa hff
 refine Leaf.mk (z0I (hin.cons _) (by decide+kernel) ?_)
 refine Leaf.mk (fnc (z82 H (S.c1 _) hw (.inl ?_)))
 refine Leaf.mk (.mk _ _ (LbI (.ref i) (.str w) (.lst (ss.map λp=> .tup [.int p.1,.int p.2])) fa (z4e es w) (z3j ss) σ) (.lst _) .mk (λj X hX m τ hI QB hQB _=> ?_) λm τ hI=> ?_)
 ·clear q
  rw[<-List.map_reverse,List.getElem?_map] at hX
  obtain⟨mk,hmk,rfl⟩:=Option.map_eq_some_iff.mp hX
  have hmk:(z4e es w)[j]? =some mk:=hmk
  have hj:=(List.getElem?_eq_some_iff.mp hmk).1
  have hnx:=y3b (t:=z3j ss) hmk
  refine hI.casesOn @λo v=> ?_
  have hgl:((((z4e es w).take j).filter (z3j ss)).map V.int).length<=sizeLine:=z0t (by
   rw[List.length_map]
   exact Nat.le_trans (List.length_filter_le _ _) (Nat.le_trans (List.length_take_le _ _) (Nat.le_trans (Nat.le_of_lt hj) (by rw[hsl];exact Nat.le_trans h8 (by decide)))))
  refine Leaf.mk ?_
  show AT C env ["shop","ware","stretches","found","make"] _ true _ (eval _ env) [some (.ref i),some (.str w),some (.lst (ss.map λp=> .tup [.int p.1,.int p.2])),some (.ref fa),some (.int mk)] _ _
  refine z6e "low" "high" ["make"] [("within",.ref 149)] (by rw[hsc];kernel_rfl) (z0a (z40 H) GL_nil) (.cons LkC.lk .nil) (z1b ?_)
  with_reducible refine z0n ?_
  refine⟨_,_,.lst _,z0z hl (by decide),λenv' he=> ?_⟩
  have hss:(ss.map λp=>V.tup [.int p.1,.int p.2])=(ss.map λp=>(V.int p.1,V.int p.2)).map λp=>V.tup [p.1,p.2]:=by rw[List.map_map];rfl
  rw[hss]
  refine z8z (Gd:=λp Y=>∀lo hi,p=(V.int lo,V.int hi)->Y= .bool (decide (lo<=mk)&&decide (mk<=hi))) (z0u he (by decide+kernel)) (z0u he (by decide+kernel)) trivial _ _ _ _ (λp hp K hK=> ?_) λys hys=> ?_
  ·obtain⟨⟨lo,hi⟩,hm,rfl⟩:=List.mem_map.mp hp
   repeat' with_reducible first|refine z0n ?_|refine z1s ?_|refine z0H ?_|refine z0q ?_|refine z0v ?_|refine⟨z7K (by assumption),?_⟩|fail
   refine fnc (z41 H ?_)
   exact hK _ λlo' hi' e=>by cases e;rfl
  obtain rfl:ys=(ss.map λp=>decide (p.1<=mk)&&decide (mk<=p.2)).map V.bool:=z9j hys
  rw[List.nil_append,<-hss]
  refine Leaf.mk (y2j (.lst _) ?_)
  rw[show((ss.map λp=>decide (p.1<=mk)&&decide (mk<=p.2)).all id)=z3j ss mk by rw[List.all_map];rfl]
  refine z0o (λhb=> ?_) λhb=> ?_
  ·rw[if_pos hb] at hnx
   refine Leaf.mk ⟨tyL At.hd,?_⟩
   refine Leaf.mk (z1O hgl λo'=> ?_)
   refine hQB _ _ trivial ?_
   have hm:LbI (.ref i) (.str w) (.lst (ss.map λp=> .tup [.int p.1,.int p.2])) fa (z4e es w) (z3j ss) σ (j+1) _ ((fa,o',.list ((((z4e es w).take (j+1)).filter (z3j ss)).map V.int))::σ):= .mk (v:=some (.int mk))
   rw[hnx,List.map_append] at hm
   exact hm
  ·rw[hb,if_neg Bool.false_ne_true] at hnx
   refine hQB _ _ trivial ?_
   have hm:LbI (.ref i) (.str w) (.lst (ss.map λp=> .tup [.int p.1,.int p.2])) fa (z4e es w) (z3j ss) σ (j+1) _ ((fa,o,.list ((((z4e es w).take (j+1)).filter (z3j ss)).map V.int))::σ):= .mk (v:=some (.int mk))
   rw[hnx] at hm
   exact hm
 ·refine hI.casesOn @λo v=> ?_
  refine⟨_,List.Sublist.refl _,fa,o,_,σ,rfl,rfl,?_⟩
  rw[show(((z1a ((es w).map (·.1))).map V.int).reverse).length=(z4e es w).length by unfold z4e;rw[List.length_reverse,List.length_reverse,List.length_map],List.take_length]
  exact q
inductive ClI(a0 a1 a2 a3 a4:V)(τ:Sto)(j:Nat):Loc->Sto->Prop
 |mk {v1 v2:Option V}:ClI a0 a1 a2 a3 a4 τ j [some a0,some a1,some a2,some a3,some a4,v1,v2] τ
theorem y28(H:G1 C)(S:Shp σ i k kv es){ps0:List (Str×Int)}{mk:Int}(pb:PkB (ps0++[(w,mk)])){ns:List z0c}(hm:(mk,ns)∈es w)
  (q1:∀xs,(∀n,ROk (n+1) (.tup xs))->Q (.tup xs) σ) (q2:Q .none σ):
  CW C (d+4) (.ref 225) [.ref i,.lst ((ps0++[(w,mk)]).map prV)] σ Q:=by
 refine z03 ?_
 refine z0G (G1.kin (by assumption)) ["shop","pairs","picked","ware","make","k","need"] [("dict",.type "dict"),("enumerate",.type "enumerate"),("within",.ref 149)] (by kernel_rfl) (vs2 λ_ _=>by kernel_rfl) rfl (z0a (z2S (by assumption)) (z0a (z4D (by assumption)) (z0a (z40 (by assumption)) GL_nil))) ?_
 intro env hsc
 clear hsc
 obtain⟨dx,hin⟩:=S.inst
 obtain⟨hw,h1,h2⟩:=pb.ok (w,mk) (List.mem_append_right _ (.head _))
 have hpn:((pkV (ps0++[(w,mk)])).map (·.1)).Nodup:=by rw[z0Y];exact pb.nd
 refine z0e (z0l H) (z0m H) t_clash rfl (by kernel_rfl) ?_
 intro F m0
 refine Leaf.mk (z2E (.lst _) pb λpa opa hfp=> ?_)
 refine Leaf.mk (z4B ?_)
 refine Leaf.mk (y3a ?_)
 refine Leaf.mk (z0I (hin.cons _) (by decide+kernel) ?_)
 refine Leaf.mk (fnc (z4M H (S.c1 _) hw h1 h2 hm (.inl ?_)))
 refine Leaf.mk (.mk _ _ (ClI (.ref i) (.lst ((ps0++[(w,mk)]).map prV)) (.ref pa) (.str w) (.int mk) ((pa,opa,dS (pkV (ps0++[(w,mk)])))::σ)) (.lst _) .mk (λj X hX m τ hI QB hQB hQR=> ?_) λm τ hI=> ?_)
 ·obtain⟨⟨nm,lo,hi⟩,hne,rfl⟩:=z8o hX
  refine hI.casesOn @λv1 v2=> ?_
  have hgo:=λv1 v2=>hQB _ _ trivial (.mk (v1:=v1) (v2:=v2))
  refine Leaf.mk (z2I H.ns At.hd hpn (z0i ?_))
  cases hv:vAt (pkV (ps0++[(w,mk)])) nm with
  |none=>exact hgo _ _
  |some Y=>
   obtain⟨⟨n0,m0⟩,hmem,e⟩:=List.mem_map.mp (y3Q hv)
   cases e
   refine Leaf.mk (z2k At.hd hpn hv ?_)
   refine Leaf.mk (fnc (z41 H ?_))
   refine z0o (λhb=> ?_) λhb=>hgo _ _
   refine Leaf.mk (z2k At.hd hpn hv ?_)
   exact hQR _ _ _ ⟨σ,List.sublist_cons_self _ _,q1 _ λn=> .two (pb.ok _ hmem).1 (z8Y (pb.ok _ hmem).1.asc) (z86 hw.asc)⟩
 ·cases hI with
  |mk=>exact⟨σ,List.sublist_cons_self _ _,q2⟩
inductive OsI(a0 a1 a2 a3 a4 a5 a6:V)(τ:Sto)(j:Nat):Loc->Sto->Prop
 |mk {v1 v2 v3:Option V}:OsI a0 a1 a2 a3 a4 a5 a6 τ j [some a0,some a1,some a2,some a3,some a4,some a5,some a6,v1,v2,v3] τ
theorem z92(H:G1 C)(S:Shp σ i k kv es){x:V}{Px:Sto->Prop}(hx:Has σ x (.list (wi.map z0h)) Px)(h8:wi.length<=8)(pb:PkB ps){mk:Int}{ss:List Src}(pi:PkIn es ps)(en:∀w,((es w).map (·.1)).Nodup)(hw:Ware w)(hss:∀s∈ss,∃lo hi,SrcOk es wi ps w s lo hi)
  (q1:∀xs,(∀n,ROk (n+1) (.tup xs))->Q (.tup xs) σ) (q2:Q .none σ):
  CW C (d+5) (.ref 232) [.ref i,x,.lst (ps.map prV),.str w,.int mk,.lst (ss.map srcV)] σ Q:=by
 refine z03 ?_
 refine z0G (G1.kin (by assumption)) ["shop","wish","pairs","ware","make","sources","granted","source","low","high"] [("dict",.type "dict"),("stretch_of",.ref 189),("within",.ref 149)] (by kernel_rfl) (vs6 λ_ _ _ _ _ _=>by kernel_rfl) rfl (z0a (z2S (by assumption)) (z0a (z2g (by assumption)) (z0a (z40 (by assumption)) GL_nil))) ?_
 intro env hsc
 clear hsc
 refine z0e (z0l H) (z0m H) t_outside rfl (by kernel_rfl) ?_
 intro F m0
 refine Leaf.mk (z2E (.lst _) pb λpa opa hfp=> ?_)
 refine Leaf.mk (.mk _ _ (OsI (.ref i) x (.lst (ps.map prV)) (.str w) (.int mk) (.lst (ss.map srcV)) (.ref pa) ((pa,opa,dS (pkV ps))::σ)) (.lst _) .mk (λj X hX m τ hI QB hQB hQR=> ?_) λm τ hI=> ?_)
 ·rw[List.getElem?_map] at hX
  apply z1I hX;intro s hse
  obtain⟨lo,hi,hs⟩:=hss s (List.mem_of_getElem? hse)
  refine hI.casesOn @λv1 v2 v3=> ?_
  refine Leaf.mk (fnc (z35 H (S.c1 _) (hx.mono λp h=> .tail _ h) h8 At.hd pb pi en hs ?_))
  refine Leaf.mk (fnc (z41 H ?_))
  refine z0o (λhb=> ?_) λhb=>hQB _ _ trivial .mk
  exact hQR _ _ _ ⟨σ,List.sublist_cons_self _ _,q1 _ λn=> .two hw (z8Y hw.asc) (hs.sr pb)⟩
 ·cases hI with
  |mk=>exact⟨σ,List.sublist_cons_self _ _,q2⟩
end
end
section
section
variable {C:Cx} {d:Nat} {σ:Sto} {Q:V->Sto->Prop} {i k:Addr} {kv:List (Str×Addr)} {es:Str->List (Int×List z0c)} {wi:List z0c} {ps:List (Str×Int)} {w:Str}
noncomputable def wsT(wi:List z0c)(w:Str):V->Bool
 | .int j=>(wi[j.toNat]?).any λn=>n.1==w
 |_=>false
noncomputable def wsS(wi:List z0c)(w:Str):List Src:=((List.range wi.length).filter λj=>(wi[j]?).any λn=>n.1==w).map Src.wish
theorem ws_eq:((z1o 0 1 wi.length).filter (wsT wi w)).map (λX=>V.tup [.str "wish",X])=(wsS wi w).map srcV:=by
 rw[z4k,List.filter_map,List.map_map]
 unfold wsS
 rw[List.map_map]
 have e:(wsT wi w∘λi:Nat=>V.int (i:Int))=λj=>(wi[j]?).any λn=>n.1==w:=by
  funext j
  show(wi[((j:Nat):Int).toNat]?).any _=_
  rw[Int.toNat_natCast]
 rw[e];rfl
theorem y4L{s:Src}(h:s∈wsS wi w):∃lo hi,SrcOk es wi ps w s lo hi:=by
 apply z0p h;intro j hj
 have h2:=(List.mem_filter.mp hj).2
 cases e:wi[j]? with
 |none=>rw[e] at h2;cases h2
 |some n=>
  rw[e] at h2
  have h3:n.1=w:=eq_of_beq h2
  refine⟨n.2.1,n.2.2,.wish ?_⟩
  rw[e,<-h3]
theorem y4D{n:z0c}(h:n∈wi)(hn:n.1=w):∃s∈wsS wi w,SrcOk es wi ps w s n.2.1 n.2.2:=by
 obtain⟨j,hj⟩:=List.mem_iff_getElem?.mp h
 refine⟨.wish j,List.mem_map.mpr ⟨j,List.mem_filter.mpr ⟨List.mem_range.mpr (List.getElem?_eq_some_iff.mp hj).1,?_⟩,rfl⟩,.wish ?_⟩
 ·rw[hj];exact beq_iff_eq.mpr hn
 ·rw[hj,<-hn]
structure SsOk(es:Str->List (Int×List z0c))(wi:List z0c)(ps:List (Str×Int))(w:Str)(al:List z0c)(n:Nat)(ss:List Src):Prop where
 ok:∀s∈ss,∃lo hi,SrcOk es wi ps w s lo hi
 all:∀n∈al,n.1=w->∃s∈ss,SrcOk es wi ps w s n.2.1 n.2.2
 len:ss.length<=n
theorem SsOk.skip{al:List z0c}{n:Nat}{ss:List Src}{nd:z0c}(h:SsOk es wi ps w al n ss)(hn:nd.1≠w):SsOk es wi ps w (al++[nd]) (n+1) ss:=
 ⟨h.ok,λm hm e=>by
  rcases List.mem_append.mp hm with h'|h'
  ·exact h.all m h' e
  ·rw[List.mem_singleton.mp h'] at e;exact absurd e hn,Nat.le_succ_of_le h.len⟩
theorem SsOk.more{al:List z0c}{n:Nat}{ss:List Src}{nd:z0c}{s:Src}(h:SsOk es wi ps w al n ss)(hs:SrcOk es wi ps w s nd.2.1 nd.2.2):SsOk es wi ps w (al++[nd]) (n+1) (ss++[s]):=
 ⟨λs' hs'=>by
  rcases List.mem_append.mp hs' with h'|h'
  ·exact h.ok s' h'
  ·rw[List.mem_singleton.mp h'];exact⟨_,_,hs⟩,λm hm e=>by
  rcases List.mem_append.mp hm with h'|h'
  ·obtain⟨s',h1,h2⟩:=h.all m h' e
   exact⟨s',List.mem_append_left _ h1,h2⟩
  ·rw[List.mem_singleton.mp h'];exact⟨s,List.mem_append_right _ (.head _),hs⟩,by rw[List.length_append];exact Nat.succ_le_succ h.len⟩
noncomputable def z3c(r1:Stmt):TC:=⟨[.rawS r1,.loc 2,.forL2 5 6 [.loc 0,.mI 310 "needs",.loc 5,.loc 6,.meth (.ref 300) 2,.forE 7 8 [.loc 8,.subT 0,.loc 3,.tcmpc .Eq,.ife [.loc 4,.mty "list",.psh (.str "need"),.loc 5,.loc 6,.loc 7,.tup 4,.meth (.bi "list.append") 1,.pop] []]],.loc 4,.ret],[.inl r1],[([0],none)]⟩
--z3c 1
inductive SfI(a0 a1 a2 a3:V)(fa:Addr)(σ:Sto)(P:Nat->List Src->Prop)(j:Nat):Loc->Sto->Prop
 |mk {o:Obj} {ss:List Src} {v1 v2 v3 v4:Option V}:P j ss->SfI a0 a1 a2 a3 fa σ P j [some a0,some a1,some a2,some a3,some (.ref fa),v1,v2,v3,v4] ((fa,o,.list (ss.map srcV))::σ)
inductive SgI(a0 a1 a2 a3 a5 a6:V)(fa:Addr)(σ:Sto)(P:Nat->List Src->Prop)(j:Nat):Loc->Sto->Prop
 |mk {o:Obj} {ss:List Src} {v3 v4:Option V}:P j ss->SgI a0 a1 a2 a3 a5 a6 fa σ P j [some a0,some a1,some a2,some a3,some (.ref fa),some a5,some a6,v3,v4] ((fa,o,.list (ss.map srcV))::σ)
theorem y2m(ns:List z0c):(z3U (ns.map z0h)).length=ns.length:=by simp[z3U]
theorem y3W{j:Nat}(hj:j<wi.length):wsT wi w (V.int (j:Int))=(wi[j].1==w):=by
 show(wi[((j:Nat):Int).toNat]?).any _=_
 rw[Int.toNat_natCast,List.getElem?_eq_getElem hj];rfl
theorem y26(h8:wi.length<=8):(wsS wi w).length<=8:=by
 unfold wsS
 rw[List.length_map]
 exact Nat.le_trans (List.length_filter_le _ _) (by rw[List.length_range];exact h8)
theorem y4J{al:List z0c}{j l m:Nat}{ss:List Src}(W:SsOk es wi ps w al (8+6*j+l) ss)(hj:j<m)(hm:m<=12)(hl:l<=6):(ss.map srcV).length<=sizeLine:=z0z (n:=100) (by have:=W.len;lia) (by decide)
theorem SsOk.le{al:List z0c}{n m:Nat}{ss:List Src}(W:SsOk es wi ps w al n ss)(h:n<=m):SsOk es wi ps w al m ss:=⟨W.ok,W.all,Nat.le_trans W.len h⟩
theorem z5D(H:G1 C)(S:Shp σ i k kv es){x:V}{Px:Sto->Prop}(hx:Has σ x (.list (wi.map z0h)) Px)(h8:wi.length<=8)(pb:PkB ps)(pi:PkIn es ps)
  (q:∀ss:List Src,SsOk es wi ps w (wi++ps.flatMap (z1j es)) 80 ss->Q (.lst (ss.map srcV)) σ):CW C (d+4) (.ref 218) [.ref i,x,.lst (ps.map prV),.str w] σ Q:=by
 refine z1U (z03 ?_)
 refine z0G (G1.kin (by assumption)) ["shop","wish","pairs","ware","found","other","make","k","need"] [("range",.type "range"),("len",.bi "len"),("enumerate",.type "enumerate")] (by kernel_rfl) (vs4 λ_ _ _ _=>by kernel_rfl) rfl (z0a (z2m (by assumption)) (z0a (z0Q (by assumption)) (z0a (z4D (by assumption)) GL_nil))) ?_
 intro env hsc
 obtain⟨dx,hin⟩:=S.inst
 have h12:=pb.len
 refine z0e (z0l H) (z0m H) (z3c _) (by exact rfl) (by kernel_rfl) ?_
 intro F m0
 refine Leaf.mk ?_
 show AS C env ["shop","wish","pairs","ware","found","other","make","k","need"] _ true _ (exec _ env) [some (.ref i),some x,some (.lst (ps.map prV)),some (.str w),none,none,none,none,none] _ _
 refine z2B "k" ["wish","ware"] [] (z11 (by rw[hsc];kernel_rfl)) (by rw[hsc];kernel_rfl) GL_nil (.cons LkC.lk (.cons LkC.lk .nil)) (z2L ?_)
 repeat' with_reducible first|refine z0n ?_|refine z1s ?_|refine z0H ?_|refine z0q ?_|refine z0v ?_|refine⟨z2f,?_⟩|refine⟨z0R,?_⟩|fail
 refine z2h hx (z0z h8 (by decide)) ?_
 rw[List.length_map]
 repeat' with_reducible first|refine z0v ?_|refine z2T ?_|fail
 refine⟨_,_,_,wi.length,rfl,y0D (Nat.le_trans h8 (by decide)),y1F _,by rw[z1D];exact Nat.le_trans h8 (by decide),λenv' he=>z1z (f:=λX=>V.tup [.str "wish",X]) (t:=wsT wi w) (z0u he (by decide+kernel)) trivial _ _ _ (λX hX K hK=> ?_) (λX hX _ K hK=> ?_) ?_⟩
 ·obtain⟨j,hj,rfl⟩:=z2e hX
  rw[y3W hj] at hK
  have hjm:(wi.map z0h)[j]? =some (z0h wi[j]):=by rw[List.getElem?_map,List.getElem?_eq_getElem hj];rfl
  clear q
  repeat' with_reducible first|refine z0n ?_|refine z1i ?_|refine z1S ?_|fail
  refine z04 hx (Nat.le_trans hj (Nat.le_trans h8 (by decide))) hjm ?_
  unfold z0h
  repeat' first|(with_reducible refine z0O ?_)|fail
  refine z3f (by with_unfolding_all decide) (by with_unfolding_all decide) (by with_unfolding_all exact rfl) ?_
  repeat' with_reducible first|refine z0n ?_|refine y3B ?_|refine z0i ?_|fail
  exact hK
 ·obtain⟨j,hj,rfl⟩:=z2e hX
  clear q
  repeat' with_reducible first|refine z0n ?_|refine y2d ?_|refine z2V ?_|refine z0q ?_|refine z0v ?_|refine⟨by with_unfolding_all exact Nat.le_of_ble_eq_true rfl,?_⟩|fail
  exact hK
 rw[List.nil_append,ws_eq]
 intro fa ofa
 clear hsc
 with_reducible refine z2t ?_
 refine Leaf.mk (.mk _ _ (SfI (.ref i) x (.lst (ps.map prV)) (.str w) fa σ λj ss=>SsOk es wi ps w (wi++(ps.take j).flatMap (z1j es)) (8+6*j) ss) (.lst _) (.mk ?_) (λj X hX m τ hI QB hQB _=> ?_) λm τ hI=> ?_)
 ·rw[List.take_zero,List.flatMap_nil,List.append_nil]
  exact⟨λs hs=>y4L hs,λn hn e=>y4D hn e,y26 h8⟩
 ·rw[List.getElem?_map] at hX
  apply z1I hX;rintro ⟨ot,mk⟩ hpe
  have hj:=(List.getElem?_eq_some_iff.mp hpe).1
  have hpm:=List.mem_of_getElem? hpe
  obtain⟨ns,hns⟩:=pi _ hpm
  obtain⟨ho,h1,h2⟩:=pb.ok _ hpm
  have hnl:ns.length<=6:=(S.eok ot).2.2 _ hns
  have htk:wi++(ps.take (j+1)).flatMap (z1j es)=(wi++(ps.take j).flatMap (z1j es))++ns:=by
   have hnd:z1j es (ot,mk)=ns:=z23 (S.eok ot).1 hns
   rw[List.take_add_one,hpe,List.flatMap_append,List.append_assoc]
   show _=_++(_++ns)
   rw[<-hnd];simp
  refine hI.casesOn @λo ss v1 v2 v3 v4 W=> ?_
  clear q
  refine Leaf.mk (z0I (hin.cons _) (by decide+kernel) ?_)
  refine Leaf.mk (fnc (z4M H (S.c1 _) ho h1 h2 hns (.inl ?_)))
  refine Leaf.mk (.mk _ _ (SgI (.ref i) x (.lst (ps.map prV)) (.str w) (.str ot) (.int mk) fa σ λl ss=>SsOk es wi ps w ((wi++(ps.take j).flatMap (z1j es))++ns.take l) (8+6*j+l) ss) (.lst _) (.mk ?_) (λl X hX m τ hI QB2 hQB2 _=> ?_) λm τ hI=> ?_)
  ·rw[List.take_zero,List.append_nil];exact W
  ·obtain⟨⟨nm,lo,hi⟩,hne,rfl⟩:=z8o hX
   have hl:=(List.getElem?_eq_some_iff.mp hne).1
   clear W
   refine hI.casesOn @λo ss v3 v4 W=> ?_
   have hlen:=y4J W hj h12 (Nat.le_trans (Nat.le_of_lt hl) hnl)
   have htl:∀L:List z0c,L++ns.take (l+1)=(L++ns.take l)++[(nm,lo,hi)]:=λL=>by rw[List.take_add_one,hne,List.append_assoc];rfl
   refine z0o (λhb=> ?_) λhb=> ?_
   ·refine Leaf.mk ⟨tyL At.hd,?_⟩
    refine Leaf.mk (z1O hlen λo'=> ?_)
    have W2:=W.more (nd:=(nm,lo,hi)) (.need (k:=l) hpm hns (by rw[hne,show nm=w from eq_of_beq hb]))
    rw[<-htl] at W2
    have:=SgI.mk (a0:= .ref i) (a1:=x) (a2:= .lst (ps.map prV)) (a3:= .str w) (a5:= .str ot) (a6:= .int mk) (fa:=fa) (σ:=σ) (o:=o') (v3:=some (.int (l:Int))) (v4:=some (z0h (nm,lo,hi))) (P:=λl ss=>SsOk es wi ps w ((wi++(ps.take j).flatMap (z1j es))++ns.take l) (8+6*j+l) ss) W2
    rw[List.map_append] at this
    exact hQB2 _ _ trivial this
   ·refine hQB2 _ _ trivial (.mk ?_)
    rw[htl]
    exact W.skip λe=>by rw[show(nm==w)=true from beq_iff_eq.mpr e] at hb;cases hb
  ·clear W
   refine hI.casesOn @λo ss v3 v4 W=> ?_
   rw[y2m,List.take_length,<-htk] at W
   exact hQB _ _ trivial (.mk (W.le (by show _<=8+6*(j+1);lia)))
 ·refine hI.casesOn @λo ss v1 v2 v3 v4 W=> ?_
  rw[List.length_map,List.take_length] at W
  exact⟨_,List.Sublist.refl _,fa,o,_,σ,rfl,rfl,q ss (W.le (by lia))⟩
end
end
section
section
variable {C:Cx} {d:Nat} {σ:Sto} {Q:V->Sto->Prop} {i k:Addr} {kv:List (Str×Addr)} {es:Str->List (Int×List z0c)} {wi:List z0c} {ps:List (Str×Int)} {w:Str}
structure Gd(es:Str->List (Int×List z0c))(wi:List z0c):Prop where
 ok:WishOk wi
 nd:∀w,((es w).map (·.1)).Nodup
 ag:∀pk,PkB pk->PkIn es pk->∃N R,N<=60/\Bf (nx es pk) N [] (wi.map (·.1)) R/\(∀w∈R,Ware w)/\R.length<=N
 mb:∀w,∀p∈es w,Ware w/\1<=p.1/\p.1<=999
 l5:∀pk:List (Str×Int),(pk.map (·.1)).Nodup->PkIn es pk->pk.length<=5
theorem PkIn.snoc(pi:PkIn es ps){mk:Int}{ns:List z0c}(hm:(mk,ns)∈es w):PkIn es (ps++[(w,mk)]):=λp hp=>by
 rcases List.mem_append.mp hp with h|h
 ·exact pi p h
 ·rw[List.mem_singleton.mp h];exact⟨ns,hm⟩
theorem PkB.snoc(g:Gd es wi){mk:Int}{ns:List z0c}(pb:PkB ps)(pi:PkIn es ps)(hw:w∉ps.map (·.1))(hm:(mk,ns)∈es w):PkB (ps++[(w,mk)]):=by
 have hn:((ps++[(w,mk)]).map (·.1)).Nodup:=by rw[List.map_append];exact z1q pb.nd hw
 refine⟨hn,Nat.le_trans (g.l5 _ hn (pi.snoc hm)) (by decide),λp hp=> ?_⟩
 rcases List.mem_append.mp hp with h|h
 ·exact pb.ok p h
 ·rw[List.mem_singleton.mp h];exact g.mb w _ hm
theorem y2q(g:Gd es wi)(pb:PkB ps)(pi:PkIn es ps){N:Nat}{R:List Str}(hB:Bf (nx es ps) N [] (wi.map (·.1)) R):∀x∈R,∃n∈wi++ps.flatMap (z1j es),n.1=x:=by
 refine hB.all (P:=λx=>∃n∈wi++ps.flatMap (z1j es),n.1=x) (λx y hy=> ?_) (λx hx=>by cases hx) λx hx=> ?_
 ·rcases y3t pb pi x (g.nd x) with⟨_,_,e⟩|⟨mk,ns,h1,_,h2,e⟩
  ·rw[e] at hy;cases hy
  ·rw[e] at hy
   apply z0p hy;intro n hn
   exact⟨n,List.mem_append_right _ (List.mem_flatMap.mpr ⟨_,h1,by rw[z23 (g.nd x) h2];exact hn⟩),rfl⟩
 ·apply z0p hx;intro n hn
  exact⟨n,List.mem_append_left _ hn,rfl⟩
noncomputable def wtT(ps:List (Str×Int)):V->Bool
 | .str x=> !(vAt (pkV ps) x).isSome
 |_=>false
theorem y5E(R:List Str):(R.map V.str).filter (wtT ps)=(R.filter λx=> !(vAt (pkV ps) x).isSome).map V.str:=by rw[List.filter_map];rfl
inductive AgsOk(es:Str->List (Int×List z0c))(n:Nat)(τ:Sto):List (Str×Int)->List V->Prop
 |nil:AgsOk es n τ [] []
 |cons {w:Str} {m:Int} {a:Addr} {as:List (Int×V)} {r:List (Str×Int)} {ys:List V}:At τ a (.list (as.map aV))->as.length<=8->(∀p∈as,(∃ns,(p.1,ns)∈es w)/\ROk n p.2)->AgsOk es n τ r ys->AgsOk es n τ ((w,m)::r) (.ref a::ys)
theorem AgsOk.up{n m:Nat}{τ τ':Sto}{r:List (Str×Int)}{ys:List V}(h:AgsOk es n τ r ys)(hn:n<=m)(hk:∀p∈τ,p∈τ'):AgsOk es m τ' r ys:=by
 induction h with
 |nil=>exact .nil
 |cons a b c _ ih=>obtain⟨o,a⟩:=a;exact .cons ⟨o,hk _ a⟩ b (λp hp=>⟨(c p hp).1,(c p hp).2.up hn⟩) ih
theorem AgsOk.len{n:Nat}{τ:Sto}{r:List (Str×Int)}{ys:List V}(h:AgsOk es n τ r ys):ys.length=r.length:=by
 induction h with
 |nil=>rfl
 |cons _ _ _ _ ih=>rw[List.length_cons,List.length_cons,ih]
theorem aV_sub:∀{as:List (Int×V)} {ys:List V},ys.Sublist (as.map aV)->∃bs:List (Int×V),ys=bs.map aV/\bs.Sublist as
 |[],_,h=>by cases h;exact⟨[],rfl,.slnil⟩
 |a::as,_,h=>by
  cases h with
  |cons _ h=>obtain⟨bs,rfl,hb⟩:=aV_sub h;exact⟨bs,rfl,hb.cons _⟩
  |cons_cons _ h=>obtain⟨bs,rfl,hb⟩:=aV_sub h;exact⟨a::bs,rfl,hb.cons_cons _⟩
noncomputable def z6h(r1:Stmt)(r2:Expr)(r3:Expr):TC:=⟨[.cut [.loc 2,.len,.psh (.int 0),.tcmpc .Gt,.ife [.loc 0,.loc 2,.call (.ref 225) 2,.asg 3,.loc 3,.psh .none,.tcmpc .IsNot,.ife [.psh .none,.loc 3,.tup 2,.ret] []] []],.loc 2,.call (.type "dict") 1,.asg 4,.rawS r1,.loc 5,.len,.psh (.int 0),.tcmpc .Eq,.ife [.loc 2,.call (.type "list") 1,.lst 0,.tup 2,.psh .none,.tup 2,.ret] [],.loc 5,.subT 0,.asg 6,.loc 0,.loc 1,.loc 2,.loc 6,.call (.ref 218) 4,.asg 7,.loc 0,.loc 6,.raw r2,.call (.ref 194) 3,.asg 8,.asgL 9,.loc 0,.mI 310 "makes",.loc 6,.meth (.ref 293) 1,.forV 10 [.loc 0,.loc 1,.loc 2,.loc 6,.loc 10,.loc 7,.call (.ref 232) 6,.asg 3,.loc 3,.psh .none,.tcmpc .Is,.ife [.loc 0,.loc 1,.loc 2,.loc 6,.loc 10,.tup 2,.lst 1,.binc .Add,.call (.ref 237) 3,.asg2 11 3,.loc 11,.psh .none,.tcmpc .IsNot,.ife [.loc 11,.subT 0,.loc 9,.lst 1,.loc 11,.subT 1,.binc .Add,.tup 2,.psh .none,.tup 2,.ret] []] [],.loc 9,.mty "list",.loc 10,.loc 3,.tup 2,.meth (.bi "list.append") 1,.pop],.psh .none,.loc 6,.loc 7,.raw r3,.tup 3,.tup 2,.ret],[.inl r1,.inr r2,.inr r3],[([2],none),([6],some [3]),([9],some [1,2])]⟩
--z6h 3
structure StP(es:Str->List (Int×List z0c))(n:Nat)(w:Str)(ag:Addr)(τ:Sto)(j:Nat)(as:List (Int×V))(τ':Sto):Prop where
 at_:At τ' ag (.list (as.map aV))
 len:as.length<=j
 kp:∀p∈τ,p∈τ'
 no:∀p∈as,(∃ns,(p.1,ns)∈es w)/\ROk n p.2
inductive StI(a0 a1 a2 a4 a5 a6 a7 a8:V)(ag:Addr)(P:Nat->List (Int×V)->Sto->Prop)(j:Nat):Loc->Sto->Prop
 |mk {as:List (Int×V)} {τ':Sto} {v3 v10 v11:Option V}:P j as τ'->StI a0 a1 a2 a4 a5 a6 a7 a8 ag P j [some a0,some a1,some a2,v3,some a4,some a5,some a6,some a7,some a8,some (.ref ag),v10,v11] τ'
theorem gt0(n:Nat):decide (((n+1:Nat):Int)>0)=true:=decide_eq_true (by lia)
theorem y34(pb:PkB ps){R:List Str}:∀y∈R.filter (λx=> !(vAt (pkV ps) x).isSome),y∈R/\y∉ps.map (·.1):=λy hy=>by
 have hpn:((pkV ps).map (·.1)).Nodup:=by rw[z0Y];exact pb.nd
 obtain⟨h1,h2⟩:=List.mem_filter.mp hy
 refine⟨h1,λhm=> ?_⟩
 obtain⟨mk,hp,_⟩:=y3L pb.nd hm
 rw[z0X hpn (List.mem_map.mpr ⟨_,hp,rfl⟩)] at h2;cases h2
theorem prs_of:∀{ys:List V},(∀y∈ys,∃p:Int×Int,y= .tup [.int p.1,.int p.2])->∃sp:List (Int×Int),ys=sp.map λp=> .tup [.int p.1,.int p.2]
 |[],_=>⟨[],rfl⟩
 |y::ys,hy=>by
  obtain⟨p,rfl⟩:=hy y (.head _)
  obtain⟨sp,rfl⟩:=prs_of λz hz=>hy z (.tail _ hz)
  exact⟨p::sp,rfl⟩
theorem StP.add{n:Nat}{ag:Addr}{τ τ2 τ3:Sto}{j:Nat}{as:List (Int×V)}{mk:Int}{ns:List z0c}{Z:V}(h:StP es n w ag τ j as τ2)(hm:(mk,ns)∈es w)(hZ:ROk n Z)(hf:Fresh τ ag)(U:UpdS τ2 τ3 ag (.list (as.map aV++[.tup [.int mk,Z]]))):StP es n w ag τ (j+1) (as++[(mk,Z)]) τ3:=
 ⟨by rw[List.map_append];exact U.here,by rw[List.length_append];exact Nat.succ_le_succ h.len,λp hp=>U.keep p (h.kp p hp) λe=>hf _ hp e,λp hp=>by
  rcases List.mem_append.mp hp with h'|h'
  ·exact h.no p h'
  ·rw[List.mem_singleton.mp h'];exact⟨⟨ns,hm⟩,hZ⟩⟩
theorem StP.up{n:Nat}{ag:Addr}{τ τ2 τ3:Sto}{j:Nat}{as:List (Int×V)}(h:StP es n w ag τ j as τ2)(hk:∀p∈τ2,p∈τ3):StP es n w ag τ j as τ3:=
 ⟨by obtain⟨o,a⟩:=h.at_;exact⟨o,hk _ a⟩,h.len,λp hp=>hk p (h.kp p hp),h.no⟩
theorem y4S(g:Gd es wi){n:Nat}{ag:Addr}{τ τ':Sto}{j:Nat}{as:List (Int×V)}{ss:List Src}{al:List z0c}(pb:PkB ps)(hw:Ware w)(hj:j<=8)(h:StP es n w ag τ j as τ')(W:SsOk es wi ps w al 80 ss)(hne:∃n∈al,n.1=w){bs:List (Int×V)}(hbs:bs.Sublist as):ROk (n+1) (.tup [.str w,.lst (ss.map srcV),.lst (bs.map aV)]):=by
 obtain⟨nd0,hnd0,e0⟩:=hne
 obtain⟨s0,hs0,_⟩:=W.all nd0 hnd0 e0
 exact .mk hw (λe=>by rw[List.map_eq_nil_iff] at e;rw[e] at hs0;cases hs0) (by rw[List.length_map];exact Nat.le_trans W.len (by decide)) (λs hs=>by
  apply z0p hs;intro s hs'
  obtain⟨lo,hi,ho⟩:=W.ok s hs'
  exact ho.sr pb) (Nat.le_trans hbs.length_le (Nat.le_trans h.len hj)) (λb hb=>by
  obtain⟨⟨ns,h1⟩,_⟩:=h.no b (hbs.subset hb)
  obtain⟨_,h3,h4⟩:=g.mb w _ h1
  exact⟨h3,h4⟩) λb hb=>(h.no b (hbs.subset hb)).2
theorem y0f(H:G1 C)(g:Gd es wi)(n:Nat):∀{σ:Sto} {Q:V->Sto->Prop} {ps:List (Str×Int)} {x:V} {Px:Sto->Prop},Shp σ i k kv es->Has σ x (.list (wi.map z0h)) Px->PkB ps->PkIn es ps->6<=ps.length+n->n<=10->
  (∀r ys σ',(∀p∈σ,p∈σ')->PkB (ps++r)->PkIn es (ps++r)->AgsOk es n σ' r ys->Q (.tup [.tup [.lst ((ps++r).map prV),.lst ys],.none]) σ')->(∀Z σ',(∀p∈σ,p∈σ')->ROk n Z->Q (.tup [.none,Z]) σ')->CW C (d+n+7) (.ref 237) [.ref i,x,.lst (ps.map prV)] σ Q:=by
 induction n with
 |zero=>
  intro σ Q ps x Px S hx pb pi hn hn10 q1 q2
  exact absurd (g.l5 ps pb.nd pi) (Nat.not_le_of_lt hn)
 |succ n ih=>
  intro σ Q ps x Px S hx pb pi hn hn10 q1 q2
  have h4:=g.l5 ps pb.nd pi
  have h8:=g.ok.len
  have hp5:(ps.map prV).length<=5:=by rw[List.length_map];exact h4
  refine z0G (G1.kin (by assumption)) ["shop","wish","pairs","reason","picked","waiting","ware","sources","good","against","make","found"] [("len",.bi "len"),("clash",.ref 225),("dict",.type "dict"),("agenda_of",.ref 161),("list",.type "list"),("sources_for",.ref 218),("left_by",.ref 194),("reversed",.type "reversed"),("outside",.ref 232),("settled",.ref 237)] (by kernel_rfl) (vs3 λ_ _ _=>by kernel_rfl) rfl (z0a (z0Q (by assumption)) (z0a (y3k (by assumption)) (z0a (z2S (by assumption)) (z0a (z7S (by assumption)) (z0a (z0T (by assumption)) (z0a (z5A (by assumption)) (z0a (z4g (by assumption)) (z0a (z5n (by assumption)) (z0a (z9R (by assumption)) (z0a (z6c (by assumption)) GL_nil)))))))))) ?_
  intro env hsc
  obtain⟨dx,hin⟩:=S.inst
  refine z0e (z0l H) (z0m H) (z6h _ _ _) (by exact rfl) (by kernel_rfl) ?_
  intro F m0
  refine z3m (α:=Option V) (λ_=>True) (λv=>[some (.ref i),some x,some (.lst (ps.map prV)),v,none,none,none,none,none,none,none,none]) σ (λK hK hR=> ?_) λv _=> ?_
  ·clear ih q1
   rcases List.eq_nil_or_concat ps with rfl|⟨ps0,⟨w,mk⟩,e⟩
   ·refine Leaf.mk (z0L (n:=0) (.lst _) rfl (by decide) ?_)
    exact hK _ trivial
   ·rw[List.concat_eq_append] at e
    subst e
    obtain⟨ns,hm⟩:=pi (w,mk) (List.mem_append_right _ (.head _))
    refine Leaf.mk (z0L (n:=ps0.length+1) (.lst _) (by rw[List.length_map,List.length_append];rfl) (Nat.le_trans hp5 (by decide)) ?_)
    refine z0A (gt0 _) ?_
    refine Leaf.mk (fnc (y28 H S pb hm (λxs hr=> ?_) ?_))
    ·exact hR _ _ _ (λe=>nomatch e) (q2 _ _ (λp h=>h) (hr n))
    ·exact hK _ trivial
  obtain⟨N,R,hN,hB,hRw,hRl⟩:=g.ag ps pb pi
  have hRs:=y2q g pb pi hB
  have hRz:(R.map V.str).length<=sizeLine:=z0z (Nat.le_trans hRl hN) (by decide)
  have hpn:((pkV ps).map (·.1)).Nodup:=by rw[z0Y];exact pb.nd
  refine Leaf.mk (z2E (.lst _) pb λpa0 opa hfp=> ?_)
  refine Leaf.mk ?_
  show AS C env ["shop","wish","pairs","reason","picked","waiting","ware","sources","good","against","make","found"] _ true _ (exec _ env) [some (.ref i),some x,some (.lst (ps.map prV)),v,some (.ref pa0),none,none,none,none,none,none,none] _ _
  refine z1e "ware" ["picked"] [] (z11 (by rw[hsc];kernel_rfl)) (by rw[hsc];kernel_rfl) GL_nil (.cons LkC.lk .nil) (z1b ?_)
  repeat' with_reducible first|refine z0n ?_|refine z1s ?_|refine z0H ?_|refine z0q ?_|refine z0v ?_|refine⟨z4s (by assumption),?_⟩|fail
  refine fnc (z6U H (S.c1 _) (hx.mono λp h=> .tail _ h) g.ok At.hd pb pi (Nat.le_trans hN (by decide)) hB ?_)
  refine⟨_,_,.lst _,hRz,λenv' he=>z1z (f:=id) (t:=wtT ps) (z0u he (by decide+kernel)) trivial _ _ _ (λX hX K hK=> ?_) (λX hX _ K hK=> ?_) ?_⟩
  ·obtain⟨y,hy,rfl⟩:=List.mem_map.mp hX
   clear ih q1 q2
   repeat' with_reducible first|refine z0n ?_|refine z1S ?_|fail
   refine y0l H.ns At.hd hpn ?_
   exact z0i hK
  ·with_reducible refine z0n ?_
   exact hK
  rw[List.nil_append,List.map_id,y5E]
  with_reducible refine z2t ?_
  have hfl:(R.filter λx=> !(vAt (pkV ps) x).isSome).length<=60:=Nat.le_trans (List.length_filter_le _ _) (Nat.le_trans hRl hN)
  have hfm:=y34 pb (R:=R)
  generalize R.filter (λx=> !(vAt (pkV ps) x).isSome)=wt at hfl hfm
  cases wt with
  |nil=>
   refine Leaf.mk (z0L (n:=0) (.lst _) rfl (by decide) ?_)
   refine Leaf.mk (z1g (.lst _) (Nat.le_trans hp5 (by decide)) (.inl ?_))
   have:=q1 [] [] ((pa0,opa,dS (pkV ps))::σ) (λp h=> .tail _ h)
   rw[List.append_nil] at this
   exact this pb pi .nil
  |cons w wt=>
  obtain⟨hwR,hfr⟩:=hfm w (.head _)
  have hwW:Ware w:=hRw w hwR
  have hdl:(V.str w::wt.map V.str).length<=sizeLine:=z0z (l:=w::wt) hfl (by decide)
  refine Leaf.mk (z0L (n:=(wt.map V.str).length+1) (.lst (V.str w::wt.map V.str)) rfl hdl ?_)
  refine Leaf.mk (z2l (k:=0) (X:= .str w) (.lst (V.str w::wt.map V.str)) (by decide) (by decide) rfl ?_)
  refine Leaf.mk (fnc (z5D H (S.c1 _) (hx.mono λp h=> .tail _ h) h8 pb pi λss W=> ?_))
  refine Leaf.mk ?_
  show AT C env ["shop","wish","pairs","reason","picked","waiting","ware","sources","good","against","make","found"] _ true _ (eval _ env) [some (.ref i),some x,some (.lst (ps.map prV)),v,some (.ref pa0),some (.lst (V.str w::wt.map V.str)),some (.str w),some (.lst (ss.map srcV)),none,none,none,none] _ _
  refine z1u "source" ["shop","wish","picked","ware"] [("stretch_of",.ref 189)] (by rw[hsc];kernel_rfl) (z0a (z2g H) GL_nil) (.cons LkC.lk (.cons LkC.lk (.cons LkC.lk (.cons LkC.lk .nil)))) (z1b ?_)
  with_reducible refine z0n ?_
  refine⟨_,_,.lst _,z0z W.len (by decide),λenv' he=>z8w (Gd:=λY=>∃p:Int×Int,Y= .tup [.int p.1,.int p.2]) (z0u he (by decide+kernel)) trivial _ _ _ (λX hX K hK=> ?_) λys hyl hy=> ?_⟩
  ·obtain⟨s,hs,rfl⟩:=List.mem_map.mp hX
   obtain⟨lo,hi,hok⟩:=W.ok s hs
   clear ih q1 q2
   repeat' with_reducible first|refine z0n ?_|refine z1s ?_|refine z0H ?_|refine z0q ?_|refine z0v ?_|refine⟨z2j (by assumption),?_⟩|fail
   refine fnc (z35 H (S.c1 _) (hx.mono λp h=> .tail _ h) h8 At.hd pb pi g.nd hok ?_)
   exact hK _ ⟨(lo,hi),rfl⟩
  obtain⟨sp,rfl⟩:=prs_of hy
  rw[List.nil_append]
  have hspl:sp.length<=200:=by
   rw[List.length_map,List.length_map] at hyl
   rw[hyl];exact Nat.le_trans W.len (by decide)
  clear hy hyl
  refine Leaf.mk (fnc (z5S H (S.c1 _) hwW hspl ?_))
  generalize lfF es w sp=gs
  intro ag oag hfa
  have hml:=(S.eok w).2.1
  have hsz:((z1a ((es w).map (·.1))).reverse).length=(es w).length:=by rw[List.length_reverse,(z0C _).length_eq,List.length_map]
  have hfs:Fresh σ ag:=λp hp=>hfa p (.tail _ hp)
  refine Leaf.mk (z0I ((hin.cons _).cons _) (by decide+kernel) ?_)
  refine Leaf.mk (fnc (z82 H ((S.c1 _).c1 _) hwW (.inl ?_)))
  refine Leaf.mk (.mk _ _ (StI (.ref i) x (.lst (ps.map prV)) (.ref pa0) (.lst (V.str w::wt.map V.str)) (.str w) (.lst (ss.map srcV)) (.lst (gs.map V.int)) ag (StP es n w ag σ)) (.lst _) (.mk (as:=[]) ⟨At.hd,Nat.le_refl _,λp h=> .tail _ (.tail _ h),λp h=>by cases h⟩) (λj X hX m τ' hI QB hQB hQR=> ?_) λm τ' hI=> ?_)
  ·clear q2
   rw[<-List.map_reverse,List.getElem?_map] at hX
   obtain⟨mk,hmk,rfl⟩:=Option.map_eq_some_iff.mp hX
   have hj:j<(es w).length:=hsz▸(List.getElem?_eq_some_iff.mp hmk).1
   obtain⟨⟨mk,ns⟩,hm,rfl⟩:=List.mem_map.mp ((z0C _).mem_iff.mp (List.mem_reverse.mp (List.mem_of_getElem? hmk)))
   refine hI.casesOn @λas τ' v3 v10 v11 T=> ?_
   have hal:(as.map aV).length<=sizeLine:=z0z (n:=8) (Nat.le_trans T.len (Nat.le_trans (Nat.le_of_lt hj) hml)) (by decide)
   have S':Shp τ' i k kv es:=S.frame λa _ x ⟨o,h⟩=>⟨o,T.kp _ h⟩
   have pb':=PkB.snoc g pb pi hfr hm
   have hl6:=g.l5 _ pb'.nd (pi.snoc hm)
   rw[List.length_append] at hl6
   obtain⟨n',rfl⟩:∃n',n=n'+1:=⟨n-1,by have:ps.length+1<=5:=hl6;lia⟩
   refine Leaf.mk (fnc (z92 H S' (hx.mono T.kp) h8 pb pi g.nd hwW W.ok (λxs hr=> ?_) ?_))
   ·refine Leaf.mk ⟨tyL T.at_,?_⟩
    refine Leaf.mk (z7Z T.at_ hal λτ3 U=> ?_)
    exact hQB _ _ trivial (.mk (T.add hm (hr n') hfs U))
   ·refine Leaf.mk (z08 (.lst _) (.lst _) (z0t (Nat.le_trans (Nat.succ_le_succ hp5) (by decide))) (z0Z ?_))
    rw[show ps.map prV++[V.tup [.str w,.int mk]]=(ps++[(w,mk)]).map prV by rw[List.map_append];rfl]
    refine Leaf.mk (fnc (ih S' (hx.mono T.kp) pb' (pi.snoc hm) (by rw[List.length_append];show 6<=ps.length+1+(n'+1);lia) (Nat.le_of_succ_le hn10) (λr ys τ2 hk2 b1 b2 hag=> ?_) λZ τ2 hk2 hc=> ?_))
    ·clear hQB
     have hrl:ys.length<=5:=by
      have h:=g.l5 _ b1.nd b2
      rw[List.length_append] at h
      rw[hag.len];exact Nat.le_trans (Nat.le_add_left _ _) h
     refine Leaf.mk (z08 (.lst _) (.lst _) (z0t (Nat.le_trans (Nat.add_le_add_left hrl 1) (by decide))) (z0Z ?_))
     rw[List.append_assoc] at b1 b2⊢
     have T2:=T.up hk2
     exact hQR _ _ _ (q1 ((w,mk)::r) _ _ T2.kp b1 b2 (.cons T2.at_ (Nat.le_trans T2.len (Nat.le_trans (Nat.le_of_lt hj) hml)) (λp hp=>⟨(T2.no p hp).1,(T2.no p hp).2.up (Nat.le_succ _)⟩) (hag.up (Nat.le_succ _) λp h=>h)))
    ·have T2:=T.up hk2
     refine Leaf.mk ⟨tyL T2.at_,?_⟩
     refine Leaf.mk (z7Z T2.at_ hal λτ3 U=> ?_)
     exact hQB _ _ trivial (.mk (T2.add hm hc hfs U))
  ·clear ih q1
   refine hI.casesOn @λas τ' v3 v10 v11 T=> ?_
   rw[List.length_reverse,List.length_map,<-List.length_reverse,hsz] at T
   have hal8:as.length<=8:=Nat.le_trans T.len hml
   obtain⟨oa,hat⟩:=T.at_
   refine Leaf.mk ?_
   show AT C env ["shop","wish","pairs","reason","picked","waiting","ware","sources","good","against","make","found"] _ true _ (eval _ env) [some (.ref i),some x,some (.lst (ps.map prV)),v3,some (.ref pa0),some (.lst (V.str w::wt.map V.str)),some (.str w),some (.lst (ss.map srcV)),some (.lst (gs.map V.int)),some (.ref ag),v10,v11] _ _
   refine z1u "pair" ["good"] [] (by rw[hsc];kernel_rfl) GL_nil (.cons LkC.lk .nil) (z1b ?_)
   with_reducible refine z0n ?_
   refine⟨_,_,.refL hat,z0z (n:=8) hal8 (by decide),λenv' he=>z9J (z0u he (by decide+kernel)) hat _ _ _ (λX hX K hK=> ?_) (λX hX K hK=> ?_) λys hys=> ?_⟩
   ·obtain⟨⟨mk,Z⟩,_,rfl⟩:=List.mem_map.mp hX
    clear q2
    repeat' with_reducible first|refine z0n ?_|refine z0O ?_|refine z1i ?_|refine z1S ?_|fail
    refine z3f (by with_unfolding_all decide) (by with_unfolding_all decide) (by with_unfolding_all exact rfl) ?_
    repeat' first|(with_reducible refine z0n ?_)|fail
    refine y4e (.lst _) ?_
    exact z0i (hK _)
   ·with_reducible refine z0n ?_
    exact hK
   rw[List.nil_append]
   obtain⟨bs,rfl,hbs⟩:=aV_sub hys
   exact q2 _ _ T.kp (y4S g pb hwW hml T W (hRs w hwR) hbs)
end
end
section
section
variable {C:Cx} {d:Nat} {σ:Sto} {Q:V->Sto->Prop} {i k:Addr} {kv:List (Str×Addr)} {es:Str->List (Int×List z0c)} {wi:List z0c} {ps:List (Str×Int)} {w:Str}
noncomputable def t_settle:TC:=⟨[.loc 1,.call (.ref 154) 1,.pop,.loc 0,.loc 1,.lst 0,.call (.ref 237) 3,.asg2 2 3,.loc 2,.psh .none,.tcmpc .Is,.ife [.psh (.str "none"),.loc 3,.tup 2,.ret] [],.psh (.str "pick"),.loc 2,.subT 0,.loc 2,.subT 1,.tup 3,.ret],[],[]⟩
--t_settle 0
theorem y0q(H:G1 C)(g:Gd es wi)(S:Shp σ i k kv es){x:V}{Px:Sto->Prop}(hx:Has σ x (.list (wi.map z0h)) Px)(q1:∀r ys σ',(∀p∈σ,p∈σ')->PkB r->PkIn es r->AgsOk es 6 σ' r ys->Q (.tup [.str "pick",.lst (r.map prV),.lst ys]) σ')
  (q2:∀Z σ',(∀p∈σ,p∈σ')->ROk 6 Z->Q (.tup [.str "none",Z]) σ'):CW C (d+14) (.ref 244) [.ref i,x] σ Q:=by
 refine z0G (G1.kin (by assumption)) ["shop","wish","found","reason"] [("need_wish",.ref 154),("settled",.ref 237)] (by kernel_rfl) (vs2 λ_ _=>by kernel_rfl) rfl (z0a (z4q (by assumption)) (z0a (z6c (by assumption)) GL_nil)) ?_
 intro env hsc
 clear hsc
 refine z0e (z0l H) (z0m H) t_settle rfl (by kernel_rfl) ?_
 intro F m0
 refine Leaf.mk (fnc (z4x H hx g.ok ?_))
 refine Leaf.mk (fnc (y0f (d:=d) H g 6 (ps:=[]) S hx ⟨List.nodup_nil,by decide,λ_ h=>by cases h⟩ (λ_ h=>by cases h) (by decide) (by decide) (λr ys σ' kp b1 b2 hag=> ?_) λZ σ' kp hc=> ?_))
 ·exact q1 r ys σ' kp b1 b2 hag
 ·exact q2 Z σ' kp hc
end
end
section
section
variable {C:Cx} {d:Nat} {σ:Sto} {Q:V->Sto->Prop} {i k ro:Addr} {kv rv:List (Str×Addr)} {es:Str->List (Int×List z0c)} {wi:List z0c} {ps:List (Str×Int)} {w:Str}
theorem z0M(H:G1 C){a1 a2 a3 a4 a5:V}(w:∀env,let F:Fx:=⟨C,env,["_law_rows_here","_law_wish_here","_law_granted_here","_law_ware","_law_source_here","_law_need","_law_needs_here"],[("isinstance",.bi "isinstance"),("tuple",.type "tuple"),("len",.bi "len"),("str",.type "str"),("_law_place",.ref 364),("_law_granted",.ref 371)],true,d,fnL,mtL,atL⟩;W F 3000 (z99 Q) t__law_source.k [] [some a1,some a2,some a3,some a4,some a5,none,none] [] σ):CW C (d+1) (.ref 378) [a1,a2,a3,a4,a5] σ Q:=by
 refine z0G (G1.kin (by assumption)) ["_law_rows_here","_law_wish_here","_law_granted_here","_law_ware","_law_source_here","_law_need","_law_needs_here"] [("isinstance",.bi "isinstance"),("tuple",.type "tuple"),("len",.bi "len"),("str",.type "str"),("_law_place",.ref 364),("_law_granted",.ref 371)] (by kernel_rfl) (vs5 λ_ _ _ _ _=>by kernel_rfl) rfl (z0a (z0k (by assumption)) (z0a (z1h (by assumption)) (z0a (z0Q (by assumption)) (z0a (z5o (by assumption)) (z0a (z6K (by assumption)) (z0a (z48 (by assumption)) GL_nil)))))) ?_
 intro env hsc
 exact z0e (z0l H) (z0m H) t__law_source rfl (by kernel_rfl) (w env)
theorem z64(F:Fx){n:Nat}{a1 a2 a3 a5:V}{v:Option V}{o:Option z0c}(q:Q (optS (z8u w o)) σ):W F (n+100) (z99 Q) k__law_source_L315 [] [some a1,some a2,some a3,some (.str w),some a5,some (optN o),v] [] σ:=by
 cases o with
 |none=>exact q
 |some nd=>
  obtain⟨nm,lo,hi⟩:=nd
  have q:Q (optS (if nm==w then some (lo,hi) else none)) σ:=q
  cases en:nm==w with
  |true=>
   rw[en] at q
   have en':(!(nm==w))=false:=by rw[en];rfl
   refine z0D en' ?_
   exact q
  |false=>
   rw[en] at q
   have en':(!(nm==w))=true:=by rw[en];rfl
   refine z0A en' ?_
   exact q
set_option tactic.hygienic true in
theorem z45(H:G1 C)(S:Rw σ ro rv es){x:V}{Px:Sto->Prop}(hx:Has σ x (.list (wi.map z0h)) Px)(h8:wi.length<=8){ga:Addr}(hg:At σ ga (dS (pkV ps)))(pb:PkB ps)(pi:PkIn es ps){v t:V}{n:Nat}(h:Dn σ n v t)(q:Q (optS (z1l es wi ps w t)) σ):
  CW C (d+2) (.ref 378) [.ref ro,x,.ref ga,.str w,v] σ Q:=by
 have en:∀w,((es w).map (·.1)).Nodup:=λw=>(S.eok w).nd
 unfold z1l at q
 have th:=h.sh
 clear h
 revert q
 refine th.casesOn (@λ_ _ _ h hk q=> ?_) (λq=> ?_) (@λn X Y xs ys hX hs h200 q=> ?_) (@λn t a b ha q=> ?_) (@λn t a b a' b' ha hb q=> ?_) (@λn t a b c a' b' c' ha hb hc q=> ?_) (@λt xs ys h200 h2 h3 h4 hl q=> ?_)
 ·rw[z7q hk] at q
  refine z0M H λenv=> ?_
  intro F
  refine z0N h hk ?_
  skip
  exact q
 ·refine z0M H λenv=> ?_
  intro F
  skip
  exact q
 ·rw[z54 hs] at q
  refine z0M H λenv=> ?_
  intro F
  have e1:=z2F h200 rfl
  refine z0A e1 ?_
  refine z0o (λ_=>q) λ_=> ?_
  refine z0N hX hs ?_
  exact q
 ·rw[z8t] at q
  refine z0M H λenv=> ?_
  intro F
  refine z05 [some (.ref ro),some x,some (.ref ga),some (.str w),some (.tup [.str t,a]),some (optN (s1 wi t [b])),none] σ (λK hK _=> ?_) ?_
  ·clear q
   cases e1:t==("wish":Str) with
   |false=>
    rw[y5l e1] at hK
    repeat' refine z0D (by with_reducible assumption) ?_
    exact hK
   |true=>
    repeat' refine z0A (by with_reducible assumption) ?_
    refine z5b hx (z0z h8 (by decide)) ?_
    rw[List.length_map]
    refine Leaf.mk (fnc (z3g H ha ?_))
    cases hn:z5C b wi.length with
    |false=>
     rw[z8M hn] at hK
     skip
     exact hK
    |true=>
     obtain⟨k,eb,hk⟩:=z3S hn
     repeat' refine Leaf.mk ?_
     refine z6F (eb▸ha).intE hx (Nat.lt_of_lt_of_le hk (Nat.le_trans h8 (by decide))) (z1y (List.getElem?_eq_getElem hk)) ?_
     rw[eb,y1G e1 hk,List.getElem?_eq_getElem hk] at hK
     exact hK
  refine z05 [some (.ref ro),some x,some (.ref ga),some (.str w),some (.tup [.str t,a]),some (optN (s1 wi t [b])),none] σ (λK hK _=> ?_) ?_
  ·repeat' (refine z0o (λ_=> ?_) (λ_=> ?_)<;>try (exfalso;rename_i hb;revert hb;simp[V.isNone];done))
   all_goals exact hK
  refine z05 [some (.ref ro),some x,some (.ref ga),some (.str w),some (.tup [.str t,a]),some (optN (s1 wi t [b])),none] σ (λK hK _=> ?_) ?_
  ·repeat' (refine z0o (λ_=> ?_) (λ_=> ?_)<;>try (exfalso;rename_i hb;revert hb;simp[V.isNone];done))
   all_goals exact hK
  exact z64 F q
 ·rw[y1b] at q
  refine z0M H λenv=> ?_
  intro F
  refine z05 [some (.ref ro),some x,some (.ref ga),some (.str w),some (.tup [.str t,a,b]),some (optN (none)),none] σ (λK hK _=> ?_) ?_
  ·repeat' (refine z0o (λ_=> ?_) (λ_=> ?_)<;>try (exfalso;rename_i hb;revert hb;simp[V.isNone];done))
   all_goals exact hK
  refine z05 [some (.ref ro),some x,some (.ref ga),some (.str w),some (.tup [.str t,a,b]),some (optN (none)),none] σ (λK hK _=> ?_) ?_
  ·repeat' (refine z0o (λ_=> ?_) (λ_=> ?_)<;>try (exfalso;rename_i hb;revert hb;simp[V.isNone];done))
   all_goals exact hK
  refine z05 [some (.ref ro),some x,some (.ref ga),some (.str w),some (.tup [.str t,a,b]),some (optN (s2 ps t [a',b'] none)),none] σ (λK hK _=> ?_) ?_
  ·clear q
   cases e1:t==("pick":Str) with
   |false=>
    rw[y49 e1] at hK
    repeat' refine z0D (by with_reducible assumption) ?_
    exact hK
   |true=>
    repeat' first|refine z0A (by with_reducible assumption) ?_|refine Leaf.mk ?_
    refine fnc (z2v H hg pb ha hb ?_)
    cases hn:grV ps a' b' with
    |false=>
     rw[y3H hn] at hK
     skip
     exact hK
    |true=>
     obtain⟨y,k,ea,eb,hp⟩:=z22 hn
     skip
     rw[ea,eb,y3m e1 hp,show a= .str y from(ea▸ha:Dn σ n a (.str y)).strE,show b= .int k from(eb▸hb:Dn σ n b (.int k)).intE] at hK
     rw[show a= .str y from(ea▸ha:Dn σ n a (.str y)).strE,show b= .int k from(eb▸hb:Dn σ n b (.int k)).intE]
     exact hK
  exact z64 F q
 ·rw[y1y] at q
  refine z0M H λenv=> ?_
  intro F
  refine z05 [some (.ref ro),some x,some (.ref ga),some (.str w),some (.tup [.str t,a,b,c]),some (optN (none)),none] σ (λK hK _=> ?_) ?_
  ·repeat' (refine z0o (λ_=> ?_) (λ_=> ?_)<;>try (exfalso;rename_i hb;revert hb;simp[V.isNone];done))
   all_goals exact hK
  refine z3m (α:=Option V) (λ_=>True) (λv=>[some (.ref ro),some x,some (.ref ga),some (.str w),some (.tup [.str t,a,b,c]),some (optN (s3 es ps t [a',b',c'] none)),v]) σ (λK hK _=> ?_) λv _=> ?_
  ·clear q
   cases e1:t==("need":Str) with
   |false=>
    rw[y5i e1] at hK
    repeat' refine z0D (by with_reducible assumption) ?_
    exact hK _ trivial
   |true=>
    repeat' first|refine z0A (by with_reducible assumption) ?_|refine Leaf.mk ?_
    refine fnc (z2v H hg pb ha hb ?_)
    cases hn:grV ps a' b' with
    |false=>
     rw[y3v hn] at hK
     skip
     exact hK _ trivial
    |true=>
     obtain⟨y,k,ea,eb,hp⟩:=z22 hn
     have ea':=(ea▸ha).strE
     have eb':=(eb▸hb).intE
     subst ea eb ea' eb'
     have hpm:=z4n hp
     obtain⟨ns,hns⟩:=pi _ hpm
     obtain⟨hy,hk1,hk2⟩:=pb.ok _ hpm
     have hnd:z1j es (y,k)=ns:=z23 (en y) hns
     have hnl:ns.length<=6:=((S.eok y).nok _ hns).len
     obtain⟨rb,_,hrv,hrb⟩:=S.at (S.inRv hns)
     have hrn:((kvV rv).map (·.1)).Nodup:=by rw[z0x];exact S.rwn
     have hen:((esV (es y)).map (·.1)).Nodup:=by rw[z0s];exact en y
     have hev:vAt (esV (es y)) k=some (.lst (ns.map z0h)):=z0X hen (List.mem_map.mpr ⟨_,hns,rfl⟩)
     clear ha hb hn pi hpm hx
     repeat' refine Leaf.mk ?_
     refine z2k S.rows hrn hrv ?_
     repeat' refine Leaf.mk ?_
     refine y4w hrb hen hev ?_
     repeat' refine Leaf.mk ?_
     refine z2h (.lst _) (z0z hnl (by decide)) ?_
     rw[show(ns.map z0h).length=(z1j es (y,k)).length by rw[List.length_map,hnd]]
     refine Leaf.mk (fnc (z3g H hc ?_))
     cases hm:z5C c' (z1j es (y,k)).length with
     |false=>
      rw[y2i hm] at hK
      skip
      exact hK _ trivial
     |true=>
      obtain⟨l,ec,hl2⟩:=z3S hm
      have hle:(z1j es (y,k))[l]? =some (z1j es (y,k))[l]:=List.getElem?_eq_getElem hl2
      repeat' refine Leaf.mk ?_
      refine z6F (ec▸hc).intE (.lst _) (by rw[hnd] at hl2;lia) (z1y (show ns[l]? =some (z1j es (y,k))[l] from(congrArg (λz=>z[l]?) hnd).symm.trans hle)) ?_
      rw[ec,y1X e1 hp hl2,hle] at hK
      exact hK (some (.lst (ns.map z0h))) trivial
  refine z05 [some (.ref ro),some x,some (.ref ga),some (.str w),some (.tup [.str t,a,b,c]),some (optN (s3 es ps t [a',b',c'] none)),v] σ (λK hK _=> ?_) ?_
  ·repeat' (refine z0o (λ_=> ?_) (λ_=> ?_)<;>try (exfalso;rename_i hb;revert hb;simp[V.isNone];done))
   all_goals exact hK
  exact z64 F q
 ·rw[show z3l es wi ps (.tup (.str t::ys))=none from(show s3 es ps t ys (s2 ps t ys (s1 wi t ys))=_ by rw[z6R (hl▸h4),z7d (hl▸h3),z6J (hl▸h2)])] at q
  have e2:decide (((V.str t::xs).length:Int)=2)=false:=decide_eq_false (by rw[List.length_cons];lia)
  have e3:decide (((V.str t::xs).length:Int)=3)=false:=decide_eq_false (by rw[List.length_cons];lia)
  have e4:decide (((V.str t::xs).length:Int)=4)=false:=decide_eq_false (by rw[List.length_cons];lia)
  clear h2 h3 h4 hl
  refine z0M H λenv=> ?_
  intro F
  refine z0A (z2F h200 rfl) ?_
  cases e0:decide (((V.str t::xs).length:Int)<2) with
  |true=>
   repeat' refine z0A (by with_reducible assumption) ?_
   exact q
  |false=>
  refine z0D e0 ?_
  refine z05 [some (.ref ro),some x,some (.ref ga),some (.str w),some (.tup (.str t::xs)),some (optN (none)),none] σ (λK hK _=> ?_) ?_
  ·repeat' first|(refine Leaf.mk ?_;with_reducible refine z6D (by(refine z0t ?_;lia)) ?_)|(first|refine z0D (by with_reducible assumption) ?_|(refine z0o (λ_=> ?_) (λ_=> ?_)<;>try (exfalso;rename_i hb;revert hb;simp[V.isNone];done)))
   all_goals exact hK
  refine z05 [some (.ref ro),some x,some (.ref ga),some (.str w),some (.tup (.str t::xs)),some (optN (none)),none] σ (λK hK _=> ?_) ?_
  ·repeat' first|(refine Leaf.mk ?_;with_reducible refine z6D (by(refine z0t ?_;lia)) ?_)|(first|refine z0D (by with_reducible assumption) ?_|(refine z0o (λ_=> ?_) (λ_=> ?_)<;>try (exfalso;rename_i hb;revert hb;simp[V.isNone];done)))
   all_goals exact hK
  refine z05 [some (.ref ro),some x,some (.ref ga),some (.str w),some (.tup (.str t::xs)),some (optN (none)),none] σ (λK hK _=> ?_) ?_
  ·repeat' first|(refine Leaf.mk ?_;with_reducible refine z6D (by(refine z0t ?_;lia)) ?_)|(first|refine z0D (by with_reducible assumption) ?_|(refine z0o (λ_=> ?_) (λ_=> ?_)<;>try (exfalso;rename_i hb;revert hb;simp[V.isNone];done)))
   all_goals exact hK
  exact z64 F q
end
end
section
section
variable {C:Cx} {d:Nat} {σ:Sto} {Q:V->Sto->Prop} {i k ro:Addr} {kv rv:List (Str×Addr)} {es:Str->List (Int×List z0c)} {wi:List z0c} {ps:List (Str×Int)} {w:Str}
theorem z7E{α:Type}(l:List α):(List.range l.length).filterMap (l[·]?)=l:=by
 induction l with
 |nil=>rfl
 |cons a l ih=>
  rw[List.length_cons,List.range_succ_eq_map,List.filterMap_cons]
  show a::_=_
  rw[List.filterMap_map]
  exact congrArg (a::·) ih
theorem z8p{α β:Type}{f g:α->Option β}(l:List α)(h:∀a∈l,f a=g a):l.filterMap f=l.filterMap g:=by
 induction l with
 |nil=>rfl
 |cons a l ih=>rw[List.filterMap_cons,List.filterMap_cons,h a (.head _),ih λb hb=>h b (.tail _ hb)]
theorem z9B{xs:List V}:slL xs none none (some (-1))=xs.reverse:=by
 unfold slL
 show(sliceRange ((xs.length:Int)-1) (-1) (-1)).filterMap (xs[·]?)=_
 rw[srm,List.filterMap_map,<-z7E xs.reverse,List.length_reverse]
 refine z8p _ λj hj=> ?_
 have hj:=List.mem_range.mp hj
 rw[List.getElem?_reverse hj];rfl
theorem y0B{x:V}{xs:List V}{P:Sto->Prop}(hx:Has σ x (.list xs) P)(q:Q (.bool xs.isEmpty) σ):AC2 C d (compareOp .Eq) x (.lst []) σ Q:=by
 intro A G D s v u hA R hv hu
 obtain⟨a,ws,n,rfl,ho,hr⟩:=hx.isList R hv
 obtain⟨b,zs,n',rfl,ho',hr'⟩:=(Has.lst (σ:=σ) []).isList R hu
 have e2:zs.size=0:=by rw[<-Array.length_toList,hr'.length];rfl
 have e1:ws.size=xs.length:=by rw[<-Array.length_toList,hr.length]
 cases xs with
 |nil=>
  have:=SeqAt.RcAt.lists (A:=A) (s:=s) (e:=λ_=>true) ⟨_,ho,rfl,n,rfl⟩ ⟨_,ho',rfl,n',rfl⟩ (by rw[e1,e2];rfl) hA.line0 (λj h1 h2=>by rw[e2] at h2;cases h2)
  rw[z2R] at this
  exact this C.prog C.w _ _ (PostC.now R (.bool _) q)
 |cons X xs=>
  have:=SeqAt.RcAt.lists_lengths (A:=A) (s:=s) (items:=ws) (items2:=zs) ⟨_,ho,rfl,n,rfl⟩ ⟨_,ho',rfl,n',rfl⟩ (by rw[e1,e2];rfl) hA.line0
  exact this C.prog C.w _ _ (PostC.now R (.bool _) q)
theorem y2V(S:Rw σ ro rv es)(w:Str){b:Addr}(hb:At σ b (.dict [])):∃c,(vAt (kvV rv) w).getD (.ref b)= .ref c/\At σ c (dI (esV (es w))):=by
 by_cases hm:w∈rv.map (·.1)
 ·obtain⟨c,hc,hrc,hat⟩:=S.at hm
  exact⟨c,by rw[hrc];rfl,hat⟩
 ·refine⟨b,by rw[z1k (by rw[z0x];exact hm)];rfl,?_⟩
  rw[S.out w hm];exact hb
theorem z7r(xs:List V){j:Nat}(h:j<=xs.length):slL xs none (some (j:Int)) none=xs.take j:=by
 unfold slL
 have b1:sliceBounds none (some (j:Int)) none xs.length=(((0:Nat):Int),(j:Int),1):=by
  have e:max 0 (min (if(j:Int)<0 then(j:Int)+(xs.length:Int) else(j:Int)) (xs.length:Int))=(j:Int):=z83 h
  show(((0:Nat):Int),max 0 (min (if(j:Int)<0 then(j:Int)+(xs.length:Int) else(j:Int)) (xs.length:Int)),(1:Int))=_
  rw[e]
 rw[b1]
 show((sliceRange ((0:Nat):Int) (j:Int) 1).filterMap λj=>xs[j]?)=xs.take j
 rw[sr1 (Nat.zero_le _),List.filterMap_map,Nat.sub_zero]
 have e:=z7E (xs.take j)
 rw[List.length_take,Nat.min_eq_left h] at e
 rw[<-e]
 refine z8p _ λa ha=> ?_
 show xs[0+a]? =_
 rw[Nat.zero_add,List.getElem?_take_of_lt (List.mem_range.mp ha)]
end
end
section
section
variable {C:Cx} {d:Nat} {σ:Sto} {Q:V->Sto->Prop} {i k ro:Addr} {kv rv:List (Str×Addr)} {es:Str->List (Int×List z0c)} {wi:List z0c} {ps:List (Str×Int)} {w:Str}
noncomputable def t_is_branch_row_1:TC:=⟨[.loc 2,.isi .tup,.tvalc,.not,.mop .Or [.loc 2,.len,.psh (.int 2),.tcmpc .NotEq,.mop .Or [.loc 2,.subT 0,.call (.ref 135) 1,.tvalc,.not,.mop .Or [.loc 2,.subT 0,.loc 3,.tcmpc .NotEq,.mop .Or [.psh (.bool false)]]]],.ife [.psh (.bool false),.ret] []],[],[]⟩
--t_is_branch_row_1 0
noncomputable def z2r(r1:Stmt):TC:=⟨[.loc 0,.isi .lst,.tvalc,.not,.mop .Or [.loc 0,.len,.loc 1,.len,.tcmpc .NotEq,.mop .Or [.psh (.bool false)]],.ife [.psh (.bool false),.ret] [],.rawS r1,.psh (.bool true),.ret],[.inl r1],[([1],none)]⟩
--z2r 1
noncomputable def brR(t:V)(gs:List Int):Bool:=match t with
 | .lst bs=>brB bs gs
 |_=>false
theorem z8A{t:V}{gs:List Int}(h:tkB t .lst=false):brR t gs=false:=by cases t<;>first|rfl|exact tf h|exact ff h
theorem z9f{bs:List V}{gs:List Int}{j:Nat}{b:V}{g:Int}(hb:bs[j]? =some b)(hg:gs[j]? =some g):(b,g)∈bs.zip gs:=List.mem_of_getElem? (List.getElem?_zip_eq_some.mpr ⟨hb,hg⟩)
theorem y0y{bs:List V}{gs:List Int}{j:Nat}{b:V}{g:Int}(hb:bs[j]? =some b)(hg:gs[j]? =some g)(h:z3v b g=false):brB bs gs=false:=by
 unfold brB
 rw[Bool.and_eq_false_iff]
 exact .inr (List.all_eq_false.mpr ⟨(b,g),z9f hb hg,by rw[h];exact Bool.false_ne_true⟩)
theorem z9a{bs:List V}{gs:List Int}(hl:bs.length=gs.length)(h:∀(j:Nat) b g,bs[j]? =some b->gs[j]? =some g->z3v b g=true):brB bs gs=true:=by
 unfold brB
 rw[decide_eq_true hl,Bool.true_and]
 refine List.all_eq_true.mpr λp hp=> ?_
 obtain⟨j,hj⟩:=List.mem_iff_getElem?.mp hp
 obtain⟨h1,h2⟩:=List.getElem?_zip_eq_some.mp hj
 exact h j p.1 p.2 h1 h2
theorem y22{bs:List V}{gs:List Int}(h:brB bs gs=true):bs.length=gs.length:=by
 unfold brB at h
 rw[Bool.and_eq_true] at h
 exact of_decide_eq_true h.1
theorem y36{bs:List V}{gs:List Int}(h:brB bs gs=true){j:Nat}{b:V}(hb:bs[j]? =some b):∃g r,gs[j]? =some g/\b= .tup [.int g,r]:=by
 have hl:=y22 h
 have hj:=(List.getElem?_eq_some_iff.mp hb).1
 have hg:gs[j]? =some gs[j]:=List.getElem?_eq_getElem (hl▸hj)
 unfold brB at h
 rw[Bool.and_eq_true] at h
 have h2:z3v b gs[j]=true:=List.all_eq_true.mp h.2 _ (z9f hb hg)
 revert h2
 exact y0Y (b:=b) (g:=gs[j]) (P:=λy=>y=true->∃g r,gs[j]? =some g/\b= .tup [.int g,r]) (λk r e h2=>⟨_,r,hg,by rw[e,of_decide_eq_true h2]⟩) λh=>ff h
theorem z9r{b:V}{g:Int}(h:tkB b .tup=false):z3v b g=false:=by cases b<;>first|rfl|exact tf h|exact ff h
theorem z7Y{l:List V}{g:Int}(h:l.length≠2):z3v (.tup l) g=false:=y0Y (P:=(·=false)) (λk r e=>absurd (by rw[V.tup.inj e];rfl) h) rfl
theorem y03{a r:V}{g:Int}(h:makeV a=false)(hg:1<=g/\g<=999):z3v (.tup [a,r]) g=false:=y0Y (P:=(·=false)) (λk r' e=>decide_eq_false λq=>by
 rw[(List.cons.inj (V.tup.inj e)).1,q] at h
 have h:(decide (1<=g)&&decide (g<=999))=false:=h
 rw[decide_eq_true hg.1,decide_eq_true hg.2] at h;exact tf h) rfl
theorem z3H{xs:List V}(h:xs.length=2):∃a b,xs=[a,b]:=by
 rcases xs with _|⟨a,_|⟨b,_|⟨c,xs⟩⟩⟩<;>first|(simp at h;done)|exact⟨_,_,rfl⟩
theorem z5R{xs:List V}(h:xs.length=3):∃a b c,xs=[a,b,c]:=by
 rcases xs with _|⟨a,_|⟨b,_|⟨c,_|⟨e,xs⟩⟩⟩⟩<;>first|(simp at h;done)|exact⟨_,_,_,rfl⟩
theorem z73{bs:List V}{gs:List Int}(h:bs.length≠gs.length):brB bs gs=false:=by
 unfold brB
 rw[decide_eq_false h];rfl
inductive BrI(v:V)(gs:List Int)(ys:List V)(σ:Sto)(j:Nat):Loc->Sto->Prop
 |mk {v1 v2:Option V}:(∀(l:Nat) b g,l<j->ys[l]? =some b->gs[l]? =some g->z3v b g=true)->BrI v gs ys σ j [some v,some (.lst (gs.map V.int)),v1,v2] σ
theorem y1D{xs:List V}{gs:List Int}(h:xs.length=gs.length):(z7n xs (gs.map V.int)).length=gs.length:=by unfold z7n;rw[List.length_map,List.length_zip,List.length_map,h,Nat.min_self]
theorem z2u(H:G1 C){v t:V}{n:Nat}(h:Dn σ n v t){gs:List Int}(hg:∀g∈gs,1<=g/\g<=999)(hgl:gs.length<=8)(q:Q (.bool (brR t gs)) σ):CW C (d+2) (.ref 201) [v,.lst (gs.map V.int)] σ Q:=by
 refine z0G (G1.kin (by assumption)) ["branches","makes","pair","make"] [("isinstance",.bi "isinstance"),("list",.type "list"),("len",.bi "len"),("zip",.type "zip"),("tuple",.type "tuple"),("is_make",.ref 135)] (by kernel_rfl) (vs2 λ_ _=>by kernel_rfl) rfl (z0a (z0k (by assumption)) (z0a (z0T (by assumption)) (z0a (z0Q (by assumption)) (z0a (y1H (by assumption)) (z0a (z1h (by assumption)) (z0a (z2b (by assumption)) GL_nil)))))) ?_
 intro env hsc
 clear hsc
 refine z0e (z0l H) (z0m H) (z2r _) (by exact rfl) (by kernel_rfl) ?_
 intro F m0
 refine z0N (k:= .lst) h rfl ?_
 cases hk:tkB t .lst with
 |false=>
  rw[z8A hk] at q
  exact q
 |true=>
  obtain⟨m',xs,ys,P,_,hH,rfl,hl,h200,hd⟩:=h.lstI hk
  have q:Q (.bool (brB ys gs)) σ:=q
  clear h hk
  refine z5b hH (Nat.le_trans h200 (by decide)) ?_
  refine Leaf.mk (z0L (n:=gs.length) (.lst _) (List.length_map _) (z0z hgl (by decide)) ?_)
  by_cases hle:xs.length=gs.length
  ·refine z0D (show(!decide ((xs.length:Int)=(gs.length:Int)))=false by rw[decide_eq_true (by rw[hle])];rfl) ?_
   refine Leaf.mk ?_
   show AS C env ["branches","makes","pair","make"] _ true _ (exec _ env) [some v,some (.lst (gs.map V.int)),none,none] _ _
   refine y17 (BrI v gs ys σ) (y1t ?_)
   with_reducible refine z1s ?_
   refine⟨rfl,?_⟩
   repeat' with_reducible first|refine z0n ?_|refine z0q ?_|refine z0v ?_
   refine⟨_,_,_,_,_,_,rfl,hH,.lst _,.mk λl b g h=>absurd h (Nat.not_lt_zero _),λj X hX m τ hI QB hQB hQR=> ?_,λm τ hI=> ?_⟩
   ·obtain⟨Xb,Z,hXb,hZ,rfl⟩:=z6x hX
    rw[List.getElem?_map] at hZ
    apply z1I hZ;intro g hge
    obtain⟨Yb,hYb⟩:=z1V hl.symm hXb
    have hdb:=hd j _ _ hXb hYb
    have hgb:=hg g (List.mem_of_getElem? hge)
    refine hI.casesOn @λv1 v2 hall=> ?_
    have hno:z3v Yb g=false->∀m,QB (.ret (.bool false)) m σ:=λe m=>hQR _ _ _ (by rw[y0y hYb hge e] at q;exact q)
    have hyes:z3v Yb g=true->QB .next [some v,some (.lst (gs.map V.int)),some Xb,some (.int g)] σ:=λe=>hQB _ _ ⟨hH.p,trivial⟩ (.mk λl b g' hl hb hg'=>by
     rcases Nat.lt_succ_iff_lt_or_eq.mp hl with h|rfl
     ·exact hall l b g' h hb hg'
     ·rw[hYb] at hb;cases hb;rw[hge] at hg';cases hg';exact e)
    clear hQB hQR hall hX hZ hd q hg hH
    with_reducible refine y0i ?_
    with_reducible refine z0w PutC.put ?_
    with_reducible refine z0w PutC.put ?_
    refine z0e (z0l H) (z0m H) t_is_branch_row_1 rfl (by kernel_rfl) ?_
    intro F m0
    cases hk:tkB Yb .tup with
    |false=>
     refine z0N hdb hk ?_
     exact hno (z9r hk) _
    |true=>
     obtain⟨m2,us,zs,_,rfl,rfl,hl2,h2002,hd2⟩:=hdb.tupI hk
     refine z0A (z2F h2002 rfl) ?_
     by_cases h2:us.length=2
     ·obtain⟨a,b,rfl⟩:=z3H h2
      obtain⟨ya,yb,rfl⟩:=z3H (hl2▸h2)
      have hda:=hd2 0 _ _ rfl rfl
      clear hdb hk hl2 h2002 hd2 h2
      refine Leaf.mk (fnc (z3s H hda ?_))
      cases hk:makeV ya with
      |false=>exact hno (y03 hk hgb) _
      |true=>
       obtain⟨k,rfl,_,_⟩:=z5Y hk
       obtain rfl:=hda.intE
       cases hkg:decide (k=g) with
       |true=>
        refine z0D (show(!decide (k=g))=false by rw[hkg];rfl) ?_
        exact hyes hkg
       |false=>
        refine z0A (show(!decide (k=g))=true by rw[hkg];rfl) ?_
        exact hno hkg _
     ·refine z0A (show(!decide ((us.length:Int)=2))=true by rw[decide_eq_false (by lia)];rfl) ?_
      exact hno (z7Y (hl2▸h2)) _
   ·refine hI.casesOn @λv1 v2 hall=> ?_
    rw[y1D hle] at hall
    rw[z9a (by rw[<-hl];exact hle) λl b g hb hg'=>hall l b g (List.getElem?_eq_some_iff.mp hg').1 hb hg'] at q
    exact q
  ·rw[z73 (by rw[<-hl];exact hle)] at q
   refine z0A (show(!decide ((xs.length:Int)=(gs.length:Int)))=true by rw[decide_eq_false (by lia)];rfl) ?_
   exact q
end
end
section
section
variable {C:Cx} {d:Nat} {σ:Sto} {Q:V->Sto->Prop} {i k ro:Addr} {kv rv:List (Str×Addr)} {es:Str->List (Int×List z0c)} {wi:List z0c} {ps:List (Str×Int)} {w:Str}
structure Gr(es:Str->List (Int×List z0c))(wi:List z0c):Prop where
 ok:WishOk wi
 nd:∀w,((es w).map (·.1)).Nodup
 mb:∀w,∀p∈es w,Ware w/\1<=p.1/\p.1<=999
 nw:∀w,∀p∈es w,∀n∈p.2,Ware n.1
 l12:∀pk:List (Str×Int),(pk.map (·.1)).Nodup->PkIn es pk->pk.length<=12
 l8:∀w,(es w).length<=8
theorem z8F(g:Gr es wi)(pb:PkB ps)(pi:PkIn es ps){v:V}{n:z0c}:z3l es wi ps v=some n->Ware n.1:=
 y4o (P:=λy=>y=some n->Ware n.1) (λt r _=>s3E (P:=λy=>y=some n->Ware n.1) (λx m k _ hc h=>by
  rw[Bool.and_eq_true,Bool.and_eq_true] at hc
  obtain⟨ns,hns⟩:=pi _ (z4n (of_decide_eq_true hc.2.1))
  rw[z23 (g.nd x) hns] at h
  exact g.nw x _ hns n (List.mem_of_getElem? h)) (s2E (P:=λy=>y=some n->Ware n.1) (λx m _ hc h=>by
  rw[Bool.and_eq_true] at hc
  rw[<-Option.some.inj h]
  exact(pb.ok _ (z4n (of_decide_eq_true hc.2))).1) λh=>(y4Y g.ok h).w)) λh=>nomatch h
set_option tactic.hygienic true in
theorem y1f(g:Gr es wi)(pb:PkB ps)(pi:PkIn es ps){v:V}{p:Int×Int}(h:z1l es wi ps w v=some p):Ware w:=by
 unfold z1l z8u at h
 split at h
 ·rename_i n e
  split at h
  ·rename_i hn
   rw[<-eq_of_beq hn];exact z8F g pb pi e
  ·cases h
 ·cases h
set_option tactic.hygienic true in
theorem z9X(g:Gr es wi)(pb:PkB ps)(pi:PkIn es ps){ss:List V}{st:List (Int×Int)}(h0:ss≠[])(h:z1R es wi ps w ss=some st):Ware w:=by
 cases ss with
 |nil=>exact absurd rfl h0
 |cons v vs=>
  unfold z1R at h
  split at h
  ·cases h
  ·rename_i p e;exact y1f g pb pi e
noncomputable def goR(f:List (Str×Int)->V->Bool)(ps:List (Str×Int))(w:Str)(t:V):Bool:=match t with
 | .lst bs=>bs.all (z6X f ps w)
 |_=>false
theorem z9w{f:Nat}{t:V}(h:tkB t .tup=false):hB es wi f ps t=false:=by cases f<;>cases t<;>first|rfl|exact tf h|exact ff h
theorem z8C{f:Nat}{l:List V}(h:l.length≠3):hB es wi f ps (.tup l)=false:=by
 cases f with
 |zero=>rfl
 |succ f=>
  exact l3E (l:=l) (P:=λy=>y=false) (λa b c e=>absurd (by rw[e];rfl) h) rfl
theorem y1E{f:Nat}{a b c:V}(h:tkB a .str=false):hB es wi f ps (.tup [a,b,c])=false:=by cases f<;>cases a<;>first|rfl|exact tf h|exact ff h
theorem y3A{f:Nat}{a b c:V}(h:tkB b .lst=false):hB es wi f ps (.tup [a,b,c])=false:=by
 cases f with
 |zero=>rfl
 |succ f=>cases a<;>first|rfl|(cases b<;>first|rfl|exact tf h|exact ff h)
theorem z9o{f:Nat}{ss:List V}{c:V}:hB es wi (f+1) ps (.tup [.str w,.lst ss,c])=(!ss.isEmpty&&(match z1R es wi ps w ss with
   |none=>false
   |some st=> !((pI ps w).isSome&& !(lfF es w st).isEmpty)&&(brR c (lfF es w st)&&goR (hB es wi f) ps w c))):=by
 have key:∀c,tkB c .lst=false->hB es wi (f+1) ps (.tup [.str w,.lst ss,c])=false:=λc h=>by cases c<;>first|rfl|exact tf h|exact ff h
 cases hk:tkB c .lst with
 |false=>
  rw[key c hk]
  cases z1R es wi ps w ss with
  |none=>exact(Bool.and_false _).symm
  |some st=>
   show false=(!ss.isEmpty&&(!((pI ps w).isSome&& !(lfF es w st).isEmpty)&&(brR c (lfF es w st)&&goR (hB es wi f) ps w c)))
   rw[z8A hk,Bool.false_and,Bool.and_false,Bool.and_false]
 |true=>cases c<;>first|(cases hk;done)|rfl
inductive ThSh(σ:Sto)(m:Nat):V->V->Prop
 |no {n:Nat} {v t:V}:Dn σ n v t->tkB t .tup=false->ThSh σ m v t
 |len {xs ys:List V}:xs.length<=200->xs.length≠3->xs.length=ys.length->ThSh σ m (.tup xs) (.tup ys)
 |nost {X0 X1 X2 Y0 Y1 Y2:V}:Dn σ m X0 Y0->tkB Y0 .str=false->ThSh σ m (.tup [X0,X1,X2]) (.tup [Y0,Y1,Y2])
 |nol {w:Str} {X1 X2 Y1 Y2:V}:Asc w->Dn σ m X1 Y1->tkB Y1 .lst=false->ThSh σ m (.tup [.str w,X1,X2]) (.tup [.str w,Y1,Y2])
 |ok {w:Str} {X1 X2 Y2:V} {us ss:List V} {P:Sto->Prop} {k:Nat}:Asc w->Has σ X1 (.list us) P->us.length=ss.length->us.length<=200->(∀(j:Nat) X Y,us[j]? =some X->ss[j]? =some Y->Dn σ k X Y)->Dn σ m X2 Y2->ThSh σ m (.tup [.str w,X1,X2]) (.tup [.str w,.lst ss,Y2])
theorem Dn.th{v t:V}{m:Nat}(h:Dn σ (m+1) v t):ThSh σ m v t:=by
 cases hk:tkB t .tup with
 |false=>exact .no h hk
 |true=>
  obtain⟨m',xs,ys,e,rfl,rfl,hl,h200,hd⟩:=h.tupI hk
  cases e
  by_cases h3:xs.length=3
  ·obtain⟨X0,X1,X2,rfl⟩:=z5R h3
   obtain⟨Y0,Y1,Y2,rfl⟩:=z5R (hl▸h3)
   have h0:=hd 0 _ _ rfl rfl
   have h1:=hd 1 _ _ rfl rfl
   have h2:=hd 2 _ _ rfl rfl
   cases hs:tkB Y0 .str with
   |false=>exact .nost h0 hs
   |true=>
    obtain⟨w,rfl,rfl,hw⟩:=h0.strI hs
    cases hb:tkB Y1 .lst with
    |false=>exact .nol hw h1 hb
    |true=>
     obtain⟨k,us,ss,P,_,hH,rfl,hl1,h1200,hd1⟩:=h1.lstI hb
     exact .ok hw hH hl1 h1200 hd1 h2
  ·exact .len h200 h3 hl
theorem y2n{l:List V}:((l.map λs=>optS (z1l es wi ps w s)).any V.isNone)=(l.any λs=>(z1l es wi ps w s).isNone):=by
 rw[List.any_map]
 congr 1
 funext s
 show(optS (z1l es wi ps w s)).isNone=_
 cases z1l es wi ps w s<;>rfl
theorem z7A{l:List V}(h:(l.any λs=>(z1l es wi ps w s).isNone)=true):z1R es wi ps w l=none:=by
 obtain⟨s,hs,e⟩:=List.any_eq_true.mp h
 exact z5P ⟨s,hs,Option.isNone_iff_eq_none.mp e⟩
theorem y1l{l:List V}(h:(l.any λs=>(z1l es wi ps w s).isNone)=false):∃st,z1R es wi ps w l=some st/\(l.map λs=>optS (z1l es wi ps w s))=st.map λp=> .tup [.int p.1,.int p.2]:=by
 obtain⟨st,e1,e2⟩:=y1d (es:=es) (wi:=wi) (ps:=ps) (w:=w) (l:=l) λv hv e=>by
  have:=List.any_eq_false.mp h v hv
  rw[e] at this;exact this rfl
 refine⟨st,e1,?_⟩
 have:=congrArg (List.map optS) e2
 rw[List.map_map,List.map_map] at this
 exact this
theorem z9O{l:List V}:∀X∈l.map (λs=>optS (z1l es wi ps w s)),X= .none∨∃z,X= .tup z:=λX hX=>by
 apply z0p hX;intro s _
 cases z1l es wi ps w s with
 |none=>exact .inl rfl
 |some p=>exact .inr ⟨_,rfl⟩
theorem y09{st:List (Int×Int)}{m:Int}(h:m∈lfF es w st):∃ns,(m,ns)∈es w:=by
 obtain⟨h1,_⟩:=List.mem_filter.mp h
 apply z0p ((z0C _).mem_iff.mp (List.mem_reverse.mp h1));rintro ⟨m,ns⟩ h2
 exact⟨ns,h2⟩
theorem z8H(g:Gr es wi){st:List (Int×Int)}:(lfF es w st).length<=8:=by
 refine Nat.le_trans (List.length_filter_le _ _) ?_
 unfold z4e
 rw[List.length_reverse,(z0C _).length_eq,List.length_map]
 exact g.l8 w
theorem PkB.putG(g:Gr es wi)(pb:PkB ps)(pi:PkIn es ps){mk:Int}{ns:List z0c}(h:(mk,ns)∈es w):PkB (z3y ps w mk):=by
 refine⟨z9t pb.nd,g.l12 _ (z9t pb.nd) (pi.put h),λp hp=> ?_⟩
 rcases z7J hp with rfl|hp
 ·exact g.mb w _ h
 ·exact pb.ok p hp
theorem z8K{f:Nat}{c:V}:hB es wi f ps (.tup [.str w,.lst [],c])=false:=by
 cases f with
 |zero=>rfl
 |succ f=>rw[z9o];rfl
theorem z7h{f:Nat}{ss:List V}{c:V}(h:z1R es wi ps w ss=none):hB es wi f ps (.tup [.str w,.lst ss,c])=false:=by
 cases f with
 |zero=>rfl
 |succ f=>rw[z9o,h];exact Bool.and_false _
theorem z9v{f:Nat}{ss:List V}{c:V}(h:tkB c .lst=false):hB es wi f ps (.tup [.str w,.lst ss,c])=false:=by
 cases f with
 |zero=>rfl
 |succ f=>cases c<;>first|rfl|exact tf h|exact ff h
theorem y4Z(g:Gr es wi)(pb:PkB ps)(pi:PkIn es ps){f:Nat}{ss:List V}{c:V}(h:wareV (.str w)=false):hB es wi f ps (.tup [.str w,.lst ss,c])=false:=by
 cases f with
 |zero=>rfl
 |succ f=>
  rw[z9o]
  cases ss with
  |nil=>rfl
  |cons s ss=>
   cases e:z1R es wi ps w (s::ss) with
   |none=>exact Bool.and_false _
   |some st=>rw[z5a (z9X g pb pi (List.cons_ne_nil s ss) e)] at h;cases h
end
end
section
section
variable {C:Cx} {d:Nat} {σ:Sto} {Q:V->Sto->Prop} {i k ro:Addr} {kv rv:List (Str×Addr)} {es:Str->List (Int×List z0c)} {wi:List z0c} {ps:List (Str×Int)} {w:Str}
theorem y4r{env:Env}{vars:List Str}{gl:List (Str×V)}{own:Bool}{m:Loc}{iter tgt:Expr}{QI:List V->(Sto->Prop)->Sto->Prop}{v:V}{xs:List V}{P:Sto->Prop}(hv:(v= .tup xs/\P=λ_=>True)∨Has σ v (.list xs) P)
  (h:AT C env vars gl own d (eval iter env) m σ λX σ₁=>X=v/\σ₁=σ/\QI xs P σ):AI C env vars gl own d iter tgt m σ QI:=by
 rcases hv with⟨rfl,rfl⟩|hv
 ·exact z8q (h.mono λX σ₁ ⟨e1,e2,q⟩=>⟨xs,e1,e2▸q⟩)
 ·exact z1b (h.mono λX σ₁ ⟨e1,e2,q⟩=>⟨xs,P,e1▸e2▸hv,e2▸q⟩)
theorem z8k{a:Addr}{o:Obj}{xs:List V}{τ:Sto}(hn:(foot ((a,o,AO.list xs)::τ)).Nodup):Fresh τ a:=λp hp e=>(List.nodup_cons.mp hn).1 (e▸z1t hp)
noncomputable def z15(r1:Stmt)(r2:Expr):TC:=⟨[.loc 0,.psh (.type "list"),.psh (.type "tuple"),.tup 2,.call (.bi "isinstance") 2,.tvalc,.ife [.rawS r1,.raw r2,.ret] [],.loc 0,.ret],[.inl r1,.inr r2],[([0,0,0],none),([0,0,1],some [])]⟩
--z15 2
set_option tactic.hygienic true in
theorem z4f(H:G1 C){v t:V}{n:Nat}(h:Dn σ n v t)(hlt:ltB t=true){xs:List V}{P:Sto->Prop}(hv:(v= .tup xs/\P=λ_=>True)∨Has σ v (.list xs) P)(hl:xs.length<=200)(I:Nat->List V->Sto->Prop)(h0:I 0 [] σ)(hk:∀j acc τ,I j acc τ->acc.length=j/\∀b x,At σ b x->At τ b x)
  (hst:∀(j:Nat) X acc τ,xs[j]? =some X->I j acc τ->CW C d (.ref 430) [X] τ λY τ'=>P τ'/\I (j+1) (acc++[Y]) τ')
  (hq1:tkB t .tup=true->∀ys τ,I xs.length ys τ->Q (.tup ys) τ) (hq2:tkB t .tup=false->∀ys τ,I xs.length ys τ->∀a o,Fresh τ a->Q (.ref a) ((a,o,.list ys)::τ)):CW C (d+1) (.ref 430) [v] σ Q:=by
 refine z03 ?_
 refine z0G (G1.kin (by assumption)) ["_law_thing","_law_parts"] [("isinstance",.bi "isinstance"),("list",.type "list"),("tuple",.type "tuple")] (by kernel_rfl) (vs1 λ_=>by kernel_rfl) rfl (z0a (z0k (by assumption)) (z0a (z0T (by assumption)) (z0a (z1h (by assumption)) GL_nil))) ?_
 intro env hsc
 refine z0e (z0l H) (z0m H) (z15 _ _) (by exact rfl) (by kernel_rfl) ?_
 intro F m0
 refine Leaf.mk (z8S h ?_)
 rw[hlt]
 refine Leaf.mk ?_
 show AS C env ["_law_thing","_law_parts"] _ true _ (exec _ env) [some v,none] _ _
 refine z2B "_law_part" [] [("_law_copy",.ref 430)] (z11 (by rw[hsc];kernel_rfl)) (by rw[hsc];kernel_rfl) (z0a (z4v H) GL_nil) .nil (y4r hv ?_)
 with_reducible refine z0n ?_
 refine⟨rfl,rfl,Nat.le_trans hl (by decide),λenv' he=>z43 I (z0u he (by decide+kernel)) xs 0 [] none σ (λj X hX acc τ hI=> ?_) (λacc τ hI=> ?_) h0⟩
 ·rw[Nat.zero_add] at hI⊢
  repeat' with_reducible first|refine z0n ?_|refine z1s ?_|refine z0H ?_|refine z0q ?_|refine z0v ?_|refine⟨z4z (by assumption),?_⟩|fail
  exact fnc (hst j X acc τ hX hI)
 ·rw[Nat.zero_add] at hI
  intro a o
  with_reducible refine z2t ?_
  refine Leaf.mk ?_
  show AT C env ["_law_thing","_law_parts"] _ true _ (eval _ env) [some v,some (.ref a)] _ _
  refine y44 λhnd=> ?_
  have hf:=z8k hnd
  have h':Dn ((a,o,.list acc)::τ) n v t:=h.mono λb x hb=>((hk _ _ _ hI).2 b x hb).cons _
  repeat' with_reducible first|refine z0n ?_|refine z1s ?_|refine z0H ?_|refine y02 ?_|refine z0q ?_|refine z0v ?_|refine y0X ?_|refine⟨z2f,?_⟩|fail
  refine y4j (k:= .tup) h' ?_
  cases hkt:tkB t .tup with
  |true=>
   repeat' with_reducible first|refine z0n ?_|refine z1s ?_|refine z0H ?_|refine z0q ?_|refine z0v ?_|refine z0i ?_|refine⟨z0R,?_⟩|(refine⟨λ_=> ?_,λ_=> ?_⟩<;>try (exfalso;rename_i hb;revert hb;simp[V.isNone];done))|fail
   refine z7P (.refL (.head _)) ?_ ?_
   ·rw[(hk _ _ _ hI).1];exact Nat.le_trans hl (by decide)
   ·exact⟨τ,List.sublist_cons_self _ _,hq1 hkt acc τ hI⟩
  |false=>
   repeat' with_reducible first|refine z0n ?_|refine z0i ?_|(refine⟨λ_=> ?_,λ_=> ?_⟩<;>try (exfalso;rename_i hb;revert hb;simp[V.isNone];done))|fail
   exact⟨_,List.Sublist.refl _,hq2 hkt acc τ hI a o hf⟩
theorem Dn.atom{v t:V}{n:Nat}(h:Dn σ n v t)(hl:ltB t=false):v=t:=by cases h<;>first|rfl|cases hl
theorem z24{ys:List V}{j:Nat}{Y:V}(h:ys[j]? =some Y):ys.take (j+1)=ys.take j++[Y]:=by rw[List.take_add_one,h];rfl
theorem z5N(H:G1 C){n:Nat}(ih:∀{σ:Sto} {Q:V->Sto->Prop} {v t:V},Dn σ n v t->Q t σ->CW C d (.ref 430) [v] σ Q){v:V}{ys:List V}(h:Dn σ (n+1) v (.lst ys))(q:∀a o,Fresh σ a->Q (.ref a) ((a,o,.list ys)::σ)):CW C (d+1) (.ref 430) [v] σ Q:=by
 obtain⟨m,xs,ys',P,e,hH,e2,hl,h2,hd⟩:=h.lstI rfl
 cases e;cases e2
 refine z4f H h rfl (.inr hH) h2 (λj acc τ=>j<=ys.length/\τ=σ/\acc=ys.take j) ⟨Nat.zero_le _,rfl,rfl⟩ (λj acc τ hI=> ?_) (λj X acc τ hX hI=> ?_) (λe=>nomatch e) λ_ zs τ hI a o hf=> ?_
 ·obtain⟨h1,rfl,rfl⟩:=hI
  exact⟨by rw[List.length_take];exact Nat.min_eq_left h1,λ_ _ h=>h⟩
 ·obtain⟨h1,rfl,rfl⟩:=hI
  obtain⟨Y,hY⟩:=z1V hl.symm hX
  exact ih (hd j X Y hX hY) ⟨hH.p,(List.getElem?_eq_some_iff.mp hY).1,rfl,(z24 hY).symm⟩
 ·obtain⟨_,rfl,rfl⟩:=hI
  rw[hl,List.take_length];exact q a o hf
theorem z16(H:G1 C)(n:Nat):∀{σ:Sto} {Q:V->Sto->Prop} {v t:V},Dn σ n v t->Q t σ->CW C (d+n+1) (.ref 430) [v] σ Q:=by
 induction n with
 |zero=>
  intro σ Q v t h q
  have hlt:ltB t=false:=by cases h<;>rfl
  obtain rfl:=h.atom hlt
  refine z0G (G1.kin (by assumption)) ["_law_thing","_law_parts"] [("isinstance",.bi "isinstance"),("list",.type "list"),("tuple",.type "tuple")] (by kernel_rfl) (vs1 λ_=>by kernel_rfl) rfl (z0a (z0k (by assumption)) (z0a (z0T (by assumption)) (z0a (z1h (by assumption)) GL_nil))) ?_
  intro env hsc
  clear hsc
  refine z0e (z0l H) (z0m H) (z15 _ _) (by exact rfl) (by kernel_rfl) ?_
  intro F m0
  refine Leaf.mk (z8S h ?_)
  rw[hlt]
  exact q
 |succ n ih=>
  intro σ Q v t h q
  cases hlt:ltB t with
  |false=>
   obtain rfl:=h.atom hlt
   refine z0G (G1.kin (by assumption)) ["_law_thing","_law_parts"] [("isinstance",.bi "isinstance"),("list",.type "list"),("tuple",.type "tuple")] (by kernel_rfl) (vs1 λ_=>by kernel_rfl) rfl (z0a (z0k (by assumption)) (z0a (z0T (by assumption)) (z0a (z1h (by assumption)) GL_nil))) ?_
   intro env hsc
   clear hsc
   refine z0e (z0l H) (z0m H) (z15 _ _) (by exact rfl) (by kernel_rfl) ?_
   intro F m0
   refine Leaf.mk (z8S h ?_)
   rw[hlt]
   exact q
  |true=>
   cases hkt:tkB t .tup with
   |false=>
    have hkl:tkB t .lst=true:=by unfold ltB at hlt;rw[hkt,Bool.or_false] at hlt;exact hlt
    obtain⟨m,xs,ys,P,e,hH,rfl,hl,h2,hd⟩:=h.lstI hkl
    exact z1U (z5N H ih h λa o hf=>⟨a,o,ys,σ,rfl,rfl,q⟩)
   |true=>
    obtain⟨m,xs,ys,e,rfl,rfl,hl,h2,hd⟩:=h.tupI hkt
    cases e
    refine z4f H h rfl (.inl ⟨rfl,rfl⟩) h2 (λj acc τ=>j<=ys.length/\τ=σ/\acc=ys.take j) ⟨Nat.zero_le _,rfl,rfl⟩ (λj acc τ hI=> ?_) (λj X acc τ hX hI=> ?_) (λ_ zs τ hI=> ?_) λe=>nomatch e
    ·obtain⟨h1,rfl,rfl⟩:=hI
     exact⟨by rw[List.length_take];exact Nat.min_eq_left h1,λ_ _ h=>h⟩
    ·obtain⟨h1,rfl,rfl⟩:=hI
     obtain⟨Y,hY⟩:=z1V hl.symm hX
     exact ih (hd j X Y hX hY) ⟨trivial,(List.getElem?_eq_some_iff.mp hY).1,rfl,(z24 hY).symm⟩
    ·obtain⟨_,rfl,rfl⟩:=hI
     rw[hl,List.take_length];exact q
inductive CpI(σ:Sto)(w:V)(ss:List V)(b:V):Nat->List V->Sto->Prop
 |z:CpI σ w ss b 0 [] σ
 |o:CpI σ w ss b 1 [w] σ
 |t {a:Addr} {o:Obj}:Fresh σ a->CpI σ w ss b 2 [w,.ref a] ((a,o,.list ss)::σ)
 |h {a:Addr} {o:Obj}:Fresh σ a->CpI σ w ss b 3 [w,.ref a,b] ((a,o,.list ss)::σ)
theorem z7g(H:G1 C){n:Nat}{x b:V}{ss:List V}(h:Dn σ (n+2) (.tup [x,.lst ss,b]) (.tup [x,.lst ss,b]))(q:∀a o,Fresh σ a->Q (.tup [x,.ref a,b]) ((a,o,.list ss)::σ)):CW C (d+n+3) (.ref 430) [.tup [x,.lst ss,b]] σ Q:=by
 obtain⟨m,xs,ys,e,e1,e2,hl,h2,hd⟩:=h.tupI rfl
 cases e;cases e1;cases e2
 refine z4f (d:=d+n+2) H h rfl (.inl ⟨rfl,rfl⟩) h2 (CpI σ x ss b) .z (λj acc τ hI=> ?_) (λj X acc τ hX hI=> ?_) (λ_ zs τ hI=> ?_) λe=>nomatch e
 ·cases hI with
  |z=>exact⟨rfl,λ_ _ h=>h⟩
  |o=>exact⟨rfl,λ_ _ h=>h⟩
  |t hf=>exact⟨rfl,λ_ _ h=>h.cons _⟩
  |h hf=>exact⟨rfl,λ_ _ h=>h.cons _⟩
 ·cases hI with
  |z=>cases hX;exact z16 H (n+1) (hd 0 _ _ rfl rfl) ⟨trivial,.o⟩
  |o=>cases hX;exact z5N H (z16 H n) (hd 1 _ _ rfl rfl) λa o hf=>⟨trivial,.t hf⟩
  |t hf=>cases hX;exact z16 H (n+1) ((hd 2 _ _ rfl rfl).mono λ_ _ h=>h.cons _) ⟨trivial,.h hf⟩
  |h hf=>cases hX
 ·cases hI with
  |h hf=>exact q _ _ hf
end
end
section
section
variable {C:Cx} {d:Nat} {σ:Sto} {Q:V->Sto->Prop} {i k ro:Addr} {kv rv:List (Str×Addr)} {es:Str->List (Int×List z0c)} {wi:List z0c} {ps:List (Str×Int)} {w:Str}
theorem z80{f:Nat}{ss:List V}{c:V}{st:List (Int×Int)}(h:z1R es wi ps w ss=some st)(h0:ss≠[]):hB es wi (f+1) ps (.tup [.str w,.lst ss,c])=(!((pI ps w).isSome&& !(lfF es w st).isEmpty)&&(brR c (lfF es w st)&&goR (hB es wi f) ps w c)):=by
 rw[z9o,h]
 cases ss with
 |nil=>exact absurd rfl h0
 |cons s ss=>rfl
noncomputable def z1p(r1:Stmt):TC:=⟨[.loc 3,.isi .tup,.tvalc,.not,.mop .Or [.loc 3,.len,.psh (.int 3),.tcmpc .NotEq,.mop .Or [.loc 3,.subT 0,.call (.ref 128) 1,.tvalc,.not,.mop .Or [.psh (.bool false)]]],.ife [.psh (.bool false),.ret] [],.loc 3,.subT 1,.isi .lst,.tvalc,.not,.mop .Or [.loc 3,.subT 1,.len,.psh (.int 0),.tcmpc .Eq,.mop .Or [.psh (.bool false)]],.ife [.psh (.bool false),.ret] [],.rawS r1,.psh .none,.loc 4,.tcmpc .In,.ife [.psh (.bool false),.ret] [],.loc 0,.loc 3,.subT 0,.loc 4,.call (.ref 194) 3,.asg 5,.cut [.loc 3,.subT 0,.loc 2,.tcmpc .In,.mop .And [.loc 5,.len,.psh (.int 0),.tcmpc .Gt,.mop .And [.psh (.bool true)]],.mop .Or [.loc 3,.subT 2,.loc 5,.call (.ref 201) 2,.tvalc,.not,.mop .Or [.psh (.bool false)]],.ife [.psh (.bool false),.ret] []],.loc 3,.subT 2,.forL2 6 7 [.loc 2,.call (.type "dict") 1,.asg 8,.loc 6,.loc 8,.loc 3,.subT 0,.setI,.loc 0,.loc 1,.loc 8,.loc 7,.call (.ref 206) 4,.tvalc,.not,.ife [.psh (.bool false),.ret] []],.psh (.bool true),.ret],[.inl r1],[([2],none)]⟩
--z1p 1
inductive HbI(i:Addr)(x:V)(ga:Addr)(w:Str)(X1 X2:V)(a b:Option V)(g:V->Bool)(bs:List V)(σ:Sto)(j:Nat):Loc->Sto->Prop
 |mk {v1 v2 v3:Option V} {τ:Sto}:(∀(l:Nat) b,l<j->bs[l]? =some b->g b=true)->σ.Sublist τ->HbI i x ga w X1 X2 a b g bs σ j [some (.ref i),some x,some (.ref ga),some (.tup [.str w,X1,X2]),a,b,v1,v2,v3] τ
theorem y3N{bs zs:List V}{gs:List Int}{n:Nat}(h:brB bs gs=true)(hm:∀m∈gs,∃ns,(m,ns)∈es w)(hl:zs.length=bs.length)(hd:∀(j:Nat) (X Y:V),zs[j]? =some X->bs[j]? =some Y->Dn σ (n+1) X Y){j:Nat}{X:V}(hX:zs[j]? =some X):∃gm X' r ns,X= .tup [.int gm,X']/\bs[j]? =some (.tup [.int gm,r])/\(gm,ns)∈es w/\Dn σ n X' r:=by
 obtain⟨Yb,hYb⟩:=z1V hl.symm hX
 obtain⟨gm,r,hg,rfl⟩:=y36 h hYb
 obtain⟨k3,us,ys,e3,rfl,e,hl3,_,hd3⟩:=(hd j _ _ hX hYb).tupI rfl
 cases e;cases e3
 obtain⟨a,b,rfl⟩:=z3H hl3
 obtain rfl:=(hd3 0 _ _ rfl rfl).intE
 obtain⟨ns,hns⟩:=hm gm (List.mem_of_getElem? hg)
 exact⟨gm,b,r,ns,rfl,hYb,hns,hd3 1 _ _ rfl rfl⟩
theorem y5s{gs:List Int}(h:gs≠[]):decide ((gs.length:Int)>0)=true:=decide_eq_true (Int.ofNat_lt.mpr (List.length_pos_iff.mpr h))
theorem y4Q{gs:List Int}(h:gs=[]):decide ((gs.length:Int)>0)=false:=by rw[h];rfl
theorem y5e{gs:List Int}(h:gs≠[]):(!gs.isEmpty)=true:=by cases gs with|nil=>exact absurd rfl h|cons=>rfl
theorem y2K{us ss:List V}(hl:us.length=ss.length)(h0:ss≠[]):decide ((us.length:Int)=0)=false:=decide_eq_false (by rw[hl];have:=List.length_pos_iff.mpr h0;lia)
theorem z8W(H:G1 C)(g:Gr es wi)(f:Nat):∀{σ:Sto} {Q:V->Sto->Prop} {ps:List (Str×Int)} {x:V} {Px:Sto->Prop} {ga:Addr} {v t:V},Shp σ i k kv es->Has σ x (.list (wi.map z0h)) Px->At σ ga (dS (pkV ps))->PkB ps->PkIn es ps->Dn σ (3*f) v t->Q (.bool (hB es wi f ps t)) σ->CW C (d+f+6) (.ref 206) [.ref i,x,.ref ga,v] σ Q:=by
 induction f with
 |zero=>
  intro σ Q ps x Px ga v t S hx hg pb pi h q
  have h:Dn σ 0 v t:=h
  have hk:tkB t .tup=false:=by cases h<;>rfl
  refine z0G (G1.kin (by assumption)) ["shop","wish","granted","thing","stretches","makes","make","reason","more"] [("isinstance",.bi "isinstance"),("tuple",.type "tuple"),("len",.bi "len"),("is_ware",.ref 128),("list",.type "list"),("left_by",.ref 194),("is_branch_row",.ref 201),("dict",.type "dict"),("holds_by",.ref 206)] (by kernel_rfl) (vs4 λ_ _ _ _=>by kernel_rfl) rfl (z0a (z0k (by assumption)) (z0a (z1h (by assumption)) (z0a (z0Q (by assumption)) (z0a (z1G (by assumption)) (z0a (z0T (by assumption)) (z0a (z4g (by assumption)) (z0a (z2q (by assumption)) (z0a (z2S (by assumption)) (z0a (z3o (by assumption)) GL_nil))))))))) ?_
  intro env hsc
  clear hsc
  refine z0e (z0l H) (z0m H) (z1p _) (by exact rfl) (by kernel_rfl) ?_
  intro F m0
  refine z0N h hk ?_
  exact q
 |succ f ih=>
  intro σ Q ps x Px ga v t S hx hg pb pi h q
  refine z03 ?_
  refine z0G (G1.kin (by assumption)) ["shop","wish","granted","thing","stretches","makes","make","reason","more"] [("isinstance",.bi "isinstance"),("tuple",.type "tuple"),("len",.bi "len"),("is_ware",.ref 128),("list",.type "list"),("left_by",.ref 194),("is_branch_row",.ref 201),("dict",.type "dict"),("holds_by",.ref 206)] (by kernel_rfl) (vs4 λ_ _ _ _=>by kernel_rfl) rfl (z0a (z0k (by assumption)) (z0a (z1h (by assumption)) (z0a (z0Q (by assumption)) (z0a (z1G (by assumption)) (z0a (z0T (by assumption)) (z0a (z4g (by assumption)) (z0a (z2q (by assumption)) (z0a (z2S (by assumption)) (z0a (z3o (by assumption)) GL_nil))))))))) ?_
  intro env hsc
  have h:Dn σ ((3*f+2)+1) v t:=h
  have th:=h.th
  clear h
  revert q
  refine th.casesOn (@λ_ _ _ h hk q=> ?_) (@λxs ys h200 h3 hl q=> ?_) (@λX0 X1 X2 Y0 Y1 Y2 h0 hs q=> ?_) (@λw X1 X2 Y1 Y2 hw h1 hb q=> ?_) (@λw X1 X2 Y2 us ss P kk hw hH hl h200 hd h2 q=> ?_)
  ·rw[z9w hk] at q
   refine z0e (z0l H) (z0m H) (z1p _) (by exact rfl) (by kernel_rfl) ?_
   intro F m0
   refine z0N h hk ?_
   exact⟨σ,.refl _,q⟩
  ·rw[z8C (hl▸h3)] at q
   refine z0e (z0l H) (z0m H) (z1p _) (by exact rfl) (by kernel_rfl) ?_
   intro F m0
   refine z0A (z2F h200 rfl) ?_
   refine z0A (show(!decide ((xs.length:Int)=3))=true by rw[decide_eq_false (by lia)];rfl) ?_
   exact⟨σ,.refl _,q⟩
  ·rw[y1E hs] at q
   refine z0e (z0l H) (z0m H) (z1p _) (by exact rfl) (by kernel_rfl) ?_
   intro F m0
   refine Leaf.mk (fnc (z10 H h0 ?_))
   rw[z5p hs]
   exact⟨σ,.refl _,q⟩
  ·rw[y3A hb] at q
   refine z0e (z0l H) (z0m H) (z1p _) (by exact rfl) (by kernel_rfl) ?_
   intro F m0
   refine Leaf.mk (fnc (z10 H (n:=0) (.str w hw) ?_))
   cases hwv:wareV (.str w) with
   |false=>exact⟨σ,.refl _,q⟩
   |true=>
    refine z0N h1 hb ?_
    exact⟨σ,.refl _,q⟩
  ·have hq:∀b,hB es wi (f+1) ps (.tup [.str w,.lst ss,Y2])=b->∃τ,τ.Sublist σ/\Q (.bool b) τ:=λb e=>⟨σ,.refl _,e▸q⟩
   clear q h
   have hpn:((pkV ps).map (·.1)).Nodup:=by rw[z0Y];exact pb.nd
   refine z0e (z0l H) (z0m H) (z1p _) (by exact rfl) (by kernel_rfl) ?_
   intro F m0
   refine Leaf.mk (fnc (z10 H (n:=0) (.str w hw) ?_))
   cases hwv:wareV (.str w) with
   |false=>exact hq _ (y4Z g pb pi hwv)
   |true=>
   have hware:=z3u hwv
   refine z4Q (k:= .lst) hH ?_
   refine z5b hH (Nat.le_trans h200 (by decide)) ?_
   by_cases h0:ss=[]
   ·rw[hl,h0]
    exact hq _ (by rw[h0];exact z8K)
   refine z0D (y2K hl h0) ?_
   refine Leaf.mk ?_
   show AS C env ["shop","wish","granted","thing","stretches","makes","make","reason","more"] _ true _ (exec _ env) [some (.ref i),some x,some (.ref ga),some (.tup [.str w,X1,X2]),none,none,none,none,none] σ _
   refine z1e "source" ["shop","wish","granted","thing"] [("stretch_of",.ref 189)] (z11 (by rw[hsc];kernel_rfl)) (by rw[hsc];kernel_rfl) (z0a (z2g H) GL_nil) (.cons LkC.lk (.cons LkC.lk (.cons LkC.lk (.cons LkC.lk .nil)))) (z1b ?_)
   repeat' with_reducible first|refine z0n ?_|refine z0O ?_|refine z1i ?_|fail
   refine z3f (by with_unfolding_all decide) (by with_unfolding_all decide) (by with_unfolding_all exact rfl) ?_
   refine⟨us,P,hH,Nat.le_trans h200 (by decide),λenv' he=>z43 (λj acc τ=>σ=τ/\acc=(ss.take j).map λs=>optS (z1l es wi ps w s)) (z0u he (by decide+kernel)) us 0 [] none σ (λj X hX acc τ hI=> ?_) (λacc τ hI=> ?_) ⟨rfl,rfl⟩⟩
   ·rw[Nat.zero_add] at hI⊢
    obtain⟨rfl,rfl⟩:=hI
    obtain⟨Y,hY⟩:=z1V hl.symm hX
    clear ih hq
    repeat' with_reducible first|refine z0n ?_|refine z1s ?_|refine z0O ?_|refine z0H ?_|refine z1i ?_|refine z0q ?_|refine⟨z2j (by assumption),?_⟩|fail
    refine z3f (by with_unfolding_all decide) (by with_unfolding_all decide) (by with_unfolding_all exact rfl) ?_
    repeat' with_reducible first|refine z0n ?_|refine z0q ?_|refine z0v ?_|fail
    refine fnc (z3e H S hx g.ok.len hg pb pi g.nd (hd j X Y hX hY) ?_)
    exact⟨hH.p,rfl,by rw[z24 hY,List.map_append];rfl⟩
   rw[Nat.zero_add] at hI
   obtain⟨rfl,rfl⟩:=hI
   rw[hl,List.take_length]
   with_reducible refine z2t ?_
   clear hsc hd hH
   refine Leaf.mk (y0T (.lst _) z9O (z0i ?_))
   rw[y2n]
   cases hn:ss.any λs=>(z1l es wi ps w s).isNone with
   |true=>exact hq _ (z7h (z7A hn))
   |false=>
   obtain⟨st,hst,est⟩:=y1l hn
   rw[est]
   have hstl:st.length<=200:=by rw[srcs_len hst,<-hl];exact h200
   have hBe:=z80 (f:=f) (c:=Y2) hst h0
   refine Leaf.mk (fnc (z5S H S hware hstl ?_))
   have hgm:∀m∈lfF es w st,∃ns,(m,ns)∈es w:=λm hm=>y09 hm
   have hgl:(lfF es w st).length<=8:=z8H g
   generalize lfF es w st=gs at hBe hgm hgl
   have hgs:∀m∈gs,1<=m/\m<=999:=λm hm=>by obtain⟨ns,h⟩:=hgm m hm;exact(g.mb w _ h).2
   clear est hn hst hstl hl h200 hwv
   refine z3m (α:=Unit) (λ_=>brR Y2 gs=true/\((pI ps w).isSome&& !gs.isEmpty)=false) (λ_=>[some (.ref i),some x,some (.ref ga),some (.tup [.str w,X1,X2]),some (.lst (st.map λp=> .tup [.int p.1,.int p.2])),some (.lst (gs.map V.int)),none,none,none]) σ (λK hK hR=> ?_) λ_ hP=> ?_
   ·have hno:hB es wi (f+1) ps (.tup [.str w,.lst ss,Y2])=false->∀m,K (.ret (.bool false)) m σ:=λe m=>hR _ _ _ (λe=>nomatch e) (hq _ e)
    clear hq ih S hx pi pb hR
    refine Leaf.mk (z2I H.ns hg hpn (z0i ?_))
    have hv:(vAt (pkV ps) w).isSome=(pI ps w).isSome:=by rw[z42,Option.isSome_map]
    cases hp:(pI ps w).isSome with
    |false=>
     refine z0D (hv.trans hp) ?_
     refine Leaf.mk (fnc (z2u H h2 hgs hgl ?_))
     cases hbr:brR Y2 gs with
     |false=>exact hno (by rw[hBe,hbr,Bool.false_and,Bool.and_false]) _
     |true=>exact hK () ⟨hbr,by rw[hp];rfl⟩
    |true=>
     refine z0A (hv.trans hp) ?_
     refine Leaf.mk (z0L (n:=gs.length) (.lst _) (List.length_map _) (z0z hgl (by decide)) ?_)
     by_cases hgn:gs=[]
     ·refine z0D (y4Q hgn) ?_
      refine Leaf.mk (fnc (z2u H h2 hgs hgl ?_))
      cases hbr:brR Y2 gs with
      |false=>exact hno (by rw[hBe,hbr,Bool.false_and,Bool.and_false]) _
      |true=>exact hK () ⟨hbr,by rw[hp,hgn];rfl⟩
     ·refine z0A (y5s hgn) ?_
      exact hno (by rw[hBe,hp,y5e hgn];rfl) _
   obtain⟨hbr,hcd⟩:=hP
   have hBe:hB es wi (f+1) ps (.tup [.str w,.lst ss,Y2])=goR (hB es wi f) ps w Y2:=by rw[hBe,hbr,hcd];rfl
   have hkl:tkB Y2 .lst=true:=by cases e:tkB Y2 .lst with|true=>rfl|false=>rw[z8A e] at hbr;cases hbr
   obtain⟨k2,zs,bs,P2,ek,hZ,rfl,hlz,hz200,hdz⟩:=h2.lstI hkl
   obtain rfl:k2=3*f+1:=by lia
   have hbr:brB bs gs=true:=hbr
   have hBe:hB es wi (f+1) ps (.tup [.str w,.lst ss,.lst bs])=bs.all (z6X (hB es wi f) ps w):=hBe
   clear hkl ek
   generalize some (V.lst (st.map λp=> .tup [.int p.1,.int p.2]))=a
   generalize some (V.lst (gs.map V.int))=b
   refine Leaf.mk (.mk zs P2 (HbI i x ga w X1 X2 a b (z6X (hB es wi f) ps w) bs σ) hZ (.mk (λl b h=>absurd h (Nat.not_lt_zero _)) (.refl _)) (λj X hX m τ hI QB hQB hQR=> ?_) λm τ hI=> ?_)
   ·obtain⟨gm,X',r,ns,rfl,hYb,hns,hr⟩:=y3N hbr hgm hlz hdz hX
    refine hI.casesOn @λv1 v2 v3 τ hall hsu=> ?_
    have hno:hB es wi f (z3y ps w gm) r=false->∀m τ',τ.Sublist τ'->QB (.ret (.bool false)) m τ':=λe m τ' s=>hQR _ _ _ (by
     obtain⟨τ1,s1,q⟩:=hq false (hBe.trans (List.all_eq_false.mpr ⟨_,List.mem_of_getElem? hYb,by show¬hB es wi f (z3y ps w gm) r=true;rw[e];exact Bool.false_ne_true⟩))
     exact⟨τ1,s1.trans (hsu.trans s),q⟩)
    have hyes:hB es wi f (z3y ps w gm) r=true->∀v τ',τ.Sublist τ'->QB .next [some (.ref i),some x,some (.ref ga),some (.tup [.str w,X1,X2]),a,b,some (.int gm),some X',v] τ':=λe v τ' s=>hQB _ _ (hZ.mono λp h=>(hsu.trans s).subset h).p (.mk (λl b hl hb=>by
     rcases Nat.lt_succ_iff_lt_or_eq.mp hl with h|rfl
     ·exact hall l b h hb
     ·rw[hYb] at hb;cases hb;exact e) (hsu.trans s))
    have hm:∀p∈σ,p∈τ:=λp h=>hsu.subset h
    have hg':At τ ga (dS (pkV ps)):=by obtain⟨o,h⟩:=hg;exact⟨o,hm _ h⟩
    have S':=S.frame (σ':=τ) λa _ x ⟨o,h⟩=>⟨o,hm _ h⟩
    have hx':=hx.mono hm
    have hr':=hr.mono (σ':=τ) λa x ⟨o,h⟩=>⟨o,hm _ h⟩
    clear hQB hQR hall hX hZ hq hg hBe hdz S hx hr hm hsu hbr hgm
    refine Leaf.mk (z70 H.ns hg' hpn (z0z pb.len (by decide)) λba oba hfb=> ?_)
    refine Leaf.mk (z4R hpn (z0z pb.len (by decide)) λo'=> ?_)
    rw[y0J]
    refine Leaf.mk (fnc (ih (S'.c1 _) (hx'.mono λp h=> .tail _ h) At.hd (PkB.putG g pb pi hns) (pi.put hns) (hr'.mono λa x ⟨o,h⟩=>⟨o,.tail _ h⟩) ?_))
    cases hb:hB es wi f (z3y ps w gm) r with
    |false=>exact hno hb _ _ (.cons _ (.refl _))
    |true=>exact hyes hb _ _ (.cons _ (.refl _))
   ·refine hI.casesOn @λv1 v2 v3 τ hall hsu=> ?_
    obtain⟨τ1,s1,q⟩:=hq true (hBe.trans (List.all_eq_true.mpr λb hb=>by
     obtain⟨l,hl⟩:=List.getElem?_of_mem hb
     exact hall l b (hlz▸(List.getElem?_eq_some_iff.mp hl).1) hl))
    exact⟨τ1,s1.trans hsu,q⟩
end
end
section
section
variable {C:Cx} {d:Nat} {σ:Sto} {Q:V->Sto->Prop} {i k ro:Addr} {kv rv:List (Str×Addr)} {es:Str->List (Int×List z0c)} {wi:List z0c} {ps:List (Str×Int)} {w:Str}
noncomputable def z3G(r1:Stmt)(r2:Stmt):TC:=⟨[.loc 1,.isi .lst,.tvalc,.not,.ife [.rawS r1] [],.asgD 2,.loc 1,.forL 3 [.loc 3,.isi .tup,.tvalc,.not,.mop .Or [.loc 3,.len,.psh (.int 2),.tcmpc .NotEq,.mop .Or [.loc 0,.mI 310 "has",.loc 3,.subT 0,.loc 3,.subT 1,.meth (.ref 272) 2,.tvalc,.not,.mop .Or [.loc 3,.subT 0,.loc 2,.tcmpc .In,.mop .Or [.psh (.bool false)]]]],.ife [.rawS r2] [],.loc 3,.subT 1,.loc 2,.loc 3,.subT 0,.setI],.loc 2,.ret],[.inl r1,.inl r2],[([0,0,0],none),([2,0,0,0,0],none)]⟩
--z3G 2
noncomputable def t_holds:TC:=⟨[.loc 1,.call (.ref 154) 1,.pop,.loc 0,.loc 1,.loc 0,.loc 2,.call (.ref 175) 2,.loc 3,.call (.ref 206) 4,.ret],[],[]⟩
--t_holds 0
inductive GoI(i:Addr)(x:V)(ga:Addr)(ps:List (Str×Int))(σ:Sto)(j:Nat):Loc->Sto->Prop
 |mk {o:Obj} {v:Option V}:GoI i x ga ps σ j [some (.ref i),some x,some (.ref ga),v] ((ga,o,dS (pkV (ps.take j)))::σ)
theorem y4K(h1:((es w).map (·.1)).Nodup){mk:Int}{ns:List z0c}(h:(mk,ns)∈es w):(vAt (esV (es w)) mk).isSome=true:=by
 have:vAt (esV (es w)) mk=some _:=z0X (by rw[show(esV (es w)).map (·.1)=(es w).map (·.1) by unfold esV;rw[List.map_map];rfl];exact h1) (List.mem_map.mpr ⟨_,h,rfl⟩)
 rw[this];rfl
theorem z9x{j:Nat}{p:Str×Int}(pb:PkB ps)(h:ps[j]? =some p):p.1∉(ps.take j).map (·.1)/\ps.take (j+1)=ps.take j++[p]:=by
 have e:=List.take_add_one (l:=ps) (i:=j)
 rw[h] at e
 refine⟨λhm=> ?_,e⟩
 have:=pb.nd
 rw[<-List.take_append_drop (j+1) ps,e,List.map_append,List.map_append] at this
 exact(List.nodup_append.mp (List.nodup_append.mp this).1).2.2 _ hm _ (List.mem_singleton.mpr rfl) rfl
theorem y1W(ps:List (Str×Int))(w:Str)(mk:Int):pkV (ps++[(w,mk)])=pkV ps++[(w,.int mk)]:=by unfold pkV;rw[List.map_append];rfl
theorem z6M(H:G1 C)(S:Shp σ i k kv es)(pb:PkB ps)(pi:PkIn es ps){x:V}{Px:Sto->Prop}(hx:Has σ x (.list (ps.map prV)) Px)(q:∀a o,Fresh σ a->Q (.ref a) ((a,o,dS (pkV ps))::σ)):CW C (d+3) (.ref 175) [.ref i,x] σ Q:=by
 refine z0G (G1.kin (by assumption)) ["shop","pairs","found","pair"] [("isinstance",.bi "isinstance"),("list",.type "list"),("BadPick",.ref 121),("tuple",.type "tuple"),("len",.bi "len")] (by kernel_rfl) (vs2 λ_ _=>by kernel_rfl) rfl (z0a (z0k (by assumption)) (z0a (z0T (by assumption)) (z0a (z95 (by assumption)) (z0a (z1h (by assumption)) (z0a (z0Q (by assumption)) GL_nil))))) ?_
 intro env hsc
 clear hsc
 refine z0e (z0l H) (z0m H) (z3G _ _) (by exact rfl) (by kernel_rfl) ?_
 intro F m0
 refine z4Q (k:= .lst) hx ?_
 intro ga oga hfg
 have hx1:Has ((ga,oga,.dict [])::σ) x (.list (ps.map prV)) Px:=hx.mono λp h=> .tail _ h
 refine Leaf.mk (.mk _ _ (GoI i x ga ps σ) hx1 .mk (λj X hX m τ hI QB hQB hQR=> ?_) λm τ hI=> ?_)
 ·rw[List.getElem?_map] at hX
  obtain⟨⟨w,mk⟩,hp,e⟩:=Option.map_eq_some_iff.mp hX
  obtain rfl:V.tup [.str w,.int mk]=X:=e
  have hmem:=List.mem_of_getElem? hp
  obtain⟨ok1,ok2,ok3⟩:Ware w/\1<=mk/\mk<=999:=pb.ok _ hmem
  obtain⟨ns,hns⟩:∃ns,(mk,ns)∈es w:=pi _ hmem
  obtain⟨hnew,htk⟩:=z9x pb hp
  refine hI.casesOn @λo1 v=> ?_
  have hyes:∀o',QB .next [some (.ref i),some x,some (.ref ga),some (.tup [.str w,.int mk])] ((ga,o',dS (pkV (ps.take j)++[(w,.int mk)]))::σ):=λo'=>hQB _ _ (hx.mono λp h=> .tail _ h).p (by
   have:=GoI.mk (i:=i) (x:=x) (ga:=ga) (ps:=ps) (σ:=σ) (j:=j+1) (o:=o') (v:=some (.tup [.str w,.int mk]))
   rw[htk,y1W] at this
   exact this)
  have pt:PkB (ps.take j):=pb.sub (List.take_sublist _ _)
  have hpn:((pkV (ps.take j)).map (·.1)).Nodup:=by rw[z0Y];exact pt.nd
  have hnv:w∉(pkV (ps.take j)).map (·.1):=by rw[z0Y];exact hnew
  have hh:=y4K (S.eok w).1 hns
  have hv:(vAt (pkV (ps.take j)) w).isSome=false:=by rw[z1k hnv];rfl
  obtain⟨dx,hin⟩:=S.inst
  clear hQB hQR hX hx hx1 q htk hnew pb pi hmem hp
  refine Leaf.mk (z0I (hin.cons _) (by decide+kernel) ?_)
  refine Leaf.mk (fnc (z85 H (S.c1 _) ok1 ok2 ok3 ?_))
  refine z0D (show(!(vAt (esV (es w)) mk).isSome)=false by rw[hh];rfl) ?_
  refine Leaf.mk (z2I H.ns At.hd hpn (z0i ?_))
  refine z0D hv ?_
  refine Leaf.mk (z4R hpn (z0z pt.len (by decide)) λo'=> ?_)
  rw[z1w hnv]
  exact hyes o'
 ·refine hI.casesOn @λo1 v=> ?_
  rw[List.length_map,List.take_length]
  exact q _ _ hfg
theorem y27(H:G1 C)(g:Gr es wi)(f:Nat)(S:Shp σ i k kv es){x y:V}{Px Py:Sto->Prop}(hx:Has σ x (.list (wi.map z0h)) Px)(pb:PkB ps)(pi:PkIn es ps)(hy:Has σ y (.list (ps.map prV)) Py){v t:V}(h:Dn σ (3*f) v t)(q:Q (.bool (hB es wi f ps t)) σ):CW C (d+f+7) (.ref 213) [.ref i,x,y,v] σ Q:=by
 refine z03 ?_
 refine z0G (G1.kin (by assumption)) ["shop","wish","pairs","thing"] [("need_wish",.ref 154),("holds_by",.ref 206),("granted_of",.ref 175)] (by kernel_rfl) (vs4 λ_ _ _ _=>by kernel_rfl) rfl (z0a (z4q (by assumption)) (z0a (z3o (by assumption)) (z0a (z7c (by assumption)) GL_nil))) ?_
 intro env hsc
 clear hsc
 refine z0e (z0l H) (z0m H) t_holds rfl (by kernel_rfl) ?_
 intro F m0
 refine Leaf.mk (fnc (z4x H hx g.ok ?_))
 refine Leaf.mk (fnc (z6M H S pb pi hy λa o hf=> ?_))
 refine Leaf.mk (fnc (z8W H g f (S.c1 _) (hx.mono λp h=> .tail _ h) At.hd pb pi (h.mono λa x ⟨o,h⟩=>⟨o,.tail _ h⟩) ?_))
 exact⟨σ,.cons _ (.refl _),q⟩
end
end
section
section
variable {C:Cx} {d:Nat} {σ:Sto} {Q:V->Sto->Prop} {i k ro:Addr} {kv rv:List (Str×Addr)} {es:Str->List (Int×List z0c)} {wi:List z0c} {ps:List (Str×Int)} {w:Str}
noncomputable def t__law_holds_1:TC:=⟨[.loc 8,.isi .tup,.tvalc,.not,.mop .Or [.loc 8,.len,.psh (.int 2),.tcmp .NotEq,.mop .Or [.loc 8,.subT 0,.isi .bool,.tvalc,.mop .Or [.loc 8,.subT 0,.loc 7,.tcmp .NotEq,.mop .Or [.psh (.bool false)]]]],.ife [.psh (.bool false),.ret] [],.loc 2,.call (.type "dict") 1,.asg 9,.loc 7,.loc 9,.loc 3,.subT 0,.setI,.loc 0,.loc 1,.loc 9,.loc 8,.subT 1,.call (.ref 383) 4,.tvalc,.not,.ife [.psh (.bool false),.ret] []],[],[]⟩
--t__law_holds_1 0
noncomputable def z01(r1:Stmt)(r2:Stmt):TC:=⟨[.loc 3,.isi .tup,.tvalc,.not,.mop .Or [.loc 3,.len,.psh (.int 3),.tcmpc .NotEq,.mop .Or [.loc 3,.subT 0,.isi .str,.tvalc,.not,.mop .Or [.psh (.bool false)]]],.ife [.psh (.bool false),.ret] [],.loc 3,.subT 1,.isi .lst,.tvalc,.not,.mop .Or [.loc 3,.subT 1,.lst 0,.tcmp .Eq,.mop .Or [.loc 3,.subT 2,.isi .lst,.tvalc,.not,.mop .Or [.psh (.bool false)]]],.ife [.psh (.bool false),.ret] [],.loc 0,.mty "dict",.loc 3,.subT 0,.dic,.meth (.bi "dict.get") 2,.call (.bi "sorted") 1,.psh .none,.psh .none,.psh (.int 1),.una .USub,.slc,.sub,.asg 4,.loc 3,.subT 1,.forL 5 [.loc 0,.loc 1,.loc 2,.loc 3,.subT 0,.loc 5,.call (.ref 378) 5,.asg 6,.loc 6,.psh .none,.tcmpc .Is,.ife [.psh (.bool false),.ret] [],.rawS r1],.cut [.loc 4,.len,.loc 3,.subT 2,.len,.tcmpc .NotEq,.mop .Or [.loc 4,.lst 0,.tcmpc .NotEq,.mop .And [.loc 3,.subT 0,.loc 2,.tcmpc .In,.mop .And [.psh (.bool true)]],.mop .Or [.psh (.bool false)]],.ife [.psh (.bool false),.ret] []],.rawS r2,.psh (.bool true),.ret],[.inl r1,.inl r2],[([3,0,2],none),([5],none)]⟩
--z01 2
inductive HlI(ro:Addr)(x:V)(ga:Addr)(w:Str)(X1 X2:V)(es:Str->List (Int×List z0c))(wi:List z0c)(ps:List (Str×Int))(ss:List V)(σ:Sto)(j:Nat):Loc->Sto->Prop
 |mk {st:List (Int×Int)} {v5 v6:Option V}:z1R es wi ps w (ss.take j)=some st->HlI ro x ga w X1 X2 es wi ps ss σ j [some (.ref ro),some x,some (.ref ga),some (.tup [.str w,X1,X2]),some (.lst ((lfF es w st).map V.int)),v5,v6,none,none,none] σ
inductive HmI(ro:Addr)(x:V)(ga:Addr)(w:Str)(X1 X2:V)(a b c:Option V)(g:V->Bool)(bs:List V)(gs:List Int)(σ:Sto)(j:Nat):Loc->Sto->Prop
 |mk {v1 v2 v3:Option V} {τ:Sto}:(∀(l:Nat) b k,l<j->bs[l]? =some b->gs[l]? =some k->z3v b k=true/\g b=true)->σ.Sublist τ->HmI ro x ga w X1 X2 a b c g bs gs σ j [some (.ref ro),some x,some (.ref ga),some (.tup [.str w,X1,X2]),a,b,c,v1,v2,v3] τ
noncomputable def inB(p:Int×Int)(X:V):Bool:=match X with
 | .int m=>decide (p.1<=m)&&decide (m<=p.2)
 |_=>false
theorem z5r{ya yb:V}{k:Int}:z3v (.tup [ya,yb]) k=isI ya k:=by cases ya<;>rfl
theorem y4u{ya:V}{k:Int}(h:isI ya k=true):ya= .int k:=by
 cases ya<;>first|cases h|exact congrArg V.int (of_decide_eq_true h)
theorem y1Q{l:List Int}{p:Int×Int}:((l.map V.int).filter (inB p)).map id=(l.filter λm=>decide (p.1<=m)&&decide (m<=p.2)).map V.int:=by
 rw[List.map_id,List.filter_map];rfl
set_option tactic.hygienic true in
theorem z32(H:G1 C)(g:Gr es wi)(f:Nat):∀{σ:Sto} {Q:V->Sto->Prop} {ps:List (Str×Int)} {x:V} {Px:Sto->Prop} {ga:Addr} {v t:V},Rw σ ro rv es->Has σ x (.list (wi.map z0h)) Px->At σ ga (dS (pkV ps))->PkB ps->PkIn es ps->Dn σ (3*f) v t->Q (.bool (hB es wi f ps t)) σ->CW C (d+f+4) (.ref 383) [.ref ro,x,.ref ga,v] σ Q:=by
 induction f with
 |zero=>
  intro σ Q ps x Px ga v t S hx hg pb pi h q
  have h:Dn σ 0 v t:=h
  have hk:tkB t .tup=false:=by cases h<;>rfl
  refine z0G (G1.kin (by assumption)) ["_law_rows_here","_law_wish_here","_law_granted_here","_law_thing","_law_left","_law_source_here","_law_stretch_here","_law_make","_law_branch","_law_beside"] [("isinstance",.bi "isinstance"),("tuple",.type "tuple"),("len",.bi "len"),("str",.type "str"),("list",.type "list"),("sorted",.bi "sorted"),("_law_source",.ref 378),("zip",.type "zip"),("bool",.type "bool"),("dict",.type "dict"),("_law_holds",.ref 383)] (by kernel_rfl) (vs4 λ_ _ _ _=>by kernel_rfl) rfl (z0a (z0k (by assumption)) (z0a (z1h (by assumption)) (z0a (z0Q (by assumption)) (z0a (z5o (by assumption)) (z0a (z0T (by assumption)) (z0a (z2G (by assumption)) (z0a (z3b (by assumption)) (z0a (y1H (by assumption)) (z0a (z3p (by assumption)) (z0a (z2S (by assumption)) (z0a (z2n (by assumption)) GL_nil))))))))))) ?_
  intro env hsc
  clear hsc
  refine z0e (z0l H) (z0m H) (z01 _ _) (by exact rfl) (by kernel_rfl) ?_
  intro F m0
  refine z0N h hk ?_
  exact q
 |succ f ih=>
  intro σ Q ps x Px ga v t S hx hg pb pi h q
  refine z03 ?_
  refine z0G (G1.kin (by assumption)) ["_law_rows_here","_law_wish_here","_law_granted_here","_law_thing","_law_left","_law_source_here","_law_stretch_here","_law_make","_law_branch","_law_beside"] [("isinstance",.bi "isinstance"),("tuple",.type "tuple"),("len",.bi "len"),("str",.type "str"),("list",.type "list"),("sorted",.bi "sorted"),("_law_source",.ref 378),("zip",.type "zip"),("bool",.type "bool"),("dict",.type "dict"),("_law_holds",.ref 383)] (by kernel_rfl) (vs4 λ_ _ _ _=>by kernel_rfl) rfl (z0a (z0k (by assumption)) (z0a (z1h (by assumption)) (z0a (z0Q (by assumption)) (z0a (z5o (by assumption)) (z0a (z0T (by assumption)) (z0a (z2G (by assumption)) (z0a (z3b (by assumption)) (z0a (y1H (by assumption)) (z0a (z3p (by assumption)) (z0a (z2S (by assumption)) (z0a (z2n (by assumption)) GL_nil))))))))))) ?_
  intro env hsc
  have h:Dn σ ((3*f+2)+1) v t:=h
  have q:∃τ,τ.Sublist σ/\Q (.bool (hB es wi (f+1) ps t)) τ:=⟨σ,.refl _,q⟩
  have th:=h.th
  clear h
  revert q
  refine th.casesOn (@λ_ _ _ h hk q=> ?_) (@λxs ys h200 h3 hl q=> ?_) (@λX0 X1 X2 Y0 Y1 Y2 h0 hs q=> ?_) (@λw X1 X2 Y1 Y2 hw h1 hb q=> ?_) (@λw X1 X2 Y2 us ss P kk hw hH hl h200 hd h2 q=> ?_)
  ·rw[z9w hk] at q
   refine z0e (z0l H) (z0m H) (z01 _ _) (by exact rfl) (by kernel_rfl) ?_
   intro F m0
   refine z0N h hk ?_
   exact q
  ·rw[z8C (hl▸h3)] at q
   refine z0e (z0l H) (z0m H) (z01 _ _) (by exact rfl) (by kernel_rfl) ?_
   intro F m0
   refine z0A (z2F h200 rfl) ?_
   refine z0A (show(!decide ((xs.length:Int)=3))=true by rw[decide_eq_false (by lia)];rfl) ?_
   exact q
  ·rw[y1E hs] at q
   refine z0e (z0l H) (z0m H) (z01 _ _) (by exact rfl) (by kernel_rfl) ?_
   intro F m0
   refine z0N h0 hs ?_
   exact q
  ·rw[y3A hb] at q
   refine z0e (z0l H) (z0m H) (z01 _ _) (by exact rfl) (by kernel_rfl) ?_
   intro F m0
   refine z0N h1 hb ?_
   exact q
  ·clear h
   have hq:∀b,hB es wi (f+1) ps (.tup [.str w,.lst ss,Y2])=b->∃τ,τ.Sublist σ/\Q (.bool b) τ:=λb e=>e▸q
   clear q
   have hpn:((pkV ps).map (·.1)).Nodup:=by rw[z0Y];exact pb.nd
   have hrn:((kvV rv).map (·.1)).Nodup:=by rw[z0x];exact S.rwn
   have hro:=S.rows
   refine z0e (z0l H) (z0m H) (z01 _ _) (by exact rfl) (by kernel_rfl) ?_
   intro F m0
   refine z4Q (k:= .lst) hH ?_
   refine Leaf.mk (y0B hH (z0i ?_))
   by_cases h0:ss=[]
   ·have e0:us=[]:=List.length_eq_zero_iff.mp (by rw[hl,h0];rfl)
    rw[e0]
    exact hq _ (by rw[h0];exact z8K)
   have e0:us.isEmpty=false:=by cases us with|nil=>exact absurd (List.length_eq_zero_iff.mp hl.symm) h0|cons=>rfl
   refine z0D e0 ?_
   refine z0N (k:= .lst) h2 rfl ?_
   cases hkl:tkB Y2 .lst with
   |false=>exact hq _ (z9v hkl)
   |true=>
   refine Leaf.mk ⟨tyD hro,?_⟩
   intro b ob hfb
   have hsu:σ.Sublist ((b,ob,AO.dict [])::σ):=List.sublist_cons_self _ _
   have hbd:At ((b,ob,AO.dict [])::σ) b (.dict []):=At.hd
   generalize (b,ob,AO.dict [])::σ=τ at hsu hbd⊢
   have hm:∀p∈σ,p∈τ:=λp h=>hsu.subset h
   have hma:∀a x,At σ a x->At τ a x:=λa x h=>by obtain⟨o,h⟩:=h;exact⟨o,hm _ h⟩
   have hq:∀b,hB es wi (f+1) ps (.tup [.str w,.lst ss,Y2])=b->∃τ',τ'.Sublist τ/\Q (.bool b) τ':=λb e=>by
    obtain⟨τ',s,q⟩:=hq b e;exact⟨τ',s.trans hsu,q⟩
   have S:Rw τ ro rv es:=S.frame λa _ x h=>hma a x h
   have hro:=hma _ _ hro
   have hx:=hx.mono hm
   have hg:=hma _ _ hg
   have hH:=hH.mono hm
   have hd:∀(j:Nat) X Y,us[j]? =some X->ss[j]? =some Y->Dn τ kk X Y:=λj X Y h1 h2=>(hd j X Y h1 h2).mono hma
   have h2:=h2.mono hma
   clear hm hma hsu hfb
   refine Leaf.mk (z4I H.ns hro hrn ?_)
   obtain⟨c,hc,hat⟩:=y2V S w hbd
   rw[hc]
   refine Leaf.mk (z2W H.ns hat (by rw[z0s];exact g.nd w) (Nat.lt_of_le_of_lt (by unfold esV;rw[List.length_map];exact g.l8 w) (by decide)) (.inl ?_))
   refine Leaf.mk (z4B ?_)
   refine Leaf.mk (z0B (.lst _) .none .none (.int _) (by decide) (Nat.le_trans (by rw[List.length_map,(z0C _).length_eq,z0s,List.length_map];exact g.l8 w) (by decide:8<=sizeLine)) (z0Z ?_))
   rw[z9B,<-List.map_reverse,z0s,show(z1a ((es w).map (·.1))).reverse=lfF es w [] from(List.filter_eq_self.mpr λm _=>rfl).symm]
   clear hc hat c hbd hro hrn
   obtain⟨k2,zs,bs,P2,ek,hZ,eY,hlz,hz200,hdz⟩:=h2.lstI hkl
   obtain rfl:k2=3*f+1:=by lia
   have hq:∀b,hB es wi (f+1) ps (.tup [.str w,.lst ss,.lst bs])=b->∃τ',τ'.Sublist τ/\Q (.bool b) τ':=λb e=>hq b (eY▸e)
   clear h2 hkl ek eY
   refine Leaf.mk (.mk us P (HlI ro x ga w X1 X2 es wi ps ss τ) hH (.mk (st:=[]) rfl) (λj X hX m τ' hI QB hQB hQR=> ?_) λm τ' hI=> ?_)
   ·obtain⟨Y,hY⟩:=z1V hl.symm hX
    refine hI.casesOn @λst v5 v6 hst=> ?_
    have hds:=hd j X Y hX hY
    have hgl:(lfF es w st).length<=8:=z8H g
    have hno:z1l es wi ps w Y=none->∀m,QB (.ret (.bool false)) m τ:=λe m=>hQR _ _ _ (hq _ (z7h (z7A (List.any_eq_true.mpr ⟨Y,List.mem_of_getElem? hY,by rw[e];rfl⟩))))
    have hyes:∀p,z1l es wi ps w Y=some p->QB .next [some (.ref ro),some x,some (.ref ga),some (.tup [.str w,X1,X2]),some (.lst ((lfF es w (st++[p])).map V.int)),some X,some (.tup [.int p.1,.int p.2]),none,none,none] τ:=λp e=>hQB _ _ hH.p (.mk (st:=st++[p]) (by rw[z24 hY,srcs_snoc,hst,e];rfl))
    clear hQB hQR hX hZ hq hd hdz hst hY ih
    refine Leaf.mk (fnc (z45 H S hx g.ok.len hg pb pi hds ?_))
    cases hs:z1l es wi ps w Y with
    |none=>exact hno hs _
    |some p=>
     have hyes:=hyes p hs
     rw[y2N] at hyes
     clear hno hs
     refine Leaf.mk ?_
     show AS C env ["_law_rows_here","_law_wish_here","_law_granted_here","_law_thing","_law_left","_law_source_here","_law_stretch_here","_law_make","_law_branch","_law_beside"] _ true _ (exec _ env) [some (.ref ro),some x,some (.ref ga),some (.tup [.str w,X1,X2]),some (.lst ((lfF es w st).map V.int)),some X,some (.tup [.int p.1,.int p.2]),none,none,none] _ _
     refine z1e "_law_make" ["_law_stretch_here"] [] (z11 (by rw[hsc];kernel_rfl)) (by rw[hsc];kernel_rfl) GL_nil (.cons LkC.lk .nil) (z1b ?_)
     repeat' with_reducible first|refine z0n ?_
     refine⟨_,_,.lst _,z0z (n:=8) hgl (by decide),λenv' he=>z1z (f:=id) (t:=inB p) (z0u he (by decide+kernel)) trivial _ _ _ (λX hX K hK=> ?_) (λX hX _ K hK=> ?_) ?_⟩
     ·obtain⟨mk,_,rfl⟩:=List.mem_map.mp hX
      have hK:K (decide (p.1<=mk)&&decide (mk<=p.2)) _:=hK
      clear hyes
      repeat' with_reducible first|refine z0n ?_|refine z0O ?_|refine z1i ?_|refine y5A ?_|refine z9i ?_|refine z0i ?_|(refine⟨_,z1N,λ_=> ?_,λ_=> ?_⟩<;>try (exfalso;rename_i hb;revert hb;simp[V.isNone];done))|refine z3f (by with_unfolding_all decide) (by with_unfolding_all decide) (by with_unfolding_all exact rfl) ?_
      all_goals (rename_i hb;rw[hb] at hK;exact hK)
     ·clear hyes
      repeat' with_reducible first|refine z0n ?_
      exact hK
     rw[List.nil_append,y1Q]
     with_reducible refine z2t ?_
     exact hyes
   refine hI.casesOn @λst v5 v6 hst=> ?_
   rw[hl,List.take_length] at hst
   clear hsc hd hH hl h200
   have hBe:=z80 (f:=f) (c:= .lst bs) hst h0
   have hgm:∀m∈lfF es w st,∃ns,(m,ns)∈es w:=λm hm=>y09 hm
   have hgl:(lfF es w st).length<=8:=z8H g
   generalize lfF es w st=gs at hBe hgm hgl
   clear hst
   have hgz:(gs.map V.int).length=gs.length:=List.length_map _
   generalize v5=a5
   generalize v6=a6
   refine z3m (α:=Unit) (λ_=>gs.length=bs.length/\((pI ps w).isSome&& !gs.isEmpty)=false) (λ_=>[some (.ref ro),some x,some (.ref ga),some (.tup [.str w,X1,X2]),some (.lst (gs.map V.int)),a5,a6,none,none,none]) τ (λK hK hR=> ?_) λ_ hP=> ?_
   ·have hno:hB es wi (f+1) ps (.tup [.str w,.lst ss,.lst bs])=false->∀m,K (.ret (.bool false)) m τ:=λe m=>hR _ _ _ (λe=>nomatch e) (hq _ e)
    clear hq ih S hx pi pb hR
    refine Leaf.mk (z0L (n:=gs.length) (.lst _) hgz (z0z hgl (by decide)) ?_)
    refine z5b hZ (Nat.le_trans hz200 (by decide)) ?_
    by_cases hle:gs.length=bs.length
    ·refine z0D (show(!decide ((gs.length:Int)=(zs.length:Int)))=false by rw[decide_eq_true (by rw[hlz,hle])];rfl) ?_
     refine Leaf.mk (z4c (.lst _) (z0i ?_))
     have e2:(gs.map V.int).isEmpty=gs.isEmpty:=by cases gs<;>rfl
     cases hge:gs.isEmpty with
     |true=>
      refine z0D (show(!(gs.map V.int).isEmpty)=false by rw[e2,hge];rfl) ?_
      exact hK () ⟨hle,by rw[hge];exact Bool.and_false _⟩
     |false=>
      refine z0A (show(!(gs.map V.int).isEmpty)=true by rw[e2,hge];rfl) ?_
      refine Leaf.mk (z2I H.ns hg hpn (z0i ?_))
      have hv:(vAt (pkV ps) w).isSome=(pI ps w).isSome:=by rw[z42,Option.isSome_map]
      cases hp:(pI ps w).isSome with
      |true=>
       refine z0A (hv.trans hp) ?_
       exact hno (by rw[hBe,hp,hge];rfl) _
      |false=>
       refine z0D (hv.trans hp) ?_
       exact hK () ⟨hle,by rw[hp];rfl⟩
    ·refine z0A (show(!decide ((gs.length:Int)=(zs.length:Int)))=true by rw[decide_eq_false (by rw[hlz];lia)];rfl) ?_
     exact hno (by rw[hBe,show brR (.lst bs) gs=brB bs gs from rfl,z73 (λe=>hle e.symm),Bool.false_and,Bool.and_false]) _
   obtain⟨hle,hcd⟩:=hP
   have hBe:hB es wi (f+1) ps (.tup [.str w,.lst ss,.lst bs])=(brB bs gs&&bs.all (z6X (hB es wi f) ps w)):=by rw[hBe,hcd];rfl
   refine Leaf.mk ?_
   show AS C env ["_law_rows_here","_law_wish_here","_law_granted_here","_law_thing","_law_left","_law_source_here","_law_stretch_here","_law_make","_law_branch","_law_beside"] _ true _ (exec _ env) [some (.ref ro),some x,some (.ref ga),some (.tup [.str w,X1,X2]),some (.lst (gs.map V.int)),a5,a6,none,none,none] _ _
   refine y17 (HmI ro x ga w X1 X2 (some (.lst (gs.map V.int))) a5 a6 (z6X (hB es wi f) ps w) bs gs τ) (y1t ?_)
   show AT C env _ _ true _ (eval _ env) [some (.ref ro),some x,some (.ref ga),some (.tup [.str w,X1,X2]),some (.lst (gs.map V.int)),a5,a6,none,none,none] _ _
   with_reducible refine z1s ?_
   refine⟨rfl,?_⟩
   show AL C env _ _ true _ (spliced (backTo _ (starEach _ env))) [some (.ref ro),some x,some (.ref ga),some (.tup [.str w,X1,X2]),some (.lst (gs.map V.int)),a5,a6,none,none,none] _ _
   repeat' with_reducible first|refine z0n ?_|refine z0O ?_|refine z1i ?_|refine z0q ?_|refine z0v ?_|refine z3f (by with_unfolding_all decide) (by with_unfolding_all decide) (by with_unfolding_all exact rfl) ?_
   refine⟨_,_,_,_,_,_,rfl,.lst _,hZ,.mk (λl b k h=>absurd h (Nat.not_lt_zero _)) (.refl _),λj X hX m τ' hI QB hQB hQR=> ?_,λm τ' hI=> ?_⟩
   ·obtain⟨Z,Xb,hZ',hXb,rfl⟩:=z6x hX
    refine hI.casesOn @λv7 v8 v9 τ' hall hsu=> ?_
    rw[List.getElem?_map] at hZ'
    obtain⟨gm,hge,rfl⟩:=Option.map_eq_some_iff.mp hZ'
    obtain⟨Yb,hYb⟩:=z1V hlz.symm hXb
    obtain⟨ns,hns⟩:=hgm gm (List.mem_of_getElem? hge)
    have hno1:z3v Yb gm=false->∀m,QB (.ret (.bool false)) m τ':=λe m=>hQR _ _ _ (by
     obtain⟨τ1,s1,q⟩:=hq false (by rw[hBe,y0y hYb hge e,Bool.false_and])
     exact⟨τ1,s1.trans hsu,q⟩)
    have hno2:z6X (hB es wi f) ps w Yb=false->∀m τ2,τ'.Sublist τ2->QB (.ret (.bool false)) m τ2:=λe m τ2 s=>hQR _ _ _ (by
     obtain⟨τ1,s1,q⟩:=hq false (by rw[hBe,List.all_eq_false.mpr ⟨_,List.mem_of_getElem? hYb,by rw[e];exact Bool.false_ne_true⟩,Bool.and_false])
     exact⟨τ1,s1.trans (hsu.trans s),q⟩)
    have hyes:z3v Yb gm=true->z6X (hB es wi f) ps w Yb=true->∀v τ2,τ'.Sublist τ2->QB .next [some (.ref ro),some x,some (.ref ga),some (.tup [.str w,X1,X2]),some (.lst (gs.map V.int)),a5,a6,some (.int gm),some Xb,v] τ2:=λe1 e2 v τ2 s=>hQB _ _ ⟨trivial,(hZ.mono λp h=>(hsu.trans s).subset h).p⟩ (.mk (λl b k hl hb hk=>by
     rcases Nat.lt_succ_iff_lt_or_eq.mp hl with h|rfl
     ·exact hall l b k h hb hk
     ·rw[hYb] at hb;cases hb;rw[hge] at hk;cases hk;exact⟨e1,e2⟩) (hsu.trans s))
    have hm:∀p∈τ,p∈τ':=λp h=>hsu.subset h
    have hma:∀a x,At τ a x->At τ' a x:=λa x h=>by obtain⟨o,h⟩:=h;exact⟨o,hm _ h⟩
    have hdb:=(hdz j _ _ hXb hYb).mono hma
    have S':Rw τ' ro rv es:=S.frame λa _ x h=>hma a x h
    have hx':=hx.mono hm
    have hg':=hma _ _ hg
    clear hQB hQR hall hX hZ' hZ hq hBe hdz hsu hm hma hgm hYb hXb hge hcd hle S hx hg
    with_reducible refine y0i ?_
    with_reducible refine z0w PutC.put ?_
    with_reducible refine z0w PutC.put ?_
    refine z0e (z0l H) (z0m H) t__law_holds_1 rfl (by kernel_rfl) ?_
    intro F m0
    cases hk:tkB Yb .tup with
    |false=>
     refine z0N hdb hk ?_
     exact hno1 (z9r hk) _
    |true=>
     obtain⟨m2,us2,ys2,e3,rfl,rfl,hl2,h2002,hd2⟩:=hdb.tupI hk
     by_cases h2:us2.length=2
     ·obtain⟨a,b,rfl⟩:=z3H h2
      obtain⟨ya,yb,rfl⟩:=z3H (hl2▸h2)
      have hda:=hd2 0 _ _ rfl rfl
      have hdc:Dn τ' (3*f) b yb:=by have:=hd2 1 _ _ rfl rfl;cases e3;exact this
      clear hdb hk hl2 h2002 hd2 h2 e3
      refine Leaf.mk (y0P (z0i ?_))
      refine z0N (k:= .bool) hda rfl ?_
      cases hkb:tkB ya .bool with
      |true=>
       exact hno1 (by rw[z5r];cases ya<;>first|rfl|cases hkb) _
      |false=>
       refine Leaf.mk (y3i hda hkb (z0i ?_))
       cases hi:isI ya gm with
       |false=>
        exact hno1 (by rw[z5r];exact hi) _
       |true=>
        have hgo:z6X (hB es wi f) ps w (.tup [ya,yb])=hB es wi f (z3y ps w gm) yb:=by rw[y4u hi];rfl
        refine Leaf.mk (z70 H.ns hg' hpn (z0z pb.len (by decide)) λba oba hfb=> ?_)
        refine Leaf.mk (z4R hpn (z0z pb.len (by decide)) λo'=> ?_)
        rw[y0J]
        refine Leaf.mk ?_
        refine fnc (ih (S'.frame λa _ x ⟨o,h⟩=>⟨o,.tail _ h⟩) (hx'.mono λp h=> .tail _ h) At.hd (PkB.putG g pb pi hns) (pi.put hns) (hdc.mono λa x ⟨o,h⟩=>⟨o,.tail _ h⟩) ?_)
        cases hb:hB es wi f (z3y ps w gm) yb with
        |false=>
         exact hno2 (hgo.trans hb) _ _ (.cons _ (.refl _))
        |true=>
         exact hyes (by rw[z5r];exact hi) (hgo.trans hb) _ _ (.cons _ (.refl _))
     ·refine z0A (z2F h2002 rfl) ?_
      refine Leaf.mk (y0P (z0i ?_))
      refine z0A (show(!decide ((us2.length:Int)=2))=true by rw[decide_eq_false (by lia)];rfl) ?_
      exact hno1 (z7Y (hl2▸h2)) _
   ·refine hI.casesOn @λv7 v8 v9 τ' hall hsu=> ?_
    have hzl:(z7n (gs.map V.int) zs).length=bs.length:=by unfold z7n;rw[List.length_map,List.length_zip,hgz,hlz,hle,Nat.min_self]
    rw[hzl] at hall
    obtain⟨τ1,s1,q⟩:=hq true (by
     rw[hBe,z9a hle.symm λl b k hb hk=>(hall l b k (List.getElem?_eq_some_iff.mp hb).1 hb hk).1,List.all_eq_true.mpr λb hb=> ?_]
     ·rfl
     ·obtain⟨l,hl⟩:=List.getElem?_of_mem hb
      have hlt:=(List.getElem?_eq_some_iff.mp hl).1
      exact(hall l b _ hlt hl (List.getElem?_eq_getElem (hle▸hlt))).2)
    exact⟨τ1,s1.trans hsu,q⟩
end
end
section
section
variable {C:Cx} {d:Nat} {σ:Sto} {Q:V->Sto->Prop} {i k ro:Addr} {kv rv:List (Str×Addr)} {es:Str->List (Int×List z0c)} {wi:List z0c} {ps:List (Str×Int)} {w:Str}
noncomputable def t__law_told:TC:=⟨[.loc 0,.loc 1,.call (.type "list") 1,.call (.ref 244) 2,.asg 3,.loc 3,.subT 0,.psh (.str "none"),.tcmpc .Eq,.ife [.lst 0,.loc 3,.subT 1,.tup 2,.ret] [],.asgL 4,.loc 3,.subT 1,.len,.forR 5 [.loc 3,.subT 2,.loc 5,.sub,.forL2 6 7 [.loc 4,.mty "list",.loc 3,.subT 1,.psh .none,.loc 5,.psh .none,.slc,.sub,.loc 3,.subT 1,.loc 5,.sub,.subT 0,.loc 6,.tup 2,.lst 1,.binc .Add,.loc 7,.tup 2,.meth (.bi "list.append") 1,.pop]],.loc 4,.lst 0,.tcmp .Eq,.ife [.loc 3,.subT 1,.call (.type "list") 1,.psh (.str "nothing"),.psh (.str "wish"),.psh (.int 0),.tup 2,.lst 1,.lst 0,.tup 3,.tup 2,.ret] [],.loc 4,.loc 2,.loc 4,.len,.binc .Mod,.sub,.ret],[],[]⟩
--t__law_told 0
inductive RowOk(es:Str->List (Int×List z0c)):V->Prop
 |mk {ps:List (Str×Int)} {Z:V}:PkB ps->PkIn es ps->ROk 6 Z->RowOk es (.tup [.lst (ps.map prV),Z])
theorem AgsOk.at{n:Nat}{τ:Sto}{r:List (Str×Int)}{ys:List V}(h:AgsOk es n τ r ys):∀{j:Nat} {p:Str×Int},r[j]? =some p->∃(a:Addr) (as:List (Int×V)),ys[j]? =some (.ref a)/\At τ a (.list (as.map aV))/\as.length<=8/\∀q∈as,(∃ns,(q.1,ns)∈es p.1)/\ROk n q.2:=by
 induction h with
 |nil=>intro j p e;cases e
 | @cons w m a as r ys ha hl hq _ ih=>
  intro j p e
  cases j with
  |zero=>cases e;exact⟨a,as,rfl,ha,hl,hq⟩
  |succ j=>exact ih e
theorem PkB.cut(g:Gd es wi)(pb:PkB ps)(pi:PkIn es ps){j:Nat}{p:Str×Int}(h:ps[j]? =some p){mk:Int}{ns:List z0c}(hm:(mk,ns)∈es p.1):PkB (ps.take j++[(p.1,mk)])/\PkIn es (ps.take j++[(p.1,mk)]):=
 have pt:PkB (ps.take j):=pb.sub (List.take_sublist _ _)
 have pit:PkIn es (ps.take j):=λq hq=>pi q (List.mem_of_mem_take hq)
 ⟨PkB.snoc g pt pit (z9x pb h).1 hm,pit.snoc hm⟩
inductive ToI(i:Addr)(x:V)(n:Int)(fd:V)(ra:Addr)(es:Str->List (Int×List z0c))(τ0:Sto)(c:Nat)(v5:Option V):Loc->Sto->Prop
 |mk {rows:List V} {v6 v7:Option V} {τ:Sto}:At τ ra (.list rows)->rows.length<=c->(∀X∈rows,RowOk es X)->(∀p∈τ0,p∈τ)->ToI i x n fd ra es τ0 c v5 [some (.ref i),some x,some (.int n),some fd,some (.ref ra),v5,v6,v7] τ
theorem z7R(H:G1 C)(g:Gd es wi)(S:Shp σ i k kv es){x:V}{Px:Sto->Prop}(hx:Has σ x (.list (wi.map z0h)) Px){n:Int}(h0:0<=n)(q:∀ps Z σ',(∀p∈σ,p∈σ')->PkB ps->PkIn es ps->ROk 6 Z->Q (.tup [.lst (ps.map prV),Z]) σ'):CW C (d+15) (.ref 390) [.ref i,x,.int n] σ Q:=by
 refine z0G (G1.kin (by assumption)) ["_law_shop_here","_law_wish_here","_law_number","_law_found","_law_rows_here","_law_k","_law_make","_law_reason"] [("settle",.ref 244),("list",.type "list"),("range",.type "range"),("len",.bi "len")] (by kernel_rfl) (vs3 λ_ _ _=>by kernel_rfl) rfl (z0a (y1o (by assumption)) (z0a (z0T (by assumption)) (z0a (z2m (by assumption)) (z0a (z0Q (by assumption)) GL_nil)))) ?_
 intro env hsc
 clear hsc
 have h8:=g.ok.len
 refine z0e (z0l H) (z0m H) t__law_told rfl (by kernel_rfl) ?_
 intro F m0
 refine Leaf.mk (z1g hx (z0z (n:=8) h8 (by decide)) (.inl ?_))
 refine Leaf.mk (fnc (y0q H g S (.lst _) (λr ys τ hk pb pi hag=> ?_) λZ τ hk hr=> ?_))
 ·intro ra ora hfr
  have hrl:=g.l5 _ pb.nd pi
  refine Leaf.mk (z0L (n:=r.length) (.lst _) (List.length_map _) (z0z (n:=5) hrl (by decide)) ?_)
  refine Leaf.mk (.mk r.length (λj m τ'=>∃v5,ToI i x n (.tup [.str "pick",.lst (r.map prV),.lst ys]) ra es τ (8*j) v5 m τ') rfl (Nat.le_trans hrl (by decide)) ⟨_,.mk (rows:=[]) At.hd (Nat.le_refl _) (λ_ h=>by cases h) λp h=> .tail _ h⟩ (λj hj m τ' hI QB hQB hQR=> ?_) λm τ' hI=> ?_)
  ·obtain⟨v5,hI⟩:=hI
   refine hI.casesOn @λrows v6 v7 τ' hat hlen hok hkp=> ?_
   obtain⟨⟨w,mk0⟩,hp⟩:∃p,r[j]? =some p:=⟨_,List.getElem?_eq_getElem hj⟩
   obtain⟨ag,as,hya,haa,has,hq⟩:=hag.at hp
   refine Leaf.mk (z04 (.lst _) (Nat.lt_of_lt_of_le hj (Nat.le_trans hrl (by decide))) hya ?_)
   obtain⟨oa,hma⟩:=haa
   refine Leaf.mk (.mk _ _ (λl m τ'=>ToI i x n (.tup [.str "pick",.lst (r.map prV),.lst ys]) ra es τ (8*j+l) (some (.int (j:Int))) m τ') (.refL (hkp _ hma)) (.mk hat hlen hok hkp) (λl X hX m τ2 hI QB' hQB' hQR'=> ?_) λm τ2 hI=> ?_)
   ·clear hat hlen hok hkp
    refine hI.casesOn @λrows v6 v7 τ2 hat hlen hok hkp=> ?_
    rw[List.getElem?_map] at hX
    obtain⟨⟨mk,Z⟩,hz,e⟩:=Option.map_eq_some_iff.mp hX
    obtain rfl:V.tup [.int mk,Z]=X:=e
    have hla:=(List.getElem?_eq_some_iff.mp hz).1
    obtain⟨⟨ns,hns⟩,hr⟩:=hq _ (List.mem_of_getElem? hz)
    obtain⟨pb',pi'⟩:=PkB.cut g pb pi hp hns
    have hyes:∀τ3,UpdS τ2 τ3 ra (.list (rows++[.tup [.lst ((r.map prV).take j++[.tup [.str w,.int mk]]),Z]]))->QB' .next [some (.ref i),some x,some (.int n),some (.tup [.str "pick",.lst (r.map prV),.lst ys]),some (.ref ra),some (.int (j:Int)),some (.int mk),some Z] τ3:=λτ3 U=>by
     have hk3:∀p∈τ,p∈τ3:=λp hp=>U.keep p (hkp p hp) λe=>hfr _ hp e
     refine hQB' _ _ (hk3 _ hma) (.mk U.here (by rw[List.length_append];exact Nat.succ_le_succ hlen) (λX hX=> ?_) hk3)
     rcases List.mem_append.mp hX with h|h
     ·exact hok X h
     ·rw[List.mem_singleton.mp h,show(r.map prV).take j++[V.tup [.str w,.int mk]]=(r.take j++[(w,mk)]).map prV by rw[List.map_append,List.map_take];rfl]
      exact .mk pb' pi' hr
    have hrows:rows.length<=60:=by lia
    have hpv:(r.map prV)[j]? =some (.tup [.str w,.int mk0]):=by rw[List.getElem?_map,hp];rfl
    have hjl:j<=(r.map prV).length:=by rw[List.length_map];exact Nat.le_of_lt hj
    have hrz:(r.map prV).length<=5:=by rw[List.length_map];exact hrl
    clear hQB' hQR' hQB hQR hX hz hns hr pb' pi' hq hya hok hma hkp hlen hag
    refine Leaf.mk ⟨tyL hat,?_⟩
    refine Leaf.mk (z0B (.lst _) .none (.int _) .none (by decide) (z0z (n:=5) hrl (by decide)) (z0Z ?_))
    rw[z7r _ hjl]
    refine Leaf.mk (z04 (.lst _) (Nat.lt_of_lt_of_le hj (Nat.le_trans hrl (by decide))) hpv ?_)
    refine Leaf.mk (z08 (.lst _) (.lst _) (z0t (by rw[List.length_take];show min j _+1<=_;lia)) (z0Z ?_))
    refine Leaf.mk (z7Z hat (Nat.le_trans hrows (by decide)) λτ3 U=> ?_)
    exact hyes τ3 U
   ·clear hat hlen hok hkp
    refine hI.casesOn @λrows v6 v7 τ2 hat hlen hok hkp=> ?_
    rw[List.length_map] at hlen
    exact hQB _ _ ⟨_,.mk hat (by lia) hok hkp⟩
  ·obtain⟨v5,hI⟩:=hI
   refine hI.casesOn @λrows v6 v7 τ' hat hlen hok hkp=> ?_
   obtain⟨oo,hmm⟩:=hat
   refine Leaf.mk (y0B (.refL hmm) (z0i ?_))
   cases he:rows.isEmpty with
   |true=>
    refine Leaf.mk (z1g (.lst _) (z0z (n:=5) hrl (by decide)) (.inl ?_))
    exact q r _ τ' (λp h=>hkp p (hk p h)) pb pi (.mk (bs:=[]) (z3u (by decide+kernel)) (List.cons_ne_nil _ _) (by decide) (λs hs=>by rw[List.mem_singleton.mp hs];exact sr_wish) (by decide) (λ_ h=>by cases h) (λ_ h=>by cases h))
   |false=>
    have hlo:0<rows.length:=by cases rows with|nil=>cases he|cons=>exact Nat.succ_pos _
    have hhi:rows.length<=40:=by lia
    have hpos:(0:Int)<(rows.length:Int):=Int.ofNat_lt.mpr hlo
    refine Leaf.mk (z2h (.refL hmm) (Nat.le_trans hhi (by decide)) ?_)
    refine z4j hpos ?_
    have a0:=Int.fmod_nonneg_of_pos n hpos
    have a1:=Int.fmod_lt_of_pos n hpos
    generalize n.fmod (rows.length:Int)=kk at a0 a1
    have a2:kk.toNat<rows.length:=by lia
    have hro:=hok _ (List.getElem_mem a2)
    have hx:=List.getElem?_eq_getElem a2
    generalize rows[kk.toNat]=X at hro hx
    obtain⟨b1,b2,b3⟩:=hro
    refine Leaf.mk (z2l (.refL hmm) a0 (by lia) hx ?_)
    exact q _ _ τ' (λp h=>hkp p (hk p h)) b1 b2 b3
 ·exact q [] Z τ hk ⟨List.nodup_nil,by decide,λ_ h=>by cases h⟩ (λp h=>by cases h) hr
end
end
section
section
variable {C:Cx} {d:Nat} {σ:Sto} {Q:V->Sto->Prop}
noncomputable def t__law_odd_source:TC:=⟨[.loc 0,.loc 1,.psh (.int 9),.binc .FloorDiv,.loc 0,.len,.binc .Mod,.sub,.asg 2,.loc 1,.psh (.int 63),.binc .FloorDiv,.psh (.int 6),.binc .Mod,.asg 3,.psh (.str "wish"),.loc 1,.psh (.int 9),.binc .FloorDiv,.psh (.int 4),.binc .Mod,.tup 2,.psh (.str "pick"),.loc 2,.loc 3,.tup 3,.psh (.str "need"),.loc 2,.loc 3,.loc 1,.psh (.int 7),.binc .FloorDiv,.psh (.int 3),.binc .Mod,.tup 4,.lst 3,.asg 4,.loc 4,.psh (.str "wish"),.psh (.int 1),.una .USub,.tup 2,.psh (.str "wish"),.psh (.bool true),.tup 2,.psh (.str "wish"),.tup 1,.psh (.str "wish"),.psh (.int 0),.lst 2,.psh .none,.psh (.str "why"),.psh (.int 0),.tup 2,.psh (.str "pick"),.loc 2,.lst 1,.loc 3,.tup 3,.lst 7,.binc .Add,.asg 4,.loc 4,.psh (.str "need"),.dic,.loc 3,.psh (.int 0),.tup 4,.psh (.str "wish"),.psh (.int 0),.lst 1,.tup 2,.lst 2,.binc .Add,.loc 1,.psh (.int 12),.binc .Mod,.sub,.ret],[],[]⟩
--t__law_odd_source 0
noncomputable def t__law_truths_1:TC:=⟨[.loc 2,.psh (.int 0),.psh (.int 1),.tup 2,.tcmpc .In,.ife [.loc 1,.mty "list",.loc 2,.psh (.int 1),.cmpc .Eq,.meth (.bi "list.append") 1,.pop] [.loc 1,.mty "list",.loc 2,.meth (.bi "list.append") 1,.pop]],[],[]⟩
--t__law_truths_1 0
noncomputable def z3d(r1:Stmt):TC:=⟨[.asgL 1,.rawS r1,.loc 1,.call (.type "tuple") 1,.ret],[.inl r1],[([1],none)]⟩
--z3d 1
theorem z2i{n:Nat}{xs:List V}(h:∀x∈xs,Dn σ n x x)(hl:xs.length<=200):Dn σ (n+1) (.tup xs) (.tup xs):= .tup rfl hl λj X Y h1 h2=>by rw[h1] at h2;cases h2;exact h X (List.mem_of_getElem? h1)
theorem z17{n:Nat}{xs:List V}(h:∀x∈xs,Dn σ n x x)(hl:xs.length<=200):Dn σ (n+1) (.lst xs) (.lst xs):= .lst rfl hl λj X Y h1 h2=>by rw[h1] at h2;cases h2;exact h X (List.mem_of_getElem? h1)
theorem z07{n:Nat}:∀x∈([]:List V),Dn σ n x x:=λx h=>by cases h
theorem z0j{n:Nat}{y:V}{xs:List V}(h:Dn σ n y y)(t:∀x∈xs,Dn σ n x x):∀x∈y::xs,Dn σ n x x:=List.forall_mem_cons.mpr ⟨h,t⟩
theorem asc_why:Asc "why":=z4a (by decide+kernel)
theorem z3F(H:G1 C){ws:List Str}(hw:∀w∈ws,Ware w)(h0:0<ws.length)(hl:ws.length<=20){num:Int}(q:∀X σ',(∀p∈σ,p∈σ')->Dn σ' 2 X X->Q X σ'):CW C (d+1) (.ref 397) [.lst (ws.map V.str),.int num] σ Q:=by
 refine z0G (G1.kin (by assumption)) ["_law_wares","_law_number","_law_ware","_law_make","_law_some"] [("len",.bi "len")] (by kernel_rfl) (vs2 λ_ _=>by kernel_rfl) rfl (z0a (z0Q (by assumption)) GL_nil) ?_
 intro env hsc
 clear hsc
 refine z0e (z0l H) (z0m H) t__law_odd_source rfl (by kernel_rfl) ?_
 intro F m0
 refine Leaf.mk (z0L (n:=ws.length) (.lst _) (List.length_map _) (z0z hl (by decide)) ?_)
 refine z09 h0 λk hk=> ?_
 refine Leaf.mk (z04 (.lst _) (Nat.lt_of_lt_of_le hk (Nat.le_trans hl (by decide))) (show(ws.map V.str)[k]? =some (.str ws[k]) by rw[List.getElem?_map,List.getElem?_eq_getElem hk];rfl) ?_)
 have ha:=(hw _ (List.getElem_mem hk)).asc
 generalize ws[k]=w at ha⊢
 refine Leaf.mk (z4B ?_)
 refine Leaf.mk (z08 (.lst _) (.lst _) (Nat.le_of_ble_eq_true rfl) (z0Z ?_))
 intro a o hf
 refine Leaf.mk (z08 (.lst _) (.lst _) (Nat.le_of_ble_eq_true rfl) (z0Z ?_))
 refine Leaf.mk (z3T (Int.fmod_nonneg_of_pos _ (by decide)) (Int.fmod_lt_of_pos _ (by decide)) (Nat.lt_of_lt_of_le (m:=13) (Nat.le_of_ble_eq_true rfl) (by decide)) λX hX=> ?_)
 refine q X _ (λp hp=> .tail _ hp) ?_
 revert X
 refine z0j ?_ (z0j ?_ (z0j ?_ (z0j ?_ (z0j ?_ (z0j ?_ (z0j ?_ (z0j ?_ (z0j ?_ (z0j ?_ (z0j ?_ (z0j ?_ z07)))))))))))
 all_goals repeat' (with_reducible first|refine z0j ?_ ?_|exact z07|exact Dn.int _|exact Dn.bool _|exact Dn.none|exact Dn.str _ (by assumption)|exact Dn.str _ asc_wish|exact Dn.str _ asc_pick|exact Dn.str _ asc_need|exact Dn.str _ asc_why|exact Dn.dict At.hd|refine z2i ?_ (Nat.le_of_ble_eq_true rfl)|refine z17 ?_ (Nat.le_of_ble_eq_true rfl))
set_option tactic.hygienic true in
theorem z5I(H:G1 C){l:List V}(hl:l.length<=4)(hat:∀x∈l,(∃i,x= .int i)∨∃y,x= .str y/\Asc y)(q:∀zs,zs.length<=4->(∀z∈zs,Dn σ 0 z z)->Q (.tup zs) σ):CW C (d+1) (.ref 404) [.tup l] σ Q:=by
 refine z03 ?_
 refine z0G (G1.kin (by assumption)) ["_law_thing","_law_found","_law_part"] [("tuple",.type "tuple")] (by kernel_rfl) (vs1 λ_=>by kernel_rfl) rfl (z0a (z1h (by assumption)) GL_nil) ?_
 intro env hsc
 clear hsc
 refine z0e (z0l H) (z0m H) (z3d _) (by exact rfl) (by kernel_rfl) ?_
 intro F m0 a o hf
 refine Leaf.mk (y0w (λj m τ=>∃o zs v,zs.length=j/\(∀z∈zs,Dn σ 0 z z)/\τ=(a,o,.list zs)::σ/\m=[some (.tup l),some (.ref a),v]) (z8q ?_))
 show AT C env ["_law_thing","_law_found","_law_part"] _ true _ (eval _ env) [some (.tup l),some (.ref a),none] _ _
 with_reducible refine z0n ?_
 refine⟨l,rfl,⟨o,[],_,rfl,z07,rfl,rfl⟩,λj X hX m τ hI QB hQB=> ?_,λm τ hI=> ?_⟩
 ·obtain⟨o,zs,v,hz,hdn,rfl,rfl⟩:=hI
  have hj:=(List.getElem?_eq_some_iff.mp hX).1
  have hzl:zs.length<=sizeLine:=z0t (by lia)
  have hend:∀(Z:V) (o':Obj),Dn σ 0 Z Z->QB .next [some (.tup l),some (.ref a),some X] ((a,o',.list (zs++[Z]))::σ):=λZ o' hZ=>
   hQB _ _ trivial ⟨o',zs++[Z],_,by rw[List.length_append,hz];rfl,λz h=>by
    rcases List.mem_append.mp h with h|h
    ·exact hdn z h
    ·rw[List.mem_singleton.mp h];exact hZ,rfl,rfl⟩
  clear hQB
  with_reducible refine z0w PutC.put ?_
  refine z0e (z0l H) (z0m H) t__law_truths_1 rfl (by kernel_rfl) ?_
  intro F m0
  rcases hat X (List.mem_of_getElem? hX) with⟨i,rfl⟩|⟨y,rfl,hy⟩
  ·repeat' refine Leaf.mk ?_
   refine y4l (z0i ?_)
   repeat' first|(refine Leaf.mk ?_;with_reducible refine⟨tyL At.hd,?_⟩)|(first|(refine z0o (λ_=> ?_) (λ_=> ?_)<;>try (exfalso;rename_i hb;revert hb;simp[V.isNone];done))|refine Leaf.mk ?_)
   ·refine z1O hzl λo'=> ?_
    exact hend _ _ (.bool _)
   ·refine z1O hzl λo'=> ?_
    exact hend _ _ (.int _)
  ·repeat' refine Leaf.mk ?_
   refine y2D (z0i ?_)
   repeat' first|(refine Leaf.mk ?_;with_reducible refine⟨tyL At.hd,?_⟩)|refine Leaf.mk ?_
   refine z1O hzl λo'=> ?_
   exact hend _ _ (.str _ hy)
 ·obtain⟨o,zs,v,hz,hdn,rfl,rfl⟩:=hI
  repeat' refine Leaf.mk ?_
  refine z7P (.refL (.head _)) (z0t (by lia)) ?_
  skip
  exact⟨σ,List.sublist_cons_self _ _,q zs (by lia) hdn⟩
end
end
section
section
variable {C:Cx} {d:Nat} {σ:Sto} {Q:V->Sto->Prop} {i k ro:Addr} {kv rv:List (Str×Addr)} {es:Str->List (Int×List z0c)} {wi:List z0c} {ps:List (Str×Int)} {w:Str}
theorem z1d{n:Nat}{xs ys:List V}(h1:∀z∈xs,Dn σ n z z)(h2:∀z∈ys,Dn σ n z z):∀z∈xs++ys,Dn σ n z z:=λz h=>(List.mem_append.mp h).elim (h1 z) (h2 z)
noncomputable def t__law_other_sources:TC:=⟨[.loc 2,.psh (.int 4),.binc .FloorDiv,.loc 0,.len,.binc .Mod,.asg 3,.loc 2,.psh (.int 64),.binc .FloorDiv,.psh (.int 4),.binc .Mod,.psh (.int 1),.tcmpc .Eq,.ife [.loc 0,.psh .none,.loc 3,.psh .none,.slc,.sub,.loc 0,.loc 3,.sub,.call (.ref 404) 1,.lst 1,.binc .Add,.loc 0,.loc 3,.psh (.int 1),.binc .Add,.psh .none,.psh .none,.slc,.sub,.binc .Add,.ret] [],.loc 2,.psh (.int 4),.binc .Mod,.psh (.int 0),.tcmpc .Eq,.ife [.loc 0,.psh .none,.loc 3,.psh .none,.slc,.sub,.loc 0,.loc 3,.psh (.int 1),.binc .Add,.psh .none,.psh .none,.slc,.sub,.binc .Add,.ret] [],.loc 2,.psh (.int 4),.binc .Mod,.psh (.int 1),.tcmpc .Eq,.ife [.loc 0,.psh .none,.loc 3,.psh .none,.slc,.sub,.loc 0,.loc 3,.sub,.lst 1,.binc .Add,.loc 0,.loc 3,.psh .none,.psh .none,.slc,.sub,.binc .Add,.ret] [],.loc 0,.psh .none,.loc 3,.psh .none,.slc,.sub,.loc 1,.loc 2,.psh (.int 16),.binc .FloorDiv,.call (.ref 397) 2,.lst 1,.binc .Add,.loc 0,.loc 3,.loc 2,.psh (.int 2),.binc .Mod,.binc .Add,.psh .none,.psh .none,.slc,.sub,.binc .Add,.ret],[],[]⟩
--t__law_other_sources 0
set_option tactic.hygienic true in
theorem z2X(H:G1 C){x:V}{ss:List V}{P:Sto->Prop}(hx:Has σ x (.list ss) P)(h0:0<ss.length)(hl:ss.length<=99)(hs:∀s∈ss,SrV s){ws:List Str}(hw:∀w∈ws,Ware w)(hw0:0<ws.length)(hwl:ws.length<=20){num:Int}(q:∀a o zs σ',(∀p∈σ,p∈σ')->Fresh σ' a->zs.length<=198->(∀z∈zs,Dn σ' 2 z z)->Q (.ref a) ((a,o,.list zs)::σ')):CW C (d+2) (.ref 411) [x,.lst (ws.map V.str),.int num] σ Q:=by
 refine z0G (G1.kin (by assumption)) ["_law_sources","_law_wares","_law_number","_law_at"] [("len",.bi "len"),("_law_truths",.ref 404),("_law_odd_source",.ref 397)] (by kernel_rfl) (vs3 λ_ _ _=>by kernel_rfl) rfl (z0a (z0Q (by assumption)) (z0a (z5G (by assumption)) (z0a (z3B (by assumption)) GL_nil))) ?_
 intro env hsc
 clear hsc
 have hpos:(0:Int)<(ss.length:Int):=Int.ofNat_lt.mpr h0
 have h1:ss.length<=sizeLine:=Nat.le_trans hl (by decide)
 refine z0e (z0l H) (z0m H) t__law_other_sources rfl (by kernel_rfl) ?_
 intro F m0
 refine z5b hx h1 ?_
 refine z4j hpos ?_
 have a0:=Int.fmod_nonneg_of_pos (num.fdiv 4) hpos
 have a1:=Int.fmod_lt_of_pos (num.fdiv 4) hpos
 generalize (num.fdiv 4).fmod (ss.length:Int)=kk at a0 a1
 have a2:kk.toNat<ss.length:=by lia
 have hsk:=hs _ (List.getElem_mem a2)
 have hxk:=List.getElem?_eq_getElem a2
 generalize ss[kk.toNat]=X at hsk hxk
 have hA:∀lo hi,(slL ss lo hi none).length<=99:=λlo hi=>Nat.le_trans z6G hl
 have hA0:(slL ss none (some kk) none).length<=98:=by
  have e:=z7r ss (Nat.le_of_lt a2)
  rw[Int.toNat_of_nonneg a0] at e
  rw[e,List.length_take];lia
 have hM:∀{τ:Sto} lo hi,∀z∈slL ss lo hi none,Dn τ 2 z z:=λlo hi z hz=>(hs z (z2p z hz)).dn.up (by decide)
 repeat' first|(refine z0o (λ_=> ?_) (λ_=> ?_)<;>try (exfalso;rename_i hb;revert hb;simp[V.isNone];done))|refine Leaf.mk ?_
 ·refine z0B hx .none (.int _) .none (by decide) h1 (z0Z ?_)
  repeat' refine Leaf.mk ?_
  refine z2l hx a0 (by lia) hxk ?_
  obtain⟨l,rfl,_,hl4,hat⟩:=hsk
  repeat' refine Leaf.mk ?_
  refine fnc (z5I H hl4 hat λzs hz4 hzd=> ?_)
  repeat' refine Leaf.mk ?_
  refine z08 (.lst _) (.lst _) (z0t (by have:=hA0;show _+1<=_;lia)) (z0Z ?_)
  repeat' refine Leaf.mk ?_
  refine z0B hx (.int _) .none .none (by decide) h1 (z0Z ?_)
  repeat' refine Leaf.mk ?_
  refine z4J (.lst _) (.lst _) (z0t (by have:=hA0;have:=hA (some (kk+1)) none;rw[List.length_append];show _+1+_<=_;lia)) λa o hf=> ?_
  skip
  exact q a o _ σ (λp h=>h) hf (by have:=hA0;have:=hA (some (kk+1)) none;rw[List.length_append,List.length_append];show _+1+_<=_;lia) (z1d (z1d (hM _ _) (z0j ((z2i hzd (Nat.le_trans hz4 (by decide))).up (by decide)) z07)) (hM _ _))
 ·refine z0B hx .none (.int _) .none (by decide) h1 (z0Z ?_)
  repeat' refine Leaf.mk ?_
  refine z0B hx (.int _) .none .none (by decide) h1 (z0Z ?_)
  repeat' refine Leaf.mk ?_
  refine z4J (.lst _) (.lst _) (z0t (by have:=hA0;have:=hA (some (kk+1)) none;lia)) λa o hf=> ?_
  skip
  exact q a o _ σ (λp h=>h) hf (by have:=hA0;have:=hA (some (kk+1)) none;rw[List.length_append];lia) (z1d (hM _ _) (hM _ _))
 ·refine z0B hx .none (.int _) .none (by decide) h1 (z0Z ?_)
  repeat' refine Leaf.mk ?_
  refine z2l hx a0 (by lia) hxk ?_
  repeat' refine Leaf.mk ?_
  refine z08 (.lst _) (.lst _) (z0t (by have:=hA0;show _+1<=_;lia)) (z0Z ?_)
  repeat' refine Leaf.mk ?_
  refine z0B hx (.int _) .none .none (by decide) h1 (z0Z ?_)
  repeat' refine Leaf.mk ?_
  refine z4J (.lst _) (.lst _) (z0t (by have:=hA0;have:=hA (some kk) none;rw[List.length_append];show _+1+_<=_;lia)) λa o hf=> ?_
  skip
  exact q a o _ σ (λp h=>h) hf (by have:=hA0;have:=hA (some kk) none;rw[List.length_append,List.length_append];show _+1+_<=_;lia) (z1d (z1d (hM _ _) (z0j (hsk.dn.up (by decide)) z07)) (hM _ _))
 ·refine z0B hx .none (.int _) .none (by decide) h1 (z0Z ?_)
  repeat' refine Leaf.mk ?_
  refine fnc (z3F H hw hw0 hwl λY τ hk hY=> ?_)
  have hx:=hx.mono hk
  repeat' refine Leaf.mk ?_
  refine z08 (.lst _) (.lst _) (z0t (by have:=hA0;show _+1<=_;lia)) (z0Z ?_)
  repeat' refine Leaf.mk ?_
  refine z0B hx (.int _) .none .none (by decide) h1 (z0Z ?_)
  repeat' refine Leaf.mk ?_
  refine z4J (.lst _) (.lst _) (z0t (by rw[List.length_append];exact Nat.le_trans (Nat.add_le_add (Nat.succ_le_succ hA0) (hA _ _)) (by decide))) λa o hf=> ?_
  skip
  exact q a o _ τ hk hf (by rw[List.length_append,List.length_append];exact Nat.add_le_add (Nat.succ_le_succ hA0) (hA _ _)) (z1d (z1d (hM _ _) (z0j hY z07)) (hM _ _))
end
end
section
section
variable {C:Cx} {d:Nat} {σ:Sto} {Q:V->Sto->Prop} {i k ro:Addr} {kv rv:List (Str×Addr)} {es:Str->List (Int×List z0c)} {wi:List z0c} {ps:List (Str×Int)} {w:Str}
noncomputable def z1C(r1:Stmt):TC:=⟨[.loc 1,.psh (.int 6),.binc .FloorDiv,.loc 0,.len,.binc .Mod,.asg 2,.loc 0,.loc 2,.sub,.asg2 3 4,.loc 1,.psh (.int 6),.binc .Mod,.asg 5,.loc 5,.psh (.int 0),.tcmpc .Eq,.ife [.loc 0,.psh .none,.loc 2,.psh .none,.slc,.sub,.loc 0,.loc 2,.psh (.int 1),.binc .Add,.psh .none,.psh .none,.slc,.sub,.binc .Add,.ret] [],.loc 5,.psh (.int 1),.tcmpc .Eq,.ife [.loc 0,.psh .none,.loc 2,.psh .none,.slc,.sub,.loc 0,.loc 2,.sub,.lst 1,.binc .Add,.loc 0,.loc 2,.psh .none,.psh .none,.slc,.sub,.binc .Add,.ret] [],.loc 5,.psh (.int 2),.tcmpc .Eq,.ife [.loc 0,.psh .none,.psh .none,.psh (.int 1),.una .USub,.slc,.sub,.ret] [],.rawS r1,.loc 6,.mty "list",.loc 3,.psh (.int 1),.cmpc .Eq,.loc 4,.tup 2,.meth (.bi "list.append") 1,.pop,.loc 0,.psh .none,.loc 2,.psh .none,.slc,.sub,.loc 6,.loc 1,.psh (.int 42),.binc .FloorDiv,.psh (.int 7),.binc .Mod,.sub,.lst 1,.binc .Add,.loc 0,.loc 2,.psh (.int 1),.binc .Add,.psh .none,.psh .none,.slc,.sub,.binc .Add,.ret],[.inl r1],[([6],none)]⟩
--z1C 1
theorem ROk.dn{n:Nat}{t:V}(h:ROk n t):Dn σ (3*n) t t:=by
 induction h with
 | @mk n w ss bs a b c e f g _ ih=>
  exact z2i (n:=3*n+2) (z0j (.str w a.asc) (z0j (z17 (n:=3*n+1) (λs hs=>(e s hs).dn.up (by lia)) (Nat.le_trans c (by decide))) (z0j (z17 (n:=3*n+1) (λx hx=>by
   apply z0p hx;intro b hb
   exact z2i (n:=3*n) (z0j (.int _) (z0j (ih b hb) z07)) (show 2<=200 by decide)) (by rw[List.length_map];exact Nat.le_trans f (by decide))) z07))) (show 3<=200 by decide)
theorem y2Z{k:Int}(h1:1<=k)(h2:k<=999):Asc (toString k):=by
 obtain⟨n,rfl⟩:=Int.eq_ofNat_of_zero_le (show 0<=k by lia)
 refine z4a ?_
 have:=List.all_eq_true.mp (show(List.range 1000).all (λn:Nat=>(decide ((toString (n:Int):Str).length<=100)&&(toString (n:Int):Str).cps.toList.all λc=>decide (c<128)))=true by decide+kernel) n (List.mem_range.mpr (by lia))
 exact this
theorem y1u{n:Nat}{bs:List (Int×V)}(hr:∀b∈bs,ROk n b.2):∀z∈bs.map aV,Dn σ (3*n+1) z z:=λz hz=>by
 apply z0p hz;intro b hb
 exact z2i (z0j (.int _) (z0j (hr b hb).dn z07)) (Nat.le_of_ble_eq_true rfl)
theorem z2x(H:G1 C){n:Nat}{bs:List (Int×V)}(h0:0<bs.length)(hl:bs.length<=8)(hm:∀b∈bs,1<=b.1/\b.1<=999)(hr:∀b∈bs,ROk n b.2){num:Int}(q:∀zs,zs.length<=17->(∀τ,∀z∈zs,Dn τ (3*n+1) z z)->Q (.lst zs) σ):CW C (d+1) (.ref 418) [.lst (bs.map aV),.int num] σ Q:=by
 refine z03 ?_
 refine z0G (G1.kin (by assumption)) ["_law_branches","_law_number","_law_at","_law_make","_law_reason","_law_way","_law_odd"] [("len",.bi "len"),("str",.type "str")] (by kernel_rfl) (vs2 λ_ _=>by kernel_rfl) rfl (z0a (z0Q (by assumption)) (z0a (z5o (by assumption)) GL_nil)) ?_
 intro env hsc
 clear hsc
 have hz:(bs.map aV).length=bs.length:=List.length_map _
 refine z0e (z0l H) (z0m H) (z1C _) (by exact rfl) (by kernel_rfl) ?_
 intro F m0
 have hbl:(bs.map aV).length<=8:=hz▸hl
 have h1:(bs.map aV).length<=sizeLine:=Nat.le_trans hbl (by decide)
 refine Leaf.mk (z0L (.lst _) hz h1 ?_)
 refine z09 h0 λkk a2=> ?_
 have hmk:=hm _ (List.getElem_mem a2)
 have hrk:=hr _ (List.getElem_mem a2)
 have hxk:(bs.map aV)[kk]? =some (.tup [.int bs[kk].1,bs[kk].2]):=by rw[List.getElem?_map,List.getElem?_eq_getElem a2];rfl
 have hk1:kk<1000:=Nat.lt_of_lt_of_le a2 (Nat.le_trans hl (by decide))
 generalize bs[kk].1=mk at hmk hxk
 generalize bs[kk].2=Z at hrk hxk
 obtain⟨za,zb,zc,rfl⟩:∃za zb zc,Z= .tup [za,zb,zc]:=by cases hrk;exact⟨_,_,_,rfl⟩
 have hZ:∀τ,Dn τ (3*n) (.tup [za,zb,zc]) (.tup [za,zb,zc]):=λτ=>hrk.dn
 have hZ2:∀τ,Dn τ (3*n) (.tup [za,zb]) (.tup [za,zb]):=λτ=>by
  obtain⟨m,xs,ys,e,e1,e2,_,_,hd⟩:=(hZ τ).tupI rfl
  cases e1;cases e2;rw[e]
  exact z2i (z0j (hd 0 _ _ rfl rfl) (z0j (hd 1 _ _ rfl rfl) z07)) (Nat.le_of_ble_eq_true rfl)
 have hA:∀lo hi,(slL (bs.map aV) lo hi none).length<=8:=λlo hi=>Nat.le_trans z6G hbl
 have hM:∀(τ:Sto) lo hi st,∀z∈slL (bs.map aV) lo hi st,Dn τ (3*n+1) z z:=λτ lo hi st z hz=>y1u hr z (z2p z hz)
 have hP:∀(τ:Sto) (X Y:V),Dn τ (3*n) X X->Dn τ (3*n) Y Y->Dn τ (3*n+1) (.tup [X,Y]) (.tup [X,Y]):=λτ X Y a b=>z2i (z0j a (z0j b z07)) (Nat.le_of_ble_eq_true rfl)
 have hq:∀zs,zs.length<=17->(∀τ,∀z∈zs,Dn τ (3*n+1) z z)->∀σ',σ.Sublist σ'->∃τ,τ.Sublist σ'/\Q (.lst zs) τ:=λzs a b σ' s=>⟨σ,s,q zs a b⟩
 have hmid:∀X,(∀τ,Dn τ (3*n+1) X X)->∀lo hi σ',σ.Sublist σ'->∃τ,τ.Sublist σ'/\Q (.lst ((slL (bs.map aV) none lo none++[X])++slL (bs.map aV) hi none none)) τ:=λX hX lo hi σ' s=>hq _ (by rw[List.length_append,List.length_append];exact Nat.add_le_add (Nat.add_le_add (hA _ _) (Nat.le_refl 1)) (hA _ _)) (λτ=>z1d (z1d (hM τ _ _ _) (z0j (hX τ) z07)) (hM τ _ _ _)) σ' s
 have hl1:∀lo hi,(slL (bs.map aV) lo hi none).length+1<=sizeLine:=λlo hi=>Nat.le_trans (Nat.succ_le_succ (hA _ _)) (by decide)
 have hl2:∀(X:V) lo hi,(slL (bs.map aV) none lo none++[X]).length+(slL (bs.map aV) hi none none).length<=sizeLine:=λX lo hi=>by rw[List.length_append];exact Nat.le_trans (Nat.add_le_add (Nat.add_le_add (hA _ _) (Nat.le_refl 1)) (hA _ _)) (by decide)
 clear hm hr hrk q
 refine Leaf.mk (z04 (.lst _) hk1 hxk ?_)
 refine z0o (λ_=> ?_) λ_=> ?_
 ·refine Leaf.mk (z0B (.lst _) .none (.int _) .none (by decide) h1 (z0Z ?_))
  refine Leaf.mk (z0B (.lst _) (.int _) .none .none (by decide) h1 (z0Z ?_))
  refine Leaf.mk (z08 (.lst _) (.lst _) (Nat.le_trans (Nat.add_le_add (hA _ _) (hA _ _)) (by decide)) (z0Z ?_))
  exact hq _ (by rw[List.length_append];exact Nat.le_trans (Nat.add_le_add (hA _ _) (hA _ _)) (by decide)) (λτ=>z1d (hM τ _ _ _) (hM τ _ _ _)) _ (.refl _)
 refine z0o (λ_=> ?_) λ_=> ?_
 ·refine Leaf.mk (z0B (.lst _) .none (.int _) .none (by decide) h1 (z0Z ?_))
  refine Leaf.mk (z04 (.lst _) hk1 hxk ?_)
  refine Leaf.mk (z08 (.lst _) (.lst _) (hl1 _ _) (z0Z ?_))
  refine Leaf.mk (z0B (.lst _) (.int _) .none .none (by decide) h1 (z0Z ?_))
  refine Leaf.mk (z08 (.lst _) (.lst _) (hl2 _ _ _) (z0Z ?_))
  exact hmid _ (λτ=>hP τ _ _ (.int _) (hZ τ)) _ _ _ (.refl _)
 refine z0o (λ_=> ?_) λ_=> ?_
 ·refine Leaf.mk (z4B ?_)
  refine Leaf.mk (z0B (.lst _) .none .none (.int _) (by decide) h1 (z0Z ?_))
  exact hq _ (by rw[z9B,List.length_reverse];exact Nat.le_trans hbl (by decide)) (λτ=>hM τ _ _ _) _ (.refl _)
 refine Leaf.mk ?_
 show AS C env ["_law_branches","_law_number","_law_at","_law_make","_law_reason","_law_way","_law_odd"] _ true _ (exec _ env) [some (.lst (bs.map aV)),some (.int num),some (.int (kk:Int)),some (.int mk),some (.tup [za,zb,zc]),some (.int _),none] σ _
 refine z1K (z5k ?_)
 repeat' with_reducible first|refine z0n ?_|refine z1s ?_|refine z0O ?_|refine z0H ?_|refine z1L ?_|refine z2V ?_|refine z3C ?_|refine z0q ?_|refine z0v ?_|refine z5X ?_|refine⟨z0R,?_⟩|refine⟨by with_unfolding_all exact Nat.le_of_ble_eq_true rfl,?_⟩|fail
 refine y4A (Nat.lt_of_le_of_lt (Nat.log2_le_self _) (by lia)) ?_
 repeat' with_reducible first|refine z0n ?_|refine z0O ?_|refine z6Q ?_|refine z1i ?_|refine z2V ?_|refine z2z ?_|refine z0q ?_|refine z0v ?_|refine⟨by with_unfolding_all exact Nat.le_of_ble_eq_true rfl,?_⟩|refine z13 ?_|refine z1X ?_|fail
 refine y3T ?_
 repeat' with_reducible first|refine z0v ?_|refine⟨by with_unfolding_all exact Nat.le_of_ble_eq_true rfl,?_⟩|fail
 intro a o hf
 with_reducible refine z2t ?_
 refine Leaf.mk ⟨tyL At.hd,?_⟩
 refine Leaf.mk (z1O (Nat.le_trans (m:=6) (Nat.le_of_ble_eq_true rfl) (by decide)) λo'=> ?_)
 refine Leaf.mk (z0B (.lst _) .none (.int _) .none (by decide) h1 (z0Z ?_))
 refine Leaf.mk (y1k (.refL (.head _)) (Int.fmod_nonneg_of_pos _ (by decide)) (Int.fmod_lt_of_pos _ (by decide)) (Nat.lt_of_le_of_lt (m:=7) (Nat.le_of_ble_eq_true rfl) (by decide)) λX hX=> ?_)
 refine Leaf.mk (z08 (.lst _) (.lst _) (hl1 _ _) (z0Z ?_))
 refine Leaf.mk (z0B (.lst _) (.int _) .none .none (by decide) h1 (z0Z ?_))
 refine Leaf.mk (z08 (.lst _) (.lst _) (hl2 _ _ _) (z0Z ?_))
 refine hmid X (λτ=> ?_) _ _ _ (.cons _ (.refl _))
 have hs:=y2Z hmk.1 hmk.2
 clear hmid hq hM hA hl1 hl2 hxk
 revert X
 exact z0j (hP τ _ _ (.int _) (hZ τ)) (z0j (z17 (z0j (.int _) (z0j (hZ τ) z07)) (Nat.le_of_ble_eq_true rfl)) (z0j (z2i (z0j (.int _) z07) (Nat.le_of_ble_eq_true rfl)) (z0j (hP τ _ _ (.str _ hs) (hZ τ)) (z0j (hP τ _ _ (.int _) .none) (z0j (hP τ _ _ (.int _) (hZ2 τ)) (z0j (hP τ _ _ (.bool _) (hZ τ)) z07))))))
end
end
section
section
variable {C:Cx} {d:Nat} {σ:Sto} {Q:V->Sto->Prop} {i k ro:Addr} {kv rv:List (Str×Addr)} {es:Str->List (Int×List z0c)} {wi:List z0c} {ps:List (Str×Int)} {w:Str}
noncomputable def z37(r1:Stmt):TC:=⟨[.loc 0,.asg3 3 4 5,.cut [.loc 5,.lst 0,.tcmpc .NotEq,.mop .And [.loc 2,.psh (.int 5),.binc .Mod,.psh (.int 3),.tcmpc .Lt,.mop .And [.psh (.bool true)]],.ife [.loc 2,.psh (.int 5),.binc .FloorDiv,.loc 5,.len,.binc .Mod,.asg 6,.loc 5,.loc 6,.sub,.asg2 7 8,.loc 3,.loc 4,.loc 5,.psh .none,.loc 6,.psh .none,.slc,.sub,.loc 7,.loc 8,.loc 1,.loc 2,.psh (.int 15),.binc .FloorDiv,.call (.ref 425) 3,.tup 2,.lst 1,.binc .Add,.loc 5,.loc 6,.psh (.int 1),.binc .Add,.psh .none,.psh .none,.slc,.sub,.binc .Add,.tup 3,.ret] []],.cut [.loc 5,.lst 0,.tcmpc .NotEq,.mop .And [.loc 2,.psh (.int 5),.binc .Mod,.psh (.int 3),.tcmpc .Eq,.mop .And [.psh (.bool true)]],.ife [.loc 3,.loc 4,.loc 5,.loc 2,.psh (.int 5),.binc .FloorDiv,.call (.ref 418) 2,.tup 3,.ret] []],.loc 2,.psh (.int 5),.binc .FloorDiv,.psh (.int 8),.binc .Mod,.psh (.int 0),.tcmpc .Eq,.ife [.loc 1,.loc 2,.psh (.int 40),.binc .FloorDiv,.loc 1,.len,.binc .Mod,.sub,.loc 4,.loc 5,.tup 3,.ret] [],.loc 2,.psh (.int 5),.binc .FloorDiv,.psh (.int 8),.binc .Mod,.psh (.int 1),.tcmpc .Eq,.ife [.rawS r1,.loc 9,.mty "list",.psh (.int 5),.loc 4,.lst 0,.tup 3,.meth (.bi "list.append") 1,.pop,.loc 9,.loc 2,.psh (.int 40),.binc .FloorDiv,.psh (.int 6),.binc .Mod,.sub,.ret] [],.loc 3,.loc 4,.loc 1,.loc 2,.psh (.int 40),.binc .FloorDiv,.call (.ref 411) 3,.loc 5,.tup 3,.ret],[.inl r1],[([4,0,0],none)]⟩
--z37 1
theorem Has.dn{x:V}{ss:List V}{P:Sto->Prop}(h:Has σ x (.list ss) P)(hs:∀s∈ss,SrV s)(hl:ss.length<=200):Dn σ 2 x (.lst ss):=by
 cases h with
 |lst=>exact z17 (λs h=>(hs s h).dn) hl
 |refL hm=>exact .ref ⟨_,hm⟩ rfl hl λj X Y h1 h2=>by rw[h1] at h2;cases h2;exact(hs X (List.mem_of_getElem? h1)).dn
inductive Dns(σ:Sto)(n:Nat):List V->List V->Prop
 |nil:Dns σ n [] []
 |cons {x y:V} {xs ys:List V}:Dn σ n x y->Dns σ n xs ys->Dns σ n (x::xs) (y::ys)
theorem Dns.self{n:Nat}{xs:List V}(h:∀z∈xs,Dn σ n z z):Dns σ n xs xs:=by
 induction xs with
 |nil=>exact .nil
 |cons x xs ih=>exact .cons (h x (.head _)) (ih λz hz=>h z (.tail _ hz))
theorem Dns.app{n:Nat}{xs ys us vs:List V}(h:Dns σ n xs ys)(h':Dns σ n us vs):Dns σ n (xs++us) (ys++vs):=by
 induction h with
 |nil=>exact h'
 |cons a _ ih=>exact .cons a ih
theorem Dns.len{n:Nat}{xs ys:List V}(h:Dns σ n xs ys):xs.length=ys.length:=by
 induction h with
 |nil=>rfl
 |cons _ _ ih=>exact congrArg (·+1) ih
theorem Dns.at{n:Nat}{xs ys:List V}(h:Dns σ n xs ys):∀(j:Nat) X Y,xs[j]? =some X->ys[j]? =some Y->Dn σ n X Y:=by
 induction h with
 |nil=>intro j X Y e;cases e
 |cons a _ ih=>
  intro j X Y e1 e2
  cases j with
  |zero=>cases e1;cases e2;exact a
  |succ j=>exact ih j X Y e1 e2
theorem Dns.tup{n:Nat}{xs ys:List V}(h:Dns σ n xs ys)(hl:xs.length<=200):Dn σ (n+1) (.tup xs) (.tup ys):= .tup h.len hl h.at
theorem Dns.lst{n:Nat}{xs ys:List V}(h:Dns σ n xs ys)(hl:xs.length<=200):Dn σ (n+1) (.lst xs) (.lst ys):= .lst h.len hl h.at
theorem dn3{n:Nat}{a b c a' b' c':V}(h1:Dn σ n a a')(h2:Dn σ n b b')(h3:Dn σ n c c'):Dn σ (n+1) (.tup [a,b,c]) (.tup [a',b',c']):=
 Dns.tup (.cons h1 (.cons h2 (.cons h3 .nil))) (Nat.le_of_ble_eq_true rfl)
inductive OtR(pre:Sto)(x:V)(n:Nat):V->Sto->Prop
 |odd {X T:V} {σ':Sto}:Dn σ' (3*n+4) X T->(∀es wi ps f,hB es wi f ps T=false)->OtR pre x n X σ'
 |same {w:Str} {X2 T2:V} {τ:Sto}:Asc w->Dn τ (3*n+3) X2 T2->OtR pre x n (.tup [.str w,x,X2]) (pre++τ)
 |fresh {w:Str} {a:Addr} {o:Obj} {zs:List V} {X2:V} {σ':Sto}:Asc w->Fresh σ' a->zs.length<=198->(∀z∈zs,Dn σ' 2 z z)->(∀τ,Dn τ (3*n+3) X2 X2)->OtR pre x n (.tup [.str w,.ref a,X2]) ((a,o,.list zs)::σ')
theorem OtR.dn{n:Nat}{ss:List V}{X:V}(h:OtR [] (.lst ss) n X σ)(hs:∀s∈ss,SrV s)(hl:ss.length<=200):∃T,Dn σ (3*n+4) X T:=by
 cases h with
 |odd h=>exact⟨_,h⟩
 |same hw h=>exact⟨_,dn3 (.str _ hw) ((z17 (n:=1) (λs h=>(hs s h).dn) hl).up (Nat.le_add_left _ _)) h⟩
 |fresh hw hf hz hd h=>exact⟨_,dn3 (.str _ hw) (Dn.up (n:=3) (.ref At.hd rfl (Nat.le_trans hz (by decide)) (Dns.self λz hz=>(hd z hz).mono λ_ _ h=>h.cons _).at) (Nat.le_add_left _ _)) (h _)⟩
noncomputable def y5S(σ:Sto)(n:Nat)(X:V):Prop:=∃T,Dn σ n X T/\∀es wi ps f,hB es wi f ps T=false
theorem y3h{n:Nat}{x b:V}{ss:List V}(hw:Asc w)(hx:Dn σ (n+1) x (.lst ss))(hb:Dn σ (n+1) b b):∀X∈[V.tup [.str w,x],.lst [.str w,x,b],.none,.tup [.str w,.lst [],b],.tup [.str w,x,.none],.tup [.int 5,x,.lst []]],y5S σ (n+2) X:=
 have e:Dn σ (n+1) (.lst []) (.lst []):=z17 z07 (Nat.zero_le _)
 List.forall_mem_cons.mpr ⟨⟨_,Dns.tup (.cons (.str w hw) (.cons hx .nil)) (Nat.le_of_ble_eq_true rfl),λ_ _ _ _=>z8C (λe=>nomatch e)⟩,
 List.forall_mem_cons.mpr ⟨⟨_,Dns.lst (.cons (.str w hw) (.cons hx (.cons hb .nil))) (Nat.le_of_ble_eq_true rfl),λ_ _ _ _=>z9w rfl⟩,
 List.forall_mem_cons.mpr ⟨⟨_,.none,λ_ _ _ _=>z9w rfl⟩,
 List.forall_mem_cons.mpr ⟨⟨_,dn3 (.str w hw) e hb,λ_ _ _ _=>z8K⟩,
 List.forall_mem_cons.mpr ⟨⟨_,dn3 (.str w hw) hx .none,λ_ _ _ _=>z9v rfl⟩,
 List.forall_mem_cons.mpr ⟨⟨_,dn3 (.int 5) hx e,λ_ _ _ _=>y1E rfl⟩,λ_ h=>by cases h⟩⟩⟩⟩⟩⟩
theorem z47(H:G1 C){n:Nat}{ws:List Str}(hw:∀w∈ws,Ware w)(hw0:0<ws.length)(hwl:ws.length<=20)
  (ih:∀{Q:V->Sto->Prop} {Z:V} {num:Int},ROk n Z->(∀X T τ,Dn τ (3*n+1) X T->Q X τ)->CW C (d+2) (.ref 425) [Z,.lst (ws.map V.str),.int num] [] Q)
  {ss:List V} {bs:List (Int×V)} (hww:Asc w) (h0:0<ss.length) (hl:ss.length<=99) (hs:∀s∈ss,SrV s) (hb8:bs.length<=8) (hm:∀b∈bs,1<=b.1/\b.1<=999) (hr:∀b∈bs,ROk n b.2) {x:V} {pre:Sto} {P:Sto->Prop} (hx:Has pre x (.list ss) P) {num:Int} (q:∀X σ',OtR pre x n X σ'->Q X σ'):
  CW C (d+3) (.ref 425) [.tup [.str w,x,.lst (bs.map aV)],.lst (ws.map V.str),.int num] pre Q:=by
 refine z03 ?_
 refine z0G (G1.kin (by assumption)) ["_law_reason","_law_wares","_law_number","_law_ware","_law_sources","_law_branches","_law_at","_law_make","_law_branch","_law_odd"] [("len",.bi "len"),("_law_other",.ref 425),("_law_other_branches",.ref 418),("_law_other_sources",.ref 411)] (by kernel_rfl) (vs3 λ_ _ _=>by kernel_rfl) rfl (z0a (z0Q (by assumption)) (z0a (z3D (by assumption)) (z0a (z2w (by assumption)) (z0a (z2O (by assumption)) GL_nil)))) ?_
 intro env hsc
 clear hsc
 have hz:(bs.map aV).length=bs.length:=List.length_map _
 have hbl:(bs.map aV).length<=8:=hz▸hb8
 have h1:(bs.map aV).length<=sizeLine:=Nat.le_trans hbl (by decide)
 have hbd:∀(τ:Sto),∀z∈bs.map aV,Dn τ (3*n+1) z z:=λτ=>y1u hr
 have hbe:∀(τ:Sto),∀z∈bs.map aV,Dn τ (3*n+2) z z:=λτ z hz=>(hbd τ z hz).up (Nat.le_succ _)
 have hbD:∀(τ:Sto),Dn τ (3*n+3) (.lst (bs.map aV)) (.lst (bs.map aV)):=λτ=>(z17 (hbd τ) (Nat.le_trans hbl (by decide))).up (Nat.le_succ _)
 have hq:∀X σ',OtR pre x n X σ'->∀σ2,σ'.Sublist σ2->∃τ,τ.Sublist σ2/\Q X τ:=λX σ' o σ2 s=>⟨σ',s,q X σ' o⟩
 have hq0:∀w X2 T2,Asc w->Dn [] (3*n+3) X2 T2->∃τ,τ.Sublist pre/\Q (.tup [.str w,x,X2]) τ:=λw X2 T2 a b=>⟨pre,.refl _,q _ _ (by have:=OtR.same (pre:=pre) (x:=x) a b;rwa [List.append_nil] at this)⟩
 clear q
 refine z0e (z0l H) (z0m H) (z37 _) (by exact rfl) (by kernel_rfl) ?_
 intro F m0
 refine z05 [some (.tup [.str w,x,.lst (bs.map aV)]),some (.lst (ws.map V.str)),some (.int num),some (.str w),some x,some (.lst (bs.map aV)),none,none,none,none] pre (λK hK hR=> ?_) ?_
 ·refine Leaf.mk (z4c (.lst _) (z0i ?_))
  refine z0o (λhne=> ?_) λ_=>hK
  have hbp:0<bs.length:=by cases bs with|nil=>cases hne|cons=>exact Nat.succ_pos _
  refine z0o (λ_=> ?_) λ_=>hK
  refine Leaf.mk (z0L (.lst _) hz h1 ?_)
  refine z09 hbp λkk a2=> ?_
  have hrk:=hr _ (List.getElem_mem a2)
  have hxk:(bs.map aV)[kk]? =some (.tup [.int bs[kk].1,bs[kk].2]):=by rw[List.getElem?_map,List.getElem?_eq_getElem a2];rfl
  have hk1:kk<1000:=Nat.lt_of_lt_of_le a2 (Nat.le_trans hb8 (by decide))
  generalize bs[kk].1=mk at hxk
  generalize bs[kk].2=Z at hrk hxk
  refine Leaf.mk (z04 (.lst _) hk1 hxk ?_)
  refine Leaf.mk (z0B (.lst _) .none (.int _) .none (by decide) h1 (z0Z ?_))
  refine Leaf.mk (fnc (z6d (σ:=pre) (τ:=[]) (by rw[List.append_nil]) (ih hrk λX T τ hD _=> ?_)))
  have hA:∀lo hi,(slL (bs.map aV) lo hi none).length<=8:=λlo hi=>Nat.le_trans z6G hbl
  refine Leaf.mk (z08 (.lst _) (.lst _) (Nat.le_trans (Nat.succ_le_succ (hA _ _)) (by decide)) (z0Z ?_))
  refine Leaf.mk (z0B (.lst _) (.int _) .none .none (by decide) h1 (z0Z ?_))
  refine Leaf.mk (z08 (.lst _) (.lst _) (by rw[List.length_append];exact Nat.le_trans (Nat.add_le_add (Nat.add_le_add (hA _ _) (Nat.le_refl 1)) (hA _ _)) (by decide)) (z0Z ?_))
  refine hR _ _ _ (λe=>nomatch e) (hq _ _ (.same hww (Dns.lst (.app (.app (.self λz hz=>hbe τ z (z2p z hz)) (.cons (Dns.tup (.cons (.int mk) (.cons hD .nil)) (Nat.le_of_ble_eq_true rfl)) .nil)) (.self λz hz=>hbe τ z (z2p z hz))) ?_)) _ (.refl _))
  rw[List.length_append,List.length_append];exact Nat.le_trans (Nat.add_le_add (Nat.add_le_add (hA _ _) (Nat.le_refl 1)) (hA _ _)) (by decide)
 clear ih
 refine z05 [some (.tup [.str w,x,.lst (bs.map aV)]),some (.lst (ws.map V.str)),some (.int num),some (.str w),some x,some (.lst (bs.map aV)),none,none,none,none] pre (λK hK hR=> ?_) ?_
 ·refine Leaf.mk (z4c (.lst _) (z0i ?_))
  refine z0o (λhne=> ?_) λ_=>hK
  have hbp:0<bs.length:=by cases bs with|nil=>cases hne|cons=>exact Nat.succ_pos _
  refine z0o (λ_=> ?_) λ_=>hK
  refine Leaf.mk (fnc (z2x H hbp hb8 hm hr λzs a b=> ?_))
  exact hR _ _ _ (λe=>nomatch e) (hq0 _ _ _ hww ((z17 (b _) (Nat.le_trans a (by decide))).up (Nat.le_succ _)))
 clear hm hr
 refine z0o (λ_=> ?_) λ_=> ?_
 ·refine Leaf.mk (z0L (n:=ws.length) (.lst _) (List.length_map _) (z0z hwl (by decide)) ?_)
  refine z09 hw0 λkk a2=> ?_
  refine Leaf.mk (z04 (.lst _) (Nat.lt_of_lt_of_le a2 (Nat.le_trans hwl (by decide))) (show(ws.map V.str)[kk]? =some (.str ws[kk]) by rw[List.getElem?_map,List.getElem?_eq_getElem a2];rfl) ?_)
  exact hq0 _ _ _ (hw _ (List.getElem_mem a2)).asc (hbD _)
 refine z0o (λ_=> ?_) λ_=> ?_
 ·refine Leaf.mk ?_
  show AS C env ["_law_reason","_law_wares","_law_number","_law_ware","_law_sources","_law_branches","_law_at","_law_make","_law_branch","_law_odd"] _ true _ (exec _ env) [some (.tup [.str w,x,.lst (bs.map aV)]),some (.lst (ws.map V.str)),some (.int num),some (.str w),some x,some (.lst (bs.map aV)),none,none,none,none] pre _
  refine z1K (z5k ?_)
  repeat' with_reducible first|refine z0n ?_|refine z6Q ?_|refine z2V ?_|refine z3C ?_|refine z0q ?_|refine z0v ?_|refine⟨by with_unfolding_all exact Nat.le_of_ble_eq_true rfl,?_⟩|fail
  intro a o hf
  with_reducible refine z2t ?_
  refine Leaf.mk ⟨tyL At.hd,?_⟩
  refine Leaf.mk (z1O (Nat.le_trans (m:=6) (Nat.le_of_ble_eq_true rfl) (by decide)) λo'=> ?_)
  refine Leaf.mk (y1k (.refL (.head _)) (Int.fmod_nonneg_of_pos _ (by decide)) (Int.fmod_lt_of_pos _ (by decide)) (Nat.lt_of_le_of_lt (m:=7) (Nat.le_of_ble_eq_true rfl) (by decide)) λX hX=> ?_)
  obtain⟨T,hT,hF⟩:=y3h (σ:=pre) (n:=3*n+2) hww ((hx.dn hs (Nat.le_trans hl (by decide))).up (Nat.le_add_left _ _)) (hbD _) X hX
  exact hq _ _ (.odd hT hF) _ (.cons _ (.refl _))
 refine Leaf.mk (fnc (z2X H hx h0 hl hs hw hw0 hwl λa o zs σ' kp hf hz hd=> ?_))
 exact hq _ _ (.fresh hww hf hz hd hbD) _ (.refl _)
theorem z6Y(H:G1 C){ws:List Str}(hw:∀w∈ws,Ware w)(hw0:0<ws.length)(hwl:ws.length<=20)(n:Nat):∀{Q:V->Sto->Prop} {Z:V} {num:Int},ROk n Z->(∀X T τ,Dn τ (3*n+1) X T->Q X τ)->CW C (d+n+2) (.ref 425) [Z,.lst (ws.map V.str),.int num] [] Q:=by
 induction n with
 |zero=>intro Q Z num h;cases h
 |succ n ih=>
  intro Q Z num h q
  cases h with
  |mk a b c e f g r=>
   exact z47 (d:=d+n) H hw hw0 hwl ih a.asc (List.length_pos_iff.mpr b) c e f g r (.lst _) λX σ' o=>by
    obtain⟨T,hT⟩:=o.dn e (Nat.le_trans c (by decide))
    exact q X T σ' hT
end
end
section
section
variable {C:Cx} {d:Nat} {σ:Sto} {Q:V->Sto->Prop} {i k ro:Addr} {kv rv:List (Str×Addr)} {es:Str->List (Int×List z0c)} {wi:List z0c} {ps:List (Str×Int)} {w:Str}
noncomputable def t__law_spoilt:TC:=⟨[.loc 3,.subT 1,.mty "list",.psh (.str "wish"),.psh (.int 99),.tup 2,.meth (.bi "list.append") 1,.pop,.loc 0,.loc 1,.call (.type "list") 1,.loc 2,.loc 3,.call (.ref 213) 4,.psh (.bool false),.tcmpc .IsNot,.ife [.psh (.bool false),.ret] [],.loc 3,.subT 1,.mty "list",.meth (.bi "list.pop") 0,.pop,.loc 0,.loc 1,.call (.type "list") 1,.loc 2,.loc 3,.call (.ref 213) 4,.psh (.bool true),.cmpc .Is,.ret],[],[]⟩
--t__law_spoilt 0
theorem y4z{f:Nat}{us:List V}{c:V}(h8:wi.length<=8):hB es wi f ps (.tup [.str w,.lst (us++[.tup [.str "wish",.int 99]]),c])=false:=by
 refine z7h (z5P ⟨_,List.mem_append_right _ (.head _),?_⟩)
 unfold z1l
 rw[z8t,z8M]
 ·rfl
 ·show(decide ((0:Int)<=99)&&decide ((99:Int)<(wi.length:Int)))=false
  rw[decide_eq_false (p:=(99:Int)<(wi.length:Int)) (by lia),Bool.and_false]
theorem z2D(H:G1 C)(g:Gr es wi)(S:Shp σ i k kv es)(pb:PkB ps)(pi:PkIn es ps){y:V}{Py:Sto->Prop}(hy:Has σ y (.list (ps.map prV)) Py){v t:V}(h:Dn σ 21 v t){b:Bool}(e:hB es wi 7 ps t=b)(q:Q (.bool b) σ):CW C (d+14) (.ref 213) [.ref i,.lst (wi.map z0h),y,v] σ Q:=
 y27 H g 7 S (.lst _) pb pi hy h (by rw[e];exact q)
theorem y0o{ν:Sto}{b:Addr}{us:List V}{X2 T2:V}(hν:∀p∈ν,p∈σ)(hb:At σ b (.list us))(hl:us.length<=200)(hd:∀z∈us,Dn ν 2 z z)(h2:Dn ν 20 X2 T2)(hw:Asc w):Dn σ 21 (.tup [.str w,.ref b,X2]) (.tup [.str w,.lst us,T2]):=
 have hm:∀a x,At ν a x->At σ a x:=λa x h=>by obtain⟨o,h⟩:=h;exact⟨o,hν _ h⟩
 dn3 (.str w hw) (Dn.up (n:=3) (.ref hb rfl hl (Dns.self λz hz=>(hd z hz).mono hm).at) (by decide)) (h2.mono hm)
theorem z5B(H:G1 C)(g:Gr es wi)(S:Shp σ i k kv es)(pb:PkB ps)(pi:PkIn es ps){ha b:Addr}(hy:At σ ha (.list (ps.map prV))){us:List V}{X2 T2:V}{ν:Sto}(hb:At σ b (.list us))(hl:us.length<=199)(hν:∀p∈ν,p∈σ)(hf:Fresh ν b)(hd:∀z∈us,Dn ν 2 z z)(h2:Dn ν 20 X2 T2)(hw:Asc w)
  (hfp:b∉i::k::kv.map (·.2)) (hbh:ha≠b) (hB1:hB es wi 7 ps (.tup [.str w,.lst us,T2])=true) (q:∀σ',UpdS σ σ' b (.list us)->Q (.bool true) σ'):CW C (d+15) (.ref 447) [.ref i,.lst (wi.map z0h),.ref ha,.tup [.str w,.ref b,X2]] σ Q:=by
 refine z0G (G1.kin (by assumption)) ["_law_shop_here","_law_wish_here","_law_pairs","_law_thing"] [("holds",.ref 213),("list",.type "list")] (by kernel_rfl) (vs4 λ_ _ _ _=>by kernel_rfl) rfl (z0a (z7m (by assumption)) (z0a (z0T (by assumption)) GL_nil)) ?_
 intro env hsc
 clear hsc
 have h8:(wi.map z0h).length<=sizeLine:=z0z (n:=8) g.ok.len (by decide)
 refine z0e (z0l H) (z0m H) (t__law_spoilt) rfl (by kernel_rfl) ?_
 intro F m0
 refine Leaf.mk ⟨tyL hb,?_⟩
 refine Leaf.mk (z7Z hb (Nat.le_trans hl (by decide)) λσ1 U1=> ?_)
 have S1:=S.frame λa ha x h=>U1.at h λe=>hfp (e▸ha)
 obtain⟨oy,hym⟩:=U1.at hy hbh
 have hb1:=U1.here
 have hD1:=y0o (λp hp=>U1.keep p (hν p hp) (hf p hp)) U1.here (by rw[List.length_append];exact Nat.succ_le_succ hl) (z1d hd (z0j (sr_wish.dn.up (by decide)) z07)) h2 hw
 refine Leaf.mk (z1g (.lst _) h8 (.inl ?_))
 refine Leaf.mk (fnc (z2D H g S1 pb pi (.refL hym) hD1 (y4z g.ok.len) ?_))
 clear hD1 S1 hym
 refine Leaf.mk ⟨tyL hb1,?_⟩
 refine Leaf.mk (y4s hb1 (by rw[List.length_append];exact Nat.le_trans (Nat.succ_le_succ hl) (by decide)) λσ2 U2=> ?_)
 have U:=U1.trans U2
 have hD2:=y0o (λp hp=>U.keep p (hν p hp) (hf p hp)) U.here (Nat.le_trans hl (by decide)) hd h2 hw
 have S2:=S.frame λa ha x h=>U.at h λe=>hfp (e▸ha)
 obtain⟨oz,hzm⟩:=U.at hy hbh
 refine Leaf.mk (z1g (.lst _) h8 (.inl ?_))
 refine Leaf.mk (fnc (z2D H g S2 pb pi (.refL hzm) hD2 hB1 ?_))
 exact q _ U
end
end
section
section
variable {C:Cx} {d:Nat} {σ:Sto} {Q:V->Sto->Prop} {i k ro:Addr} {kv rv:List (Str×Addr)} {er es:Str->List (Int×List z0c)}
structure RS(σ:Sto)(i k ro:Addr)(kv rv:List (Str×Addr))(er es:Str->List (Int×List z0c)):Prop where
 rw_:Rw σ ro rv er
 sh:Shp σ i k kv es
 sp:∀a∈ro::rv.map (·.2),a∉i::k::kv.map (·.2)
 kk:∀w∈kv.map (·.1),w∈rv.map (·.1)
theorem RS.frame{σ':Sto}(T:RS σ i k ro kv rv er es)(h1:∀a∈ro::rv.map (·.2),∀x,At σ a x->At σ' a x)(h2:∀a∈i::k::kv.map (·.2),∀x,At σ a x->At σ' a x):RS σ' i k ro kv rv er es:=
 ⟨T.rw_.frame h1,T.sh.frame h2,T.sp,T.kk⟩
theorem RS.cons(T:RS σ i k ro kv rv er es)(p:Addr×Obj×AO):RS (p::σ) i k ro kv rv er es:=T.frame (λ_ _ _ h=>h.cons _) λ_ _ _ h=>h.cons _
theorem RS.row(T:RS σ i k ro kv rv er es){σ':Sto}{w:Str}{b:Addr}{l:List (Int×List z0c)}(hb:(w,b)∈rv)(ok:EsOk w l)(U:UpdS σ σ' b (dI (esV l))):RS σ' i k ro kv rv (z1W er w l) es:=
 ⟨T.rw_.set hb ok U,T.sh.frame λa ha x hx=>U.at hx λe=>T.sp b (.tail _ (List.mem_map.mpr ⟨_,hb,rfl⟩)) (e▸ha),T.sp,T.kk⟩
theorem RS.shA(T:RS σ i k ro kv rv er es){σ':Sto}{w:Str}{a:Addr}{l:List (Int×List z0c)}(ha:(w,a)∈kv)(ok:EsOk w l)(U:UpdS σ σ' a (dI (esV l))):RS σ' i k ro kv rv er (z1W es w l):=
 ⟨T.rw_.frame λb hb x hx=>U.at hx λe=>T.sp b hb (e▸ .tail _ (.tail _ (List.mem_map.mpr ⟨_,ha,rfl⟩))),T.sh.set ha ok U,T.sp,T.kk⟩
theorem Rw.ats(S:Rw σ ro rv er){a:Addr}(h:a∈ro::rv.map (·.2)):∃x,At σ a x:=by
 rcases List.mem_cons.mp h with rfl|h
 ·exact⟨_,S.rows⟩
 ·apply z0p h;intro p hp
  exact⟨_,S.rin p hp⟩
theorem RS.shAdd(T:RS σ i k ro kv rv er es){σ':Sto}{w:Str}{b:Addr}{l:List (Int×List z0c)}(hno:w∉kv.map (·.1))(hwr:w∈rv.map (·.1))(hl:kv.length<12)(ok:EsOk w l)(hf:Fresh σ b)(h1:At σ' b (dI (esV l)))(h2:At σ' k (dS (kvV (kv++[(w,b)]))))(h3:∀p∈σ,p.1≠k->p∈σ'):
  RS σ' i k ro (kv++[(w,b)]) rv er (z1W es w l):=by
 refine⟨T.rw_.frame λa ha x ⟨o,hx⟩=>⟨o,h3 _ hx λe=>T.sp a ha (e▸ .tail _ (.head _))⟩,T.sh.add hno hl ok hf h1 h2 h3,λa ha hm=> ?_,λv hv=> ?_⟩
 ·have:a∈(i::k::kv.map (·.2))++[b]:=by simpa using hm
  rcases List.mem_append.mp this with h|h
  ·exact T.sp a ha h
  ·obtain⟨x,hx⟩:=T.rw_.ats ha
   exact hf.ne hx (List.mem_singleton.mp h)
 ·rw[List.map_append] at hv
  rcases List.mem_append.mp hv with h|h
  ·exact T.kk v h
  ·rw[List.mem_singleton.mp h];exact hwr
theorem RS.shDel(T:RS σ i k ro kv rv er es){σ₁ σ':Sto}{w:Str}{a:Addr}(ha:(w,a)∈kv)(U:UpdS σ σ₁ a (dI []))(U2:UpdS σ₁ σ' k (dS (kvV (kv.filter λp=>decide (p.1≠w))))):
  RS σ' i k ro (kv.filter λp=>decide (p.1≠w)) rv er (z1W es w []):=by
 refine⟨T.rw_.frame λb hb x hx=>U2.at (U.at hx λe=>T.sp b hb (e▸ .tail _ (.tail _ (List.mem_map.mpr ⟨_,ha,rfl⟩)))) λe=>T.sp b hb (e▸ .tail _ (.head _)),T.sh.del ha U U2,λb hb hm=>T.sp b hb ?_,λv hv=>T.kk v (((List.filter_sublist).map _).subset hv)⟩
 exact(((List.filter_sublist (l:=kv)).map (·.2)).cons_cons k).cons_cons i |>.subset hm
noncomputable def Kp(fp:List Addr)(σ σ':Sto):Prop:=∀p∈σ,p.1∉fp->p∈σ'
theorem Kp.refl{fp:List Addr}:Kp fp σ σ:=λp h _=>h
theorem Kp.upd{fp:List Addr}{τ τ':Sto}{a:Addr}{x:AO}(h:Kp fp σ τ)(ha:a∈fp)(U:UpdS τ τ' a x):Kp fp σ τ':=λp hp hn=>U.keep p (h p hp hn) λe=>hn (e▸ha)
theorem Kp.cons{fp:List Addr}{τ:Sto}(h:Kp fp σ τ)(p:Addr×Obj×AO):Kp fp σ (p::τ):=λp' hp hn=> .tail _ (h p' hp hn)
noncomputable def neV(es:Str->List (Int×List z0c)):V->Bool
 | .str w=> !(es w).isEmpty
 |_=>false
theorem z8I(ws:List Str):(ws.map V.str).filter (neV es)=(ws.filter λw=> !(es w).isEmpty).map V.str:=by
 rw[List.filter_map];rfl
theorem z8e{α:Type}:∀l:List α,(List.range l.length).filterMap (λj=>l[j]?)=l
 |[]=>rfl
 |x::l=>by
  rw[List.length_cons,List.range_succ_eq_map,List.filterMap_cons_some (f:=λj=>(x::l)[j]?) (b:=x) rfl,List.filterMap_map]
  have:((λj=>(x::l)[j]?)∘Nat.succ)=λj=>l[j]? :=by funext j;simp
  rw[this,z8e l]
theorem z9Q(xs:List V):slL xs (some 1) none none=xs.drop 1:=by
 cases xs with
 |nil=>rfl
 |cons x xs=>
  unfold slL
  have b1:sliceBounds (some 1) none none (x::xs).length=(((1:Nat):Int),((xs.length+1:Nat):Int),1):=by
   have h:max 0 (min (if(1:Int)<0 then 1+((xs.length+1:Nat):Int) else 1) ((xs.length+1:Nat):Int))=((1:Nat):Int):=z83 (Nat.le_add_left 1 xs.length)
   show(max 0 (min (if(1:Int)<0 then 1+((xs.length+1:Nat):Int) else 1) ((xs.length+1:Nat):Int)),((xs.length+1:Nat):Int),(1:Int))=_
   rw[h]
  rw[b1]
  show((sliceRange ((1:Nat):Int) ((xs.length+1:Nat):Int) 1).filterMap λj=>(x::xs)[j]?)=xs
  rw[sr1 (Nat.le_add_left 1 xs.length),List.filterMap_map,Nat.add_sub_cancel]
  have:((λj=>(x::xs)[j]?)∘λk=>1+k)=λj=>xs[j]? :=by
   funext j
   show(x::xs)[1+j]? =xs[j]?
   rw[Nat.add_comm];rfl
  rw[this,z8e]
theorem y0F(H:G1 C)(T:RS σ i k ro kv rv er es){w:Str}{mk:Int}{ns:List z0c}{nl:Addr}(hw:Ware w)(h1:1<=mk)(h2:mk<=999)(hnl:At σ nl (.list (ns.map z0h)))(hns:NeedsOk w ns)(hok:EsOk w (es w))(hnew:mk∉(es w).map (·.1))
  (hl:(es w).length<8) (hwr:w∈rv.map (·.1)) (hroom:w∉kv.map (·.1)->kv.length<12)
  (q:∀σ' kv',RS σ' i k ro kv' rv er (z1W es w (es w++[(mk,ns)]))->(∀p∈kv',p∈kv∨Fresh σ p.2)->Kp (i::k::kv.map (·.2)) σ σ'->Q .none σ'):CW C (d+4) (.ref 279) [.ref i,.str w,.int mk,.ref nl] σ Q:=by
 have ok2:=hok.add hnew hl h1 h2 hns
 refine y3o H T.sh hw h1 h2 hnl hns hnew (by lia) (λh=>Nat.ne_of_lt (hroom h)) (λa ha σ' U=> ?_) λhno b σ' hf a1 a2 a3=> ?_
 ·exact q σ' kv (T.shA ha ok2 U) (λp h=> .inl h) (Kp.refl.upd (.tail _ (.tail _ (List.mem_map.mpr ⟨_,ha,rfl⟩))) U)
 ·have e:es w=[]:=T.sh.out w hno
  rw[e] at q ok2
  refine q σ' _ (T.shAdd hno hwr (hroom hno) ok2 hf a1 a2 a3) (λp h=> ?_) λp hp hn=>a3 p hp λe=>hn (e▸ .tail _ (.head _))
  rcases List.mem_append.mp h with h|h
  ·exact .inl h
  ·rw[List.mem_singleton.mp h];exact .inr hf
theorem Kp.trans{fp fp':List Addr}{τ τ':Sto}(h:Kp fp σ τ)(h':Kp fp' τ τ')(hs:∀a∈fp',a∈fp):Kp fp σ τ':=λp hp hn=>h' p (h p hp hn) λe=>hn (hs _ e)
theorem NeedsOk.tl{w:Str}{ns:List z0c}(h:NeedsOk w ns):NeedsOk w (ns.drop 1):=
 ⟨Nat.le_trans (List.drop_sublist _ _).length_le h.len,λn hn=>h.ok n (List.mem_of_mem_drop hn),λn hn=>h.ne n (List.mem_of_mem_drop hn),((List.drop_sublist 1 ns).map _).nodup h.nd⟩
theorem y5k{ns:List z0c}(h:ns.length<=6)(q:NLq Q ((ns.drop 1).map z0h) σ):SubR C d (.lst (ns.map z0h)) (.slc (.int 1) .none .none) σ Q:=
 z0B (.lst _) (.int _) .none .none (λe=>nomatch e) (z0z h (by decide)) (by rw[z9Q,<-List.map_drop];exact q)
noncomputable abbrev fpR(i k ro:Addr)(kv rv:List (Str×Addr)):List Addr:=(ro::rv.map (·.2))++(i::k::kv.map (·.2))
inductive Sc1(σ:Sto)(i k ro:Addr)(kv rv:List (Str×Addr))(w:Str)(l1:List (Int×List z0c))(L:Loc):Loc->Sto->Prop
 |mk {kv':List (Str×Addr)} {E:Str->List (Int×List z0c)} {τ:Sto}:E w=l1->(∀v,(E v).length<=4)->RS τ i k ro kv' rv E E->Kp (fpR i k ro kv rv) σ τ->(∀p∈kv',p∈kv)->(w∉kv'.map (·.1)->kv'.length<12)->Sc1 σ i k ro kv rv w l1 L L τ
inductive Sc2(σ:Sto)(i k ro:Addr)(kv rv:List (Str×Addr))(w:Str)(l1:List (Int×List z0c))(c:Prop)(L:Loc):Loc->Sto->Prop
 |mk {kv':List (Str×Addr)} {E:Str->List (Int×List z0c)} {τ:Sto}:(∀v,(E v).length<=4)->RS τ i k ro kv' rv E E->Kp (fpR i k ro kv rv) σ τ->(∀p∈kv',p∈kv∨∀z∈σ,z.1∉fpR i k ro kv rv->z.1≠p.2)->(c∨E w=l1/\(∀p∈kv',p∈kv)/\(w∉kv'.map (·.1)->kv'.length<12))->Sc2 σ i k ro kv rv w l1 c L L τ
theorem z8Z{kv1:List (Str×Addr)}(hsub:∀p∈kv1,p∈kv):∀a∈i::k::kv1.map (·.2),a∈fpR i k ro kv rv:=λa h=>by
 refine List.mem_append_right _ ?_
 rcases List.mem_cons.mp h with rfl|h
 ·exact .head _
 ·rcases List.mem_cons.mp h with rfl|h
  ·exact .tail _ (.head _)
  ·apply z0p h;intro p hp
   exact .tail _ (.tail _ (List.mem_map.mpr ⟨p,hsub p hp,rfl⟩))
noncomputable def z1Q(r1:Stmt):TC:=⟨[.rawS r1,.loc 3,.loc 2,.loc 3,.len,.binc .Mod,.sub,.asg 4,.loc 1,.loc 4,.sub,.call (.type "list") 1,.loc 2,.psh (.int 7),.binc .FloorDiv,.loc 1,.loc 4,.sub,.len,.binc .Mod,.sub,.asg 5,.loc 1,.loc 4,.sub,.mty "dict",.loc 5,.meth (.bi "dict.pop") 1,.asg 6,.cut [.loc 0,.mI 310 "take",.loc 4,.loc 5,.meth (.ref 286) 2,.pop],.psh (.int 1),.loc 5,.loc 2,.psh (.int 147),.binc .FloorDiv,.binc .Add,.psh (.int 999),.binc .Mod,.binc .Add,.asg 7,.cut [.loc 2,.psh (.int 49),.binc .FloorDiv,.psh (.int 3),.binc .Mod,.psh (.int 1),.tcmpc .Eq,.ife [.loc 0,.mI 310 "put",.loc 4,.loc 5,.loc 6,.psh (.int 1),.psh .none,.psh .none,.slc,.sub,.meth (.ref 279) 3,.pop,.loc 6,.psh (.int 1),.psh .none,.psh .none,.slc,.sub,.loc 1,.loc 4,.sub,.loc 5,.setI] []],.loc 2,.psh (.int 49),.binc .FloorDiv,.psh (.int 3),.binc .Mod,.psh (.int 2),.tcmpc .Eq,.mop .And [.loc 7,.loc 1,.loc 4,.sub,.tcmpc .NotIn,.mop .And [.psh (.bool true)]],.ife [.loc 0,.mI 310 "put",.loc 4,.loc 7,.loc 6,.call (.type "list") 1,.meth (.ref 279) 3,.pop,.loc 6,.loc 1,.loc 4,.sub,.loc 7,.setI] []],[.inl r1],[([0],none)]⟩
--z1Q 1
theorem z28(H:G1 C)(T:RS σ i k ro kv rv es es)(hex:∃p∈rv,es p.1≠[])(h4:∀w,(es w).length<=4){n:Int}
  (q:∀σ' kv' es',RS σ' i k ro kv' rv es' es'->(∀w,(es' w).length<=4)->(∀p∈kv',p∈kv∨∀z∈σ,z.1∉fpR i k ro kv rv->z.1≠p.2)->Kp (fpR i k ro kv rv) σ σ'->Q .none σ'):CW C (d+5) (.ref 435) [.ref i,.ref ro,.int n] σ Q:=by
 refine z0G (G1.kin (by assumption)) ["_law_shop_here","_law_rows_here","_law_number","_law_wares","_law_ware","_law_make","_law_needs_here","_law_other_here"] [("len",.bi "len"),("list",.type "list")] (by kernel_rfl) (vs3 λ_ _ _=>by kernel_rfl) rfl (z0a (z0Q (by assumption)) (z0a (z0T (by assumption)) GL_nil)) ?_
 intro env hsc
 have S:=T.rw_
 have hrn:((kvV rv).map (·.1)).Nodup:=by rw[z0x];exact S.rwn
 have hro:=S.rows
 obtain⟨oro,hrm⟩:=S.rows
 refine z0e (z0l H) (z0m H) (z1Q _) (by exact rfl) (by kernel_rfl) ?_
 intro F m0
 refine Leaf.mk ?_
 show AS C env ["_law_shop_here","_law_rows_here","_law_number","_law_wares","_law_ware","_law_make","_law_needs_here","_law_other_here"] _ true _ (exec _ env) [some (.ref i),some (.ref ro),some (.int n),none,none,none,none,none] σ _
 refine z1e "_law_ware" ["_law_rows_here"] [] (z11 (by rw[hsc];kernel_rfl)) (by rw[hsc];kernel_rfl) GL_nil (.cons LkC.lk .nil) (z9c (KK.str C.prog C.w) H.ns ?_)
 with_reducible refine z0n ?_
 refine⟨ro,oro,kvV rv,rfl,hrm,hrn,z0z (n:=12) (by rw[List.length_map];exact S.rl) (by decide),λenv' he=>z1z (f:=id) (t:=neV es) (z0u he (by decide+kernel)) hrm _ _ _ (λX hX K hK=> ?_) (λX hX _ K hK=> ?_) ?_⟩
 ·rw[y3n] at hX
  obtain⟨w,hw,rfl⟩:=List.mem_map.mp hX
  obtain⟨b,hb,hrb,hat⟩:=S.at hw
  have hen:((esV (es w)).map (·.1)).Nodup:=by rw[z0s];exact(S.eok w).nd
  repeat' with_reducible first|refine z0n ?_|refine z1i ?_|refine y2F (G1.ns (by assumption)) ?_|refine z2k (by assumption) (by assumption) (by assumption) ?_
  refine y5M hat hen ?_
  rw[show(!(esV (es w)).isEmpty)=neV es (.str w) by show _= !(es w).isEmpty;cases es w<;>rfl]
  exact hK
 ·with_reducible refine z0n ?_
  exact hK
 rw[List.nil_append,y3n,List.map_id,z8I]
 clear hsc
 generalize hws:(rv.map (·.1)).filter (λw=> !(es w).isEmpty)=ws
 with_reducible refine z2t ?_
 have hwl:0<ws.length:=by
  obtain⟨p,hp,hpe⟩:=hex
  refine List.length_pos_of_mem (a:=p.1) ?_
  rw[<-hws]
  exact List.mem_filter.mpr ⟨List.mem_map.mpr ⟨p,hp,rfl⟩,by cases e:es p.1 with|nil=>exact absurd e hpe|cons _ _=>rfl⟩
 have hwl2:ws.length<=12:=by
  have:=List.length_filter_le (λw=> !(es w).isEmpty) (rv.map (·.1))
  rw[hws,List.length_map] at this;exact Nat.le_trans this S.rl
 refine Leaf.mk (z0L (n:=ws.length) (.lst _) (List.length_map _) (z0z hwl2 (by decide)) ?_)
 refine z09 hwl λkk a2=> ?_
 have hwm0:ws[kk]∈ws:=List.getElem_mem a2
 refine Leaf.mk (z04 (.lst _) (Nat.lt_of_lt_of_le a2 (Nat.le_trans hwl2 (by decide))) (show(ws.map V.str)[kk]? =some (.str ws[kk]) by rw[List.getElem?_map,List.getElem?_eq_getElem a2];rfl) ?_)
 generalize ws[kk]=w at hwm0
 rw[<-hws] at hwm0
 obtain⟨hwm,hwe⟩:=List.mem_filter.mp hwm0
 clear hwm0 hws hex hrm a2 kk hwl hwl2
 obtain⟨b,hb,hrb,hat⟩:=S.at hwm
 have hw:=S.wok _ hb
 have hok:=S.eok w
 have hen:((esV (es w)).map (·.1)).Nodup:=by rw[z0s];exact hok.nd
 have hpos:0<(esV (es w)).length:=by
  cases e:es w with
  |nil=>rw[e] at hwe;cases hwe
  |cons _ _=>exact Nat.succ_pos _
 clear hwe
 have hl4:(es w).length<=4:=h4 w
 refine Leaf.mk (z2k hro hrn hrb ?_)
 refine Leaf.mk (y1n H.ns hat hen (z0z hl4 (by decide)) (.inl ?_))
 refine Leaf.mk (z2k hro hrn hrb ?_)
 refine Leaf.mk (z81 H.ns hat hen (z0z hl4 (by decide)) ?_)
 refine z09 hpos λkk a2=> ?_
 obtain⟨⟨mk,ns⟩,he⟩:∃p,(es w)[kk]? =some p:=⟨_,List.getElem?_eq_getElem (by rw[esV,List.length_map] at a2;exact a2)⟩
 have hmem:=List.mem_of_getElem? he
 have hk1:kk<1000:=Nat.lt_of_lt_of_le (List.getElem?_eq_some_iff.mp he).1 (Nat.le_trans hl4 (by decide))
 refine Leaf.mk (z04 (X:= .int mk) (.lst _) hk1 (by unfold esV;rw[List.getElem?_map,List.getElem?_map,he];rfl) ?_)
 clear he a2 hk1 hpos kk
 have hns:=hok.nok _ hmem
 have hmb:=hok.mb _ hmem
 have hv:vAt (esV (es w)) mk=some (.lst (ns.map z0h)):=z0X hen (List.mem_map.mpr ⟨_,hmem,rfl⟩)
 refine Leaf.mk (z2k hro hrn hrb ?_)
 refine Leaf.mk ⟨tyD hat,?_⟩
 refine Leaf.mk (z9y hat hen (z0z hl4 (by decide)) hv λσ1 U1=> ?_)
 rw[y3u] at U1
 have ok1:EsOk w ((es w).filter λp=>decide (p.1≠mk)):=hok.filter _
 have T1:=T.row hb ok1 U1
 have hbf:b∈fpR i k ro kv rv:=List.mem_append_left _ (.tail _ (List.mem_map.mpr ⟨_,hb,rfl⟩))
 have K1:Kp (fpR i k ro kv rv) σ σ1:=Kp.refl.upd hbf U1
 obtain⟨a,ha⟩:∃a,(w,a)∈kv:=by
  by_cases h:w∈kv.map (·.1)
  ·obtain⟨⟨w',a⟩,h2,h3⟩:=List.mem_map.mp h
   exact⟨a,h3▸h2⟩
  ·rw[T.sh.out w h] at hmem;cases hmem
 have hafp:a∈fpR i k ro kv rv:=List.mem_append_right _ (.tail _ (.tail _ (List.mem_map.mpr ⟨_,ha,rfl⟩)))
 have hl1:((es w).filter λp=>decide (p.1≠mk)).length<4:=Nat.lt_of_lt_of_le (List.length_filter_lt_length_iff_exists.mpr ⟨_,hmem,by simp⟩) hl4
 have hnew1:mk∉((es w).filter λp=>decide (p.1≠mk)).map (·.1):=λh=>by
  obtain⟨p,hp,e⟩:=List.mem_map.mp h
  exact of_decide_eq_true (List.mem_filter.mp hp).2 e
 generalize hl1e:(es w).filter (λp=>decide (p.1≠mk))=l1 at ok1 T1 hl1 hnew1 U1
 clear hat hro hok hen hv U1
 refine Leaf.mk ⟨Sc1 σ i k ro kv rv w l1 [some (.ref i),some (.ref ro),some (.int n),some (.lst (ws.map V.str)),some (.str w),some (.int mk),some (.lst (ns.map z0h)),none],λK hK _=> ?_,λm τ hI=> ?_⟩
 ·obtain⟨dx,hin⟩:=T1.sh.inst
  refine Leaf.mk (z0I hin (by decide+kernel) ?_)
  refine Leaf.mk (fnc (y37 H T1.sh hw hmb.1 hmb.2 hmem ha (λ_ τ U=> ?_) (λe τ1 τ U U2=> ?_)))
  ·rw[hl1e] at U
   exact hK _ _ (.mk (z0y _ _ _) (z1Y (P:=λ_ l=>l.length<=4) h4 (Nat.le_of_lt hl1)) (T1.shA ha ok1 U) (K1.upd hafp U) (λp h=>h) λh=>absurd (List.mem_map.mpr ⟨_,ha,rfl⟩) h)
  ·rw[hl1e] at e
   subst e
   exact hK _ _ (.mk (z0y _ _ _) (z1Y (P:=λ_ l=>l.length<=4) h4 (Nat.zero_le _)) (T1.shDel ha U U2) ((K1.upd hafp U).upd (List.mem_append_right _ (.tail _ (.head _))) U2) (λp h=>(List.mem_filter.mp h).1) λ_=>Nat.lt_of_lt_of_le (List.length_filter_lt_length_iff_exists.mpr ⟨_,ha,by simp⟩) T.sh.kl)
 clear T1 K1 hl1e hmem ha hafp hl4
 refine hI.casesOn @λkv1 E τ hE hE4 T2 K2 hsub hroom=> ?_
 have hfp1:=z8Z (i:=i) (k:=k) (ro:=ro) (rv:=rv) hsub
 have okE:EsOk w (E w):=hE▸ok1
 have ot1:1<=1+(mk+n.fdiv 147).fmod 999:=Int.le_add_of_nonneg_right (Int.fmod_nonneg_of_pos _ (by decide))
 have ot2:1+(mk+n.fdiv 147).fmod 999<=999:=by have:=Int.fmod_lt_of_pos (mk+n.fdiv 147) (show(0:Int)<999 by decide);lia
 refine Leaf.mk ⟨Sc2 σ i k ro kv rv w l1 ((n.fdiv 49).fmod 3=1) [some (.ref i),some (.ref ro),some (.int n),some (.lst (ws.map V.str)),some (.str w),some (.int mk),some (.lst (ns.map z0h)),some (.int (1+(mk+n.fdiv 147).fmod 999))],λK hK _=> ?_,λm τ2 hI=> ?_⟩
 ·refine z0o (λhbb=> ?_) λ_=>hK _ _ (.mk hE4 T2 K2 (λp hp=> .inl (hsub p hp)) (.inr ⟨hE,hsub,hroom⟩))
  obtain⟨dx,hin⟩:=T2.sh.inst
  refine Leaf.mk (z0I hin (by decide+kernel) ?_)
  refine Leaf.mk (y5k hns.len (y5P λnl onl=> ?_))
  refine Leaf.mk (fnc (y0F H (T2.cons (nl,onl,.list ((ns.drop 1).map z0h))) hw hmb.1 hmb.2 At.hd hns.tl okE (by rw[hE];exact hnew1) (by rw[hE];exact Nat.lt_of_lt_of_le hl1 (by decide)) hwm hroom (λσ2 kv2 T4 F4 K4=> ?_)))
  have hbat2:At σ2 b (dI (esV l1)):=by have:=T4.rw_.rin _ hb;rw[hE] at this;exact this
  refine Leaf.mk (y5k hns.len (z0Z ?_))
  refine Leaf.mk (z2k T4.rw_.rows hrn hrb ?_)
  refine Leaf.mk (z4U hbat2 (by rw[z0s];exact ok1.nd) (z0z (Nat.le_of_lt hl1) (by decide)) λσ3 U=> ?_)
  rw[z1w (by rw[z0s];exact hnew1),<-z4L] at U
  rw[hE] at T4
  exact hK _ _ (.mk (z1Y (P:=λ_ l=>l.length<=4) hE4 (by rw[List.length_append];exact hl1)) (T4.row hb (ok1.add hnew1 (Nat.lt_of_lt_of_le hl1 (by decide)) hmb.1 hmb.2 hns.tl) U) (((K2.cons _).trans K4 hfp1).upd hbf U) (λp hp=>(F4 p hp).imp (hsub p) λhf z hz hn=>hf z (.tail _ (K2 z hz hn))) (.inl (of_decide_eq_true hbb)))
 clear T2 K2 hsub hroom hfp1 okE hE hE4
 refine hI.casesOn @λkv2 E2 τ2 hE5 T3 K3 F3 hor=> ?_
 refine z0o (λhb2=> ?_) λ_=>q _ _ _ T3 hE5 F3 K3
 obtain⟨hE,hsub,hroom⟩:E2 w=l1/\(∀p∈kv2,p∈kv)/\(w∉kv2.map (·.1)->kv2.length<12):=by
  rcases hor with h|h
  ·have h2:(n.fdiv 49).fmod 3=2:=of_decide_eq_true hb2;rw[h] at h2;cases h2
  ·exact h
 have hfp1:=z8Z (i:=i) (k:=k) (ro:=ro) (rv:=rv) hsub
 have okE:EsOk w (E2 w):=hE▸ok1
 have hbat:At τ2 b (dI (esV l1)):=by have:=T3.rw_.rin _ hb;rw[hE] at this;exact this
 have hen2:((esV l1).map (·.1)).Nodup:=by rw[z0s];exact ok1.nd
 refine Leaf.mk (z2k T3.rw_.rows hrn hrb ?_)
 refine Leaf.mk (z8D H.ns hbat hen2 (z0i ?_))
 generalize 1+(mk+n.fdiv 147).fmod 999=ot at ot1 ot2
 by_cases hm:ot∈l1.map (·.1)
 ·obtain⟨p,hp,rfl⟩:=List.mem_map.mp hm
  refine z0D (by rw[z0X (X:= .lst (p.2.map z0h)) hen2 (List.mem_map.mpr ⟨p,hp,rfl⟩)];rfl) ?_
  exact q _ _ _ T3 hE5 F3 K3
 ·refine z0A (by rw[z1k (by rw[z0s];exact hm)];rfl) ?_
  obtain⟨dx,hin⟩:=T3.sh.inst
  refine Leaf.mk (z0I hin (by decide+kernel) ?_)
  refine Leaf.mk (z1g (.lst _) (z0z hns.len (by decide)) (.inr λnl onl hfn=> ?_))
  refine Leaf.mk (fnc (y0F H (T3.cons (nl,onl,.list (ns.map z0h))) hw ot1 ot2 At.hd hns okE (by rw[hE];exact hm) (by rw[hE];exact Nat.lt_of_lt_of_le hl1 (by decide)) hwm hroom (λσ2 kv3 T5 F5 K5=> ?_)))
  have hbat2:At σ2 b (dI (esV l1)):=by have:=T5.rw_.rin _ hb;rw[hE] at this;exact this
  refine Leaf.mk (z2k T5.rw_.rows hrn hrb ?_)
  refine Leaf.mk (z4U hbat2 hen2 (z0z (Nat.le_of_lt hl1) (by decide)) λσ3 U=> ?_)
  rw[z1w (by rw[z0s];exact hm),<-z4L] at U
  rw[hE] at T5
  exact q _ _ _ (T5.row hb (ok1.add hm (Nat.lt_of_lt_of_le hl1 (by decide)) ot1 ot2 hns) U) (z1Y (P:=λ_ l=>l.length<=4) hE5 (by rw[List.length_append];exact hl1)) (λp hp=>(F5 p hp).imp (hsub p) λhf z hz hn=>hf z (.tail _ (K3 z hz hn))) (((K3.cons _).trans K5 hfp1).upd hbf U)
end
end
section
section
variable {C:Cx} {d:Nat} {σ:Sto} {Q:V->Sto->Prop} {i k ro:Addr} {kv rv:List (Str×Addr)} {es:Str->List (Int×List z0c)} {wi:List z0c} {ps:List (Str×Int)} {w:Str}
theorem Rw.gr(S:Rw σ ro rv es)(ok:WishOk wi):Gr es wi:=
 ⟨ok,λw=>(S.eok w).nd,λw p hp=>⟨by obtain⟨b,hb,e⟩:=List.mem_map.mp (S.inRv hp);rw[<-e];exact S.wok b hb,(S.eok w).mb p hp⟩,λw p hp n hn=>(((S.eok w).nok p hp).ok n hn).w,λpk hn pi=>Nat.le_trans (y1J S hn pi) S.rl,λw=>(S.eok w).len⟩
theorem y5p(pb:PkB ps):∀z∈ps.map prV,Dn σ 1 z z:=λz hz=>by
 apply z0p hz;intro p hp
 exact z2i (z0j (.str _ (pb.ok p hp).1.asc) (z0j (.int _) z07)) (Nat.le_of_ble_eq_true rfl)
theorem z5M{α β:Type}(f:α->β):∀(l:List α) (j:Nat),(l.map f).eraseIdx j=(l.eraseIdx j).map f
 |[],_=>rfl
 |_::_,0=>rfl
 |x::l,j+1=>congrArg (f x::·) (z5M f l j)
theorem y13(pb:PkB ps)(pi:PkIn es ps)(j:Nat):PkB (ps.eraseIdx j)/\PkIn es (ps.eraseIdx j)/\(ps.map prV).eraseIdx j=(ps.eraseIdx j).map prV:=
 ⟨pb.sub (List.eraseIdx_sublist ..),λp hp=>pi p ((List.eraseIdx_sublist ..).subset hp),z5M ..⟩
theorem y4m(pb:PkB ps)(pi:PkIn es ps){j:Nat}{p:Str×Int}(h:ps[j]? =some p){mk:Int}{ns:List z0c}(hm:(mk,ns)∈es p.1)(h1:1<=mk/\mk<=999):PkB (ps.set j (p.1,mk))/\PkIn es (ps.set j (p.1,mk))/\(ps.map prV).set j (.tup [.str p.1,.int mk])=(ps.set j (p.1,mk)).map prV:=by
 obtain⟨hj,e⟩:=List.getElem?_eq_some_iff.mp h
 have mem:∀z∈ps.set j (p.1,mk),z∈ps∨z=(p.1,mk):=λz hz=>List.mem_or_eq_of_mem_set hz
 refine⟨⟨?_,by rw[List.length_set];exact pb.len,λz hz=> ?_⟩,λz hz=> ?_,?_⟩
 ·rw[List.map_set,show(p.1,mk).1=(ps.map (·.1))[j]'(by rw[List.length_map];exact hj) by rw[List.getElem_map,e],List.set_getElem_self];exact pb.nd
 ·rcases mem z hz with h'|rfl
  ·exact pb.ok z h'
  ·exact⟨(pb.ok p (List.mem_of_getElem? h)).1,h1⟩
 ·rcases mem z hz with h|rfl
  ·exact pi z h
  ·exact⟨ns,hm⟩
 ·rw[List.map_set];rfl
inductive Thg(es:Str->List (Int×List z0c))(wi:List z0c):Sto->V->V->Prop
 |odd {ν:Sto} {X T:V}:Dn ν 21 X T->(∀ps,hB es wi 7 ps T=false)->Thg es wi ν X T
 |good {w:Str} {b:Addr} {o:Obj} {us:List V} {X2 T2:V} {ν:Sto}:Fresh ν b->us.length<=199->(∀z∈us,Dn ν 2 z z)->Dn ν 20 X2 T2->Asc w->Thg es wi ((b,o,.list us)::ν) (.tup [.str w,.ref b,X2]) (.tup [.str w,.lst us,T2])
theorem Thg.dn{ν:Sto}{X T:V}(h:Thg es wi ν X T)(hs:∀p∈ν,p∈σ):Dn σ 21 X T:=by
 cases h with
 |odd h _=>exact h.mono λa x ⟨o,h⟩=>⟨o,hs _ h⟩
 |good h3 h4 h5 h6 h7=>exact y0o (λp hp=>hs p (.tail _ hp)) ⟨_,hs _ (.head _)⟩ (Nat.le_trans h4 (by decide)) h5 h6 h7
theorem OtR.thg{a:Addr}{o:Obj}{ss:List V}{X:V}{ν:Sto}(h:OtR [(a,o,.list ss)] (.ref a) 5 X ν)(hs:∀s∈ss,SrV s)(hl:ss.length<=99)(hn:(foot ν).Nodup):∃T,Thg es wi ν X T:=by
 cases h with
 |odd h1 h2=>exact⟨_,.odd (h1.up (by decide)) λps=>h2 es wi ps 7⟩
 |same hw h2=>exact⟨_,.good (z8k hn) (Nat.le_trans hl (by decide)) (λz hz=>(hs z hz).dn.up (by decide)) (h2.up (by decide)) hw⟩
 |fresh hw hf hz hd h2=>exact⟨_,.good hf (Nat.le_trans hz (by decide)) hd ((h2 _).up (by decide)) hw⟩
theorem z4h(H:G1 C){ws:List Str}(hw:∀w∈ws,Ware w)(hw0:0<ws.length)(hwl:ws.length<=20){ss:List V}{bs:List (Int×V)}(hww:Asc w)(h0:0<ss.length)(hl:ss.length<=99)(hs:∀s∈ss,SrV s)(hb8:bs.length<=8)(hm:∀b∈bs,1<=b.1/\b.1<=999)(hr:∀b∈bs,ROk 5 b.2){num:Int}{a sa:Addr}{o osa:Obj}{xs:List V}
  (q:∀X T ν σ',Thg es wi ν X T->(∀p∈σ,p∈σ')->(∀p∈ν,p∈σ')->(∀p∈ν,Fresh σ p.1/\p.1≠sa)->At σ' sa (.list xs)->Q X σ'):
  CW C (d+8) (.ref 425) [.tup [.str w,.ref a,.lst (bs.map aV)],.lst (ws.map V.str),.int num] ((sa,osa,.list xs)::(a,o,.list ss)::σ) Q:=by
 refine z6d (σ:=(sa,osa,.list xs)::σ) (τ:=[(a,o,.list ss)]) (.cons _ (show List.Perm ((a,o,AO.list ss)::σ) (σ++[(a,o,AO.list ss)]) from List.perm_append_comm (l₁:=[(a,o,AO.list ss)]))) (z47 (d:=d+5) H hw hw0 hwl (z6Y H hw hw0 hwl 5) hww h0 hl hs hb8 hm hr (.refL (.head _)) λX ν ot nd=> ?_)
 rw[z0F] at nd
 obtain⟨n1,n2,n3⟩:=List.nodup_append.mp nd
 obtain⟨T,hT⟩:=ot.thg (es:=es) (wi:=wi) hs hl n2
 exact q X T ν _ hT (λp hp=>List.mem_append_left _ (.tail _ hp)) (λp hp=>List.mem_append_right _ hp) (λp hp=>⟨λz hz e=>n3 _ (z1t (.tail _ hz)) _ (z1t hp) e,λe=>n3 _ (z1t (.head _)) _ (z1t hp) e.symm⟩) ⟨_,.head _⟩
theorem z8B(H:G1 C)(g:Gr es wi)(S:Shp σ i k kv es)(pb:PkB ps)(pi:PkIn es ps){ha:Addr}(hy:At σ ha (.list (ps.map prV))){ν:Sto}{X T:V}(h:Thg es wi ν X T)(hν:∀p∈ν,p∈σ)(hd:∀p∈ν,p.1∉ha::i::k::kv.map (·.2))(hB1:hB es wi 7 ps T=true)
  (q:∀σ',(∀p∈σ,(∀z∈ν,z.1≠p.1)->p∈σ')->(∀a x,At ν a x->At σ' a x)->Q (.bool true) σ'):CW C (d+15) (.ref 447) [.ref i,.lst (wi.map z0h),.ref ha,X] σ Q:=by
 cases h with
 |odd _ h=>rw[h] at hB1;cases hB1
 |good h3 h4 h5 h6 h7=>
  have h8:=hd _ (.head _)
  refine z5B H g S pb pi hy ⟨_,hν _ (.head _)⟩ h4 (λp hp=>hν p (.tail _ hp)) h3 h5 h6 h7 (λh=>h8 (.tail _ h)) (λe=>h8 (e▸ .head _)) hB1 λσ' U=>q σ' (λp hp hn=>U.keep p hp λe=>hn _ (.head _) e.symm) λa x hx=> ?_
  obtain⟨o,hx⟩:=hx
  rcases List.mem_cons.mp hx with e|hx
  ·cases e;exact U.here
  ·exact⟨o,U.keep _ (hν _ (.tail _ hx)) (h3 _ hx)⟩
inductive AskOk(es:Str->List (Int×List z0c))(wi:List z0c)(τ:Sto):V->Prop
 |mk {ps:List (Str×Int)} {X T:V}:PkB ps->PkIn es ps->Dn τ 21 X T->AskOk es wi τ (.tup [.lst (ps.map prV),X,.bool (hB es wi 7 ps T)])
theorem AskOk.mono{τ τ':Sto}{X:V}(h:AskOk es wi τ X)(hs:∀a x,At τ a x->At τ' a x):AskOk es wi τ' X:=by
 cases h with
 |mk a b c=>exact .mk a b (c.mono hs)
structure Wd(i k ro:Addr)(kv rv:List (Str×Addr))(es:Str->List (Int×List z0c))(wi:List z0c)(ha aa:Addr)(τ:Sto)(E:List V)(σ:Sto):Prop where
 t:RS σ i k ro kv rv es es
 h:∃hs:List V,hs.length<=12/\At σ ha (.list hs)
 a:At σ aa (.list E)
 s:∀a x,At τ a x->At σ a x
 f:∀p∈τ,p.1∉ha::aa::fpR i k ro kv rv
 e:∀X∈E,AskOk es wi τ X
theorem RS.ats7(T:RS σ i k ro kv rv es es){a:Addr}(h:a∈fpR i k ro kv rv):∃x,At σ a x:=by
 rcases List.mem_append.mp h with h|h
 ·exact T.rw_.ats h
 ·rcases List.mem_cons.mp h with rfl|h
  ·obtain⟨dx,h⟩:=T.sh.inst;exact⟨_,h⟩
  ·rcases List.mem_cons.mp h with rfl|h
   ·exact⟨_,T.sh.kept⟩
   ·apply z0p h;intro p hp
    exact⟨_,T.sh.inn p hp⟩
theorem RS.keep(T:RS σ i k ro kv rv es es){τ:Sto}(h:∀p∈σ,p.1∈fpR i k ro kv rv->p∈τ):RS τ i k ro kv rv es es:=
 T.frame (λa ha x ⟨o,e⟩=>⟨o,h _ e (List.mem_append_left _ ha)⟩) λa ha x ⟨o,e⟩=>⟨o,h _ e (List.mem_append_right _ ha)⟩
variable {ha aa:Addr} {τ ν σ':Sto} {E:List V}
theorem Wd.apart(W:Wd i k ro kv rv es wi ha aa τ E σ){b:Addr}(hb:Fresh σ b):b∉ha::aa::fpR i k ro kv rv:=λh=>by
 rcases List.mem_cons.mp h with rfl|h
 ·obtain⟨hs,_,hh⟩:=W.h;exact hb.ne hh rfl
 ·rcases List.mem_cons.mp h with rfl|h
  ·exact hb.ne W.a rfl
  ·obtain⟨x,hx⟩:=W.t.ats7 h;exact hb.ne hx rfl
theorem Wd.next(W:Wd i k ro kv rv es wi ha aa τ E σ)(hnd:(ha::aa::fpR i k ro kv rv).Nodup)(hν:∀p∈ν,Fresh σ p.1)(kp:∀p∈σ,p.1≠ha->p.1≠aa->p∈σ')(kν:∀a x,At ν a x->At σ' a x){hs:List V}(hl:hs.length<=12)(h1:At σ' ha (.list hs)){Y:V}(h2:At σ' aa (.list (E++[Y])))(ask:AskOk es wi ν Y):Wd i k ro kv rv es wi ha aa (τ++ν) (E++[Y]) σ':=by
 have off:∀b∈fpR i k ro kv rv,b≠ha/\b≠aa:=λb hb=>⟨λe=>(List.nodup_cons.mp hnd).1 (.tail _ (e▸hb)),λe=>(List.nodup_cons.mp (List.nodup_cons.mp hnd).2).1 (e▸hb)⟩
 have mT:∀a x,At τ a x->At (τ++ν) a x:=λa x h=>by obtain⟨o,h⟩:=h;exact⟨o,List.mem_append_left _ h⟩
 have mN:∀a x,At ν a x->At (τ++ν) a x:=λa x h=>by obtain⟨o,h⟩:=h;exact⟨o,List.mem_append_right _ h⟩
 refine⟨W.t.keep λp hp hf=>kp p hp (off _ hf).1 (off _ hf).2,⟨hs,hl,h1⟩,h2,λa x h=> ?_,λp hp=> ?_,λX hX=> ?_⟩
 ·obtain⟨o,h⟩:=h
  rcases List.mem_append.mp h with h|h
  ·have hf:=W.f _ h
   obtain⟨o',h'⟩:=W.s a x ⟨o,h⟩
   exact⟨o',kp _ h' (λe=>hf (e▸ .head _)) λe=>hf (e▸ .tail _ (.head _))⟩
  ·exact kν a x ⟨o,h⟩
 ·rcases List.mem_append.mp hp with h|h
  ·exact W.f p h
  ·exact W.apart (hν p h)
 ·rcases List.mem_append.mp hX with h|h
  ·exact(W.e X h).mono mT
  ·rw[List.mem_singleton.mp h];exact ask.mono mN
inductive RsnOk(w:Str)(ss:List V)(bs:List (Int×V)):Prop
 |mk:Asc w->0<ss.length->ss.length<=99->(∀s∈ss,SrV s)->bs.length<=8->(∀b∈bs,1<=b.1/\b.1<=999)->(∀b∈bs,ROk 5 b.2)->(∀τ,Dn τ 18 (.tup [.str w,.lst ss,.lst (bs.map aV)]) (.tup [.str w,.lst ss,.lst (bs.map aV)]))->RsnOk w ss bs
theorem y4G(H:G1 C)(g:Gd es wi)(S:Shp σ i k kv es){n:Int}(h0:0<=n)(q:∀ps w ss bs σ',(∀p∈σ,p∈σ')->PkB ps->PkIn es ps->RsnOk w ss bs->Q (.tup [.lst (ps.map prV),.tup [.str w,.lst ss,.lst (bs.map aV)]]) σ'):CW C (d+15) (.ref 390) [.ref i,.lst (wi.map z0h),.int n] σ Q:=
 z7R H g S (.lst _) h0 λps Z σ' a b c hZ=>by
  have hD:∀τ,Dn τ 18 Z Z:=λτ=>hZ.dn (n:=6)
  cases hZ with
  |mk h1 h2 h3 h4 h5 h6 h7=>exact q ps _ _ _ σ' a b c ⟨h1.asc,List.length_pos_iff.mpr h2,h3,h4,h5,h6,h7,hD⟩
theorem z67{ws:List Str}{x:Str}(hl:ws.length<=100)(q:Q (.lst ((ws++[x]).map V.str)) σ):AC2 C d (binaryOp .Add) (.lst (ws.map V.str)) (.lst [.str x]) σ Q:=
 z08 (.lst _) (.lst _) (by rw[List.length_map];exact Nat.le_trans (Nat.succ_le_succ hl) (by decide)) (z0Z (by rw[show ws.map V.str++[.str x]=(ws++[x]).map V.str by rw[List.map_append];rfl];exact q))
inductive CuI(es:Str->List (Int×List z0c))(wi:List z0c)(σ0:Sto)(L:V->V->Option V->Option V->Loc):Loc->Sto->Prop
 |mk {ps:List (Str×Int)} {X T:V} {ν:Sto} {sa:Addr} {v12 v13:Option V} {σ:Sto}:PkB ps->PkIn es ps->Thg es wi ν X T->(∀p∈σ0,p∈σ)->(∀p∈ν,p∈σ)->At σ sa (.list (ps.map prV))->(∀p∈ν,Fresh σ0 p.1/\p.1≠sa)->Fresh σ0 sa->CuI es wi σ0 L (L X (.ref sa) v12 v13) σ
theorem RsnOk.cu{ss:List V}{bs:List (Int×V)}(r:RsnOk w ss bs)(pb:PkB ps)(pi:PkIn es ps){L:V->V->Option V->Option V->Loc}{a sa:Addr}{o:Obj}{v12 v13:Option V}{σ1:Sto}(fa:Fresh σ a)(fs:Fresh ((a,o,.list ss)::σ) sa)(U:UpdS ((a,o,.list ss)::σ) σ1 sa (.list (ps.map prV))):
  CuI es wi σ L (L (.tup [.str w,.ref a,.lst (bs.map aV)]) (.ref sa) v12 v13) σ1:=by
 obtain⟨h1,h2,h3,h4,h5,h6,h7,h8⟩:=r
 refine .mk (ν:=[(a,o,.list ss)]) pb pi (.good (T2:= .lst (bs.map aV)) (λp hp=>by cases hp) (Nat.le_trans h3 (by decide)) (λz hz=>(h4 z hz).dn.up (by decide)) ((z17 (n:=16) (λz hz=>(y1u h7 z hz)) (Nat.le_trans (by rw[List.length_map];exact h5) (by decide))).up (by decide)) h1) (λp hp=>U.keep p (.tail _ hp) (fs p (.tail _ hp))) (λp hp=> ?_) U.here (λp hp=> ?_) λp hp=>fs p (.tail _ hp)
 ·rw[List.mem_singleton.mp hp];exact U.keep _ (.head _) (fs _ (.head _))
 ·rw[List.mem_singleton.mp hp];exact⟨fa,fs _ (.head _)⟩
end
end
section
section
variable {C:Cx} {d:Nat} {σ:Sto} {Q:V->Sto->Prop} {i k ro:Addr} {kv rv:List (Str×Addr)} {es:Str->List (Int×List z0c)} {wi:List z0c} {ps:List (Str×Int)} {w:Str}
noncomputable def t_law_1:TC:=⟨[.loc 1,.loc 11,.call (.ref 440) 2,.tvalc,.ife [.loc 3,.loc 2,.call (.type "list") 1,.loc 11,.loc 10,.call (.ref 213) 4,.loc 1,.loc 2,.loc 11,.call (.type "dict") 1,.loc 10,.call (.ref 383) 4,.tcmpc .NotEq,.ife [.psh (.bool false),.ret] []] []],[],[]⟩
--t_law_1 0
noncomputable def y3F(r1:Stmt)(r2:Expr)(r3:Expr)(r4:Stmt):TC:=⟨[.loc 0,.psh (.int 5),.psh (.int 3),.call (.ref 343) 3,.asg 1,.loc 0,.loc 1,.psh (.int 3),.call (.ref 350) 3,.asg 2,.loc 1,.call (.ref 357) 1,.asg 3,.loc 3,.loc 2,.loc 0,.psh (.int 300),.call (.ref 321) 2,.call (.ref 390) 3,.asg2 4 5,.asgL 6,.asgL 7,.psh (.int 12),.forR 8 [.loc 0,.psh (.int 301),.loc 8,.binc .Add,.call (.ref 321) 2,.asg 9,.loc 5,.call (.ref 430) 1,.asg 10,.loc 4,.call (.type "list") 1,.asg 11,.cut [.loc 8,.psh (.int 1),.tcmpc .Gt,.mop .And [.loc 9,.psh (.int 9),.binc .Mod,.psh (.int 4),.tcmpc .Eq,.mop .And [.loc 11,.lst 0,.tcmpc .NotEq,.mop .And [.psh (.bool true)]]],.ife [.loc 11,.mty "list",.loc 9,.psh (.int 9),.binc .FloorDiv,.loc 11,.len,.binc .Mod,.meth (.bi "list.pop") 1,.pop] [.loc 8,.psh (.int 1),.tcmpc .Gt,.mop .And [.loc 9,.psh (.int 9),.binc .Mod,.psh (.int 6),.tcmpc .Gt,.mop .And [.loc 11,.lst 0,.tcmpc .NotEq,.mop .And [.psh (.bool true)]]],.ife [.loc 9,.psh (.int 9),.binc .FloorDiv,.loc 11,.len,.binc .Mod,.asg 12,.loc 1,.loc 11,.loc 12,.sub,.subT 0,.sub,.call (.bi "sorted") 1,.asg 13,.loc 11,.loc 12,.sub,.subT 0,.loc 13,.loc 9,.psh (.int 90),.binc .FloorDiv,.loc 13,.len,.binc .Mod,.sub,.tup 2,.loc 11,.loc 12,.setI] [.loc 8,.psh (.int 1),.tcmpc .Gt,.ife [.loc 10,.loc 1,.call (.bi "sorted") 1,.psh (.str "nothing"),.lst 1,.binc .Add,.loc 9,.psh (.int 9),.binc .FloorDiv,.call (.ref 425) 3,.asg 10] []]]],.rawS r1,.loc 10,.call (.ref 430) 1,.asg 15,.loc 7,.mty "list",.meth (.bi "list.clear") 0,.pop,.raw r2,.pop,.loc 3,.loc 2,.call (.type "list") 1,.loc 7,.loc 10,.call (.ref 213) 4,.asg 16,.loc 16,.isi .bool,.tvalc,.not,.mop .Or [.loc 16,.loc 14,.tcmp .NotEq,.mop .Or [.loc 10,.loc 15,.tcmp .NotEq,.mop .Or [.loc 7,.loc 11,.tcmp .NotEq,.mop .Or [.psh (.bool false)]]]],.ife [.psh (.bool false),.ret] [],.loc 6,.mty "list",.loc 11,.loc 10,.loc 14,.tup 3,.meth (.bi "list.append") 1,.pop,.loc 14,.tvalc,.mop .And [.loc 3,.loc 2,.loc 7,.loc 10,.call (.ref 447) 4,.tvalc,.not,.mop .And [.psh (.bool true)]],.ife [.psh (.bool false),.ret] []],.raw r3,.lst 0,.tcmpc .NotEq,.ife [.psh (.bool false),.ret] [],.loc 3,.loc 1,.loc 0,.psh (.int 340),.call (.ref 321) 2,.call (.ref 435) 3,.pop,.rawS r4,.psh (.bool true),.ret],[.inl r1,.inr r2,.inr r3,.inl r4],[([6,0,4],none),([6,0,7],some []),([7],some [0]),([9],none)]⟩
--y3F 4
inductive LwI(a0 a2 a4 a5:V)(i k ro:Addr)(kv rv:List (Str×Addr))(es:Str->List (Int×List z0c))(wi:List z0c)(ha aa:Addr)(j:Nat):Loc->Sto->Prop
 |mk {τ:Sto} {E:List V} {v8 v9 v10 v11 v12 v13 v14 v15 v16:Option V} {σ:Sto}:Wd i k ro kv rv es wi ha aa τ E σ->E.length<=j->LwI a0 a2 a4 a5 i k ro kv rv es wi ha aa j [some a0,some (.ref ro),some a2,some (.ref i),some a4,some a5,some (.ref aa),some (.ref ha),v8,v9,v10,v11,v12,v13,v14,v15,v16] σ
inductive LaI(a0 a1 a2 a3 a4 a5 a6 a7:V)(v8 v9 v12 v13 v15 v16:Option V)(σ:Sto):Loc->Sto->Prop
 |mk {v10 v11 v14:Option V} {τ:Sto}:(∀p∈σ,p∈τ)->LaI a0 a1 a2 a3 a4 a5 a6 a7 v8 v9 v12 v13 v15 v16 σ [some a0,some a1,some a2,some a3,some a4,some a5,some a6,some a7,v8,v9,v10,v11,v12,v13,v14,v15,v16] τ
theorem y46(S:Rw σ ro rv es)(hr:rv.length<=5)(ok:WishOk wi):Gd es wi:=
 have gr:=S.gr ok
 ⟨ok,gr.nd,λpk pb pi=>z9S S hr ok pb pi,gr.mb,λpk hn pi=>Nat.le_trans (y1J S hn pi) hr⟩
theorem y2U(S:Rw σ ro rv es)(hne:∀p∈rv,es p.1≠[]/\(es p.1).length<=3)(w:Str):(es w).length<=4:=by
 by_cases hm:w∈rv.map (·.1)
 ·apply z0p hm;intro p hp
  exact Nat.le_trans (hne p hp).2 (by decide)
 ·rw[S.out w hm];exact Nat.zero_le _
theorem y5m(T:RS σ i k ro kv rv es es){aa ha:Addr}{oa:Obj}(fa:Fresh σ aa)(fh:Fresh ((aa,oa,.list [])::σ) ha):(ha::aa::fpR i k ro kv rv).Nodup:=by
 have sep:(fpR i k ro kv rv).Nodup:=List.nodup_append.mpr ⟨T.rw_.sep,T.sh.sep,λa ha b hb e=>T.sp a ha (e▸hb)⟩
 refine List.nodup_cons.mpr ⟨λh=> ?_,List.nodup_cons.mpr ⟨λh=> ?_,sep⟩⟩
 ·rcases List.mem_cons.mp h with rfl|h
  ·exact fh _ (.head _) rfl
  ·obtain⟨x,o,hx⟩:=T.ats7 h;exact fh _ (.tail _ hx) rfl
 ·obtain⟨x,o,hx⟩:=T.ats7 h;exact fa _ hx rfl
theorem RsnOk.dn18{ss:List V}{bs:List (Int×V)}(r:RsnOk w ss bs)(τ:Sto):Dn τ 18 (.tup [.str w,.lst ss,.lst (bs.map aV)]) (.tup [.str w,.lst ss,.lst (bs.map aV)]):=by
 cases r with
 |mk _ _ _ _ _ _ _ h=>exact h τ
theorem y5d(S:Rw σ ro rv es):(z3h ((kvV rv).map (·.1))).length<=100/\(∀w∈z3h ((kvV rv).map (·.1))++[("nothing":Str)],Ware w)/\0<(z3h ((kvV rv).map (·.1))++[("nothing":Str)]).length/\(z3h ((kvV rv).map (·.1))++[("nothing":Str)]).length<=20:=by
 have hl:(z3h ((kvV rv).map (·.1))).length<=12:=by rw[(z3n _).length_eq,z0x,List.length_map];exact S.rl
 refine⟨Nat.le_trans hl (by decide),λw hw=> ?_,by rw[List.length_append];exact Nat.succ_pos _,by rw[List.length_append];exact Nat.le_trans (Nat.succ_le_succ hl) (by decide)⟩
 rcases List.mem_append.mp hw with h|h
 ·rw[(z3n _).mem_iff,z0x] at h
  apply z0p h;intro p hp
  exact S.wok p hp
 ·rw[List.mem_singleton.mp h];exact z3u (by decide+kernel)
theorem y3O(S:Rw σ ro rv es)(pi:PkIn es ps){j:Nat}{w:Str}{m:Int}(h:ps[j]? =some (w,m)):w∈rv.map (·.1):=by
 obtain⟨ns,hns⟩:=pi _ (List.mem_of_getElem? h)
 exact S.inRv hns
theorem y4y(pi:PkIn es ps){j:Nat}{m:Int}(h:ps[j]? =some (w,m)):0<(z1a ((esV (es w)).map (·.1))).length:=by
 obtain⟨ns,hns⟩:=pi _ (List.mem_of_getElem? h)
 rw[(z0C _).length_eq,z0s,List.length_map];exact List.length_pos_of_mem hns
theorem y41{j:Nat}(h:j<(z1a ((esV (es w)).map (·.1))).length):∃mk ns,(mk,ns)∈es w/\((z1a ((esV (es w)).map (·.1))).map V.int)[j]? =some (.int mk):=by
 have hm:=(z0C _).mem_iff.mp (List.getElem_mem h)
 generalize e:(z1a ((esV (es w)).map (·.1)))[j]=z at hm
 rw[z0s] at hm
 obtain⟨⟨mk,ns⟩,h1,h2⟩:=List.mem_map.mp hm
 exact⟨mk,ns,h1,by rw[List.getElem?_map,List.getElem?_eq_getElem h,e,<-h2];rfl⟩
theorem y0u{j:Nat}(h4:(es w).length<=4)(h:j<(z1a ((esV (es w)).map (·.1))).length):j<1000:=by
 rw[(z0C _).length_eq,z0s,List.length_map] at h;lia
theorem filt_no:∀l:List V,l.filter (λ_=>false)=[]
 |[]=>rfl
 |_::l=>filt_no l
theorem z91{sc:Scope}{env:Env}{x:Str}(hsc:env.scope=sc)(h:sc.names.lookup x=some .local):env.kindOf x=some .local:=by
 show env.scope.names.lookup x=some .local
 rw[hsc];exact h
theorem y5w(H:G1 C){xs:List Int}(hx:xs.length<=100)(q:∀σ',Q (.bool true) σ'):CW C (d+30) (.ref 452) [.lst (xs.map V.int)] [] Q:=by
 refine z0G (G1.kin (by assumption)) ["_law_script","_law_rows_here","_law_wish_here","_law_shop_here","_law_pairs","_law_reason","_law_asked","_law_handed","_law_turn","_law_number","_law_thing","_law_some","_law_at","_law_makes","_law_due","_law_kept","_law_found"] [("_law_rows",.ref 343),("_law_wish",.ref 350),("_law_shop",.ref 357),("_law_told",.ref 390),("_law_mixed",.ref 321),("range",.type "range"),("_law_copy",.ref 430),("list",.type "list"),("len",.bi "len"),("sorted",.bi "sorted"),("_law_other",.ref 425),("_law_holds",.ref 383),("dict",.type "dict"),("holds",.ref 213),("isinstance",.bi "isinstance"),("bool",.type "bool"),("_law_spoilt",.ref 447),("_law_shop_changed",.ref 435),("_law_there",.ref 440)] (by kernel_rfl) (vs1 λ_=>by kernel_rfl) rfl (z0a (z8h (by assumption)) (z0a (z75 (by assumption)) (z0a (z71 (by assumption)) (z0a (z7s (by assumption)) (z0a (z1A (by assumption)) (z0a (z2m (by assumption)) (z0a (z4v (by assumption)) (z0a (z0T (by assumption)) (z0a (z0Q (by assumption)) (z0a (z2G (by assumption)) (z0a (z3D (by assumption)) (z0a (z2n (by assumption)) (z0a (z2S (by assumption)) (z0a (z7m (by assumption)) (z0a (z0k (by assumption)) (z0a (z3p (by assumption)) (z0a (z5E (by assumption)) (z0a (z29 (by assumption)) (z0a (z6q (by assumption)) GL_nil))))))))))))))))))) ?_
 intro env hsc
 refine z0e (z0l H) (z0m H) (y3F _ _ _ _) (by exact rfl) (by kernel_rfl) ?_
 intro F m0
 refine Leaf.mk (fnc (z7C (most:=5) (mm:=3) H hx (by decide) (by decide) (by decide) (by decide) λro rv es σ1 RN hr5=> ?_))
 have hne:=RN.ne
 have hlo:=RN.lo
 have S1:=RN.rw_
 clear RN
 refine Leaf.mk (fnc (z7L (most:=3) H hx S1 hlo (λp hp=>⟨(hne p hp).1,Nat.le_trans (hne p hp).2 (by decide)⟩) (by decide) (by decide) λwi ok=> ?_))
 refine Leaf.mk (fnc (z7M H S1 (λp hp=>(hne p hp).1) λi k kv σ2 S hke f1 f2 f3 kp=> ?_))
 have T:RS σ2 i k ro kv rv es es:=by
  refine⟨S1.frame λa _ x h=>by obtain⟨o,h⟩:=h;exact⟨o,kp _ h⟩,S,λa h hm=> ?_,λw h=>by rw[<-hke];exact h⟩
  obtain⟨x,hx⟩:=S1.ats h
  rcases List.mem_cons.mp hm with rfl|hm
  ·exact f1.ne hx rfl
  ·rcases List.mem_cons.mp hm with rfl|hm
   ·exact f2.ne hx rfl
   ·obtain⟨p,hp,rfl⟩:=List.mem_map.mp hm
    exact(f3 p hp).ne hx rfl
 have g:Gd es wi:=y46 S1 hr5 ok
 have gr:=S1.gr ok
 have hex:∃p∈rv,es p.1≠[]:=by obtain⟨p,hp⟩:=List.exists_mem_of_length_pos hlo;exact⟨p,hp,(hne p hp).1⟩
 have h4:∀w,(es w).length<=4:=y2U S1 hne
 clear S S1 f1 f2 f3 kp hke hr5
 refine Leaf.mk (fnc (z0E H hx (by decide) (by decide) λn n0 n1=> ?_))
 refine Leaf.mk (fnc (y4G H g T.sh n0 λps w ss bs σ3 kp3 pb pi rk=> ?_))
 clear n0 n1 g
 intro aa oaa faa ha oha fha
 have WD:Wd i k ro kv rv es wi ha aa [] [] ((ha,oha,.list [])::(aa,oaa,.list [])::σ3):=⟨T.keep λp hp _=> .tail _ (.tail _ (kp3 p hp)),⟨[],Nat.zero_le _,At.hd⟩,At.hd.cons _,(λa x h=>by obtain⟨o,h⟩:=h;cases h),(λp h=>by cases h),λX h=>by cases h⟩
 have hnd:(ha::aa::fpR i k ro kv rv).Nodup:=y5m (T.keep λp hp _=>kp3 p hp) faa fha
 clear T kp3 faa fha
 refine Leaf.mk (.mk 12 (LwI (.lst (xs.map V.int)) (.lst (wi.map z0h)) (.lst (ps.map prV)) (.tup [.str w,.lst ss,.lst (bs.map aV)]) i k ro kv rv es wi ha aa) rfl (by decide) (.mk WD (Nat.le_refl 0)) (λj hj m σ hI QB hQB hQR=> ?_) λm σ hI=> ?_)
 ·clear WD q hQR
  refine hI.casesOn @λτ E v8 v9 v10 v11 v12 v13 v14 v15 v16 σ WD hE=> ?_
  refine Leaf.mk (fnc (z0E (k:=301+(j:Int)) H hx (by lia) (by lia) λn n0 n1=> ?_))
  clear n0 n1
  refine Leaf.mk (fnc (z7g (n:=16) H (rk.dn18 _) λa o fa=> ?_))
  refine Leaf.mk (z1g (.lst _) (z0z pb.len (by decide)) (.inr λsa osa fsa=> ?_))
  refine Leaf.mk ⟨CuI es wi σ λX Y v12 v13=>[some (.lst (xs.map V.int)),some (.ref ro),some (.lst (wi.map z0h)),some (.ref i),some (.lst (ps.map prV)),some (.tup [.str w,.lst ss,.lst (bs.map aV)]),some (.ref aa),some (.ref ha),some (.int (j:Int)),some (.int n),some X,some Y,v12,v13,v14,v15,v16],λK hK _=> ?_,λm σ' hI=> ?_⟩
  ·clear hQB
   have hS:=WD.t.rw_
   have hro:=hS.rows
   have hrn:((kvV rv).map (·.1)).Nodup:=by rw[z0x];exact hS.rwn
   have hrl:(kvV rv).length<64:=by rw[kvV,List.length_map];exact Nat.lt_of_le_of_lt hS.rl (by decide)
   obtain⟨hwl,hw1,hw2,hw3⟩:=y5d hS
   have fsσ:Fresh σ sa:=λp hp=>fsa p (.tail _ hp)
   obtain⟨r1,r2,r3,r4,r5,r6,r7,_⟩:=id rk
   have hno:=hK _ _ (rk.cu (v12:=v12) (v13:=v13) pb pi fa fsa (.new (o:=osa)))
   refine z0o (λh1=> ?_) λh1=>z0D h1 (z0D h1 hno)
   refine z0o (λh2=> ?_) λh2=> ?_
   ·refine Leaf.mk (z4c (.refL (.head _)) (z0i ?_))
    refine z0o (λh3=> ?_) λh3=> ?_
    ·have hp0:0<ps.length:=by cases ps with|nil=>cases h3|cons=>exact Nat.succ_pos _
     refine Leaf.mk ⟨tyL At.hd,?_⟩
     refine Leaf.mk (z0L (n:=ps.length) (.refL (.head _)) (List.length_map _) (z0z pb.len (by decide)) ?_)
     refine z09 hp0 λkk a2=> ?_
     obtain⟨e1,e2,e3⟩:=y13 pb pi kk
     refine Leaf.mk (y4T (j:=kk) (X:=prV ps[kk]) rfl At.hd (by rw[List.getElem?_map,List.getElem?_eq_getElem a2];rfl) (Nat.le_trans (by rw[List.length_map];exact pb.len) (by decide)) λσ' U=> ?_)
     rw[e3] at U
     exact hK _ _ (rk.cu e1 e2 fa fsa (UpdS.new.trans U))
    ·refine z0A h1 ?_
     refine z0o (λh5=>absurd (of_decide_eq_true h5) (by have:=of_decide_eq_true h2;lia)) λ_=> ?_
     refine z0A h1 ?_
     refine Leaf.mk (z46 H.ns ((hro.cons _).cons _) hrn hrl (.inl ?_))
     refine Leaf.mk (z67 hwl ?_)
     refine Leaf.mk (fnc (z4h (es:=es) (wi:=wi) H hw1 hw2 hw3 r1 r2 r3 r4 r5 r6 r7 λX T ν σ' th k1 k2 k3 hsa=> ?_))
     exact hK _ _ (.mk pb pi th k1 k2 hsa k3 fsσ)
   ·refine z0A h1 ?_
    refine z0o (λh5=> ?_) λ_=> ?_
    ·refine Leaf.mk (z4c (.refL (.head _)) (z0i ?_))
     refine z0o (λh3=> ?_) λh3=> ?_
     ·have hp0:0<ps.length:=by cases ps with|nil=>cases h3|cons=>exact Nat.succ_pos _
      refine Leaf.mk (z0L (n:=ps.length) (.refL (.head _)) (List.length_map _) (z0z pb.len (by decide)) ?_)
      refine z09 hp0 λkk a2=> ?_
      obtain⟨⟨w',m'⟩,hp⟩:∃p,ps[kk]? =some p:=⟨_,List.getElem?_eq_getElem a2⟩
      have hk1:kk<1000:=Nat.lt_of_lt_of_le a2 (Nat.le_trans pb.len (by decide))
      have hxk:(ps.map prV)[kk]? =some (.tup [.str w',.int m']):=by rw[List.getElem?_map,hp];rfl
      obtain⟨b,hb,hrb,hat⟩:=hS.at (y3O hS pi hp)
      have hen:((esV (es w')).map (·.1)).Nodup:=by rw[z0s];exact(hS.eok w').nd
      refine Leaf.mk (z04 (.refL (.head _)) hk1 hxk ?_)
      refine Leaf.mk (z2k ((hro.cons _).cons _) hrn hrb ?_)
      refine Leaf.mk (z2W H.ns ((hat.cons _).cons _) hen (by rw[esV,List.length_map];exact Nat.lt_of_le_of_lt (h4 w') (by decide)) (.inl ?_))
      refine Leaf.mk (z04 (.refL (.head _)) hk1 hxk ?_)
      refine Leaf.mk (z0L (n:=(z1a ((esV (es w')).map (·.1))).length) (.lst _) (List.length_map _) (z0z (n:=4) (by rw[(z0C _).length_eq,List.length_map,esV,List.length_map];exact h4 w') (by decide)) ?_)
      refine z09 (y4y pi hp) λk2 b2=> ?_
      obtain⟨mk,ns,hmk,e4⟩:=y41 b2
      refine Leaf.mk (z04 (.lst _) (y0u (h4 w') b2) e4 ?_)
      obtain⟨e1,e2,e3⟩:=y4m pb pi hp hmk ((hS.eok w').mb _ hmk)
      refine Leaf.mk (y5a At.hd (by rw[List.length_map];exact a2) hk1 λσ' U=> ?_)
      rw[e3] at U
      exact hK _ _ (rk.cu e1 e2 fa fsa (UpdS.new.trans U))
     ·refine z0A h1 ?_
      refine Leaf.mk (z46 H.ns ((hro.cons _).cons _) hrn hrl (.inl ?_))
      refine Leaf.mk (z67 hwl ?_)
      refine Leaf.mk (fnc (z4h (es:=es) (wi:=wi) H hw1 hw2 hw3 r1 r2 r3 r4 r5 r6 r7 λX T ν σ' th k1 k2 k3 hsa=> ?_))
      exact hK _ _ (.mk pb pi th k1 k2 hsa k3 fsσ)
    ·refine z0A h1 ?_
     refine Leaf.mk (z46 H.ns ((hro.cons _).cons _) hrn hrl (.inl ?_))
     refine Leaf.mk (z67 hwl ?_)
     refine Leaf.mk (fnc (z4h (es:=es) (wi:=wi) H hw1 hw2 hw3 r1 r2 r3 r4 r5 r6 r7 λX T ν σ' th k1 k2 k3 hsa=> ?_))
     exact hK _ _ (.mk pb pi th k1 k2 hsa k3 fsσ)
  ·refine hI.casesOn @λps' X T ν sa' v12' v13' σ' pb' pi' th kσ kν hsa fν fsa'=> ?_
   have k02:∀(σ2:Sto),(∀p∈σ',p.1≠sa'->p∈σ2)->∀p∈σ,p∈σ2:=λσ2 k2 p hp=>k2 p (kσ p hp) (fsa' p hp)
   refine Leaf.mk ?_
   show AS C env ["_law_script","_law_rows_here","_law_wish_here","_law_shop_here","_law_pairs","_law_reason","_law_asked","_law_handed","_law_turn","_law_number","_law_thing","_law_some","_law_at","_law_makes","_law_due","_law_kept","_law_found"] _ true _ (exec _ env) [some (.lst (xs.map V.int)),some (.ref ro),some (.lst (wi.map z0h)),some (.ref i),some (.lst (ps.map prV)),some (.tup [.str w,.lst ss,.lst (bs.map aV)]),some (.ref aa),some (.ref ha),some (.int (j:Int)),some (.int n),some X,some (.ref sa'),v12',v13',v14,v15,v16] σ' _
   refine y3Y (i:=11) (x:="_law_some") rfl (z91 hsc (by kernel_rfl)) rfl hsa λσ2 k2=> ?_
   show AS C env ["_law_script","_law_rows_here","_law_wish_here","_law_shop_here","_law_pairs","_law_reason","_law_asked","_law_handed","_law_turn","_law_number","_law_thing","_law_some","_law_at","_law_makes","_law_due","_law_kept","_law_found"] _ true _ (exec _ env) [some (.lst (xs.map V.int)),some (.ref ro),some (.lst (wi.map z0h)),some (.ref i),some (.lst (ps.map prV)),some (.tup [.str w,.lst ss,.lst (bs.map aV)]),some (.ref aa),some (.ref ha),some (.int (j:Int)),some (.int n),some X,some (.lst (ps'.map prV)),v12',v13',v14,v15,v16] σ2 _
   have kσ2:=k02 σ2 k2
   have kν2:∀p∈ν,p∈σ2:=λp hp=>k2 p (kν p hp) (fν p hp).2
   clear k02 kσ kν hsa k2
   refine z1K ?_
   repeat' with_reducible first|refine z0n ?_|refine z1s ?_|refine z0H ?_|refine z0q ?_|refine z0v ?_|refine⟨z0R,?_⟩|refine⟨z3A (by assumption),?_⟩|fail
   refine z2E (.lst _) pb' λda oda fda=> ?_
   repeat' with_reducible first|refine z0n ?_|refine z0q ?_|refine z0v ?_|fail
   have hD3:Dn ((da,oda,dS (pkV ps'))::σ2) 21 X T:=th.dn λp hp=> .tail _ (kν2 p hp)
   have T3:RS ((da,oda,dS (pkV ps'))::σ2) i k ro kv rv es es:=WD.t.keep λp hp _=> .tail _ (kσ2 p hp)
   refine fnc (z32 H gr 7 T3.rw_ (.lst _) At.hd pb' pi' hD3 ?_)
   with_reducible refine z2t ?_
   refine Leaf.mk (fnc (z16 H 21 hD3 ?_))
   obtain⟨hs,hsl,hh⟩:=WD.h
   have hh3:At ((da,oda,dS (pkV ps'))::σ2) ha (.list hs):=by obtain⟨o,h⟩:=hh;exact⟨o,.tail _ (kσ2 _ h)⟩
   refine Leaf.mk ⟨tyL hh3,?_⟩
   refine Leaf.mk (y1U hh3 (Nat.le_trans hsl (by decide)) λσ4 U4=> ?_)
   refine Leaf.mk ?_
   show AT C env ["_law_script","_law_rows_here","_law_wish_here","_law_shop_here","_law_pairs","_law_reason","_law_asked","_law_handed","_law_turn","_law_number","_law_thing","_law_some","_law_at","_law_makes","_law_due","_law_kept","_law_found"] _ true _ (eval _ env) [some (.lst (xs.map V.int)),some (.ref ro),some (.lst (wi.map z0h)),some (.ref i),some (.lst (ps.map prV)),some (.tup [.str w,.lst ss,.lst (bs.map aV)]),some (.ref aa),some (.ref ha),some (.int (j:Int)),some (.int n),some X,some (.lst (ps'.map prV)),v12',v13',some (.bool (hB es wi 7 ps' T)),some T,v16] σ4 _
   refine z6S M_extend ?_
   have hh4:=U4.here
   repeat' with_reducible first|refine z0n ?_|refine z0q ?_|refine z0v ?_|refine⟨tyL (by assumption),?_⟩|fail
   refine y0b hh4 (.lst _) (z0z pb'.len (by decide)) λσ5 U5=> ?_
   have U:=U4.trans U5
   have hνa:∀p∈ν,p.1∉ha::aa::fpR i k ro kv rv:=λp hp=>WD.apart (fν p hp).1
   have k5:∀p∈σ,p.1≠ha->p∈σ5:=λp hp hn=>U.keep p (.tail _ (kσ2 p hp)) hn
   have kν5:∀p∈ν,p∈σ5:=λp hp=>U.keep p (.tail _ (kν2 p hp)) λe=>hνa p hp (e▸ .head _)
   have hh5:=U.here
   clear hD3 T3 hh3 hh4 U4 U5 U kσ2 kν2 hh fda fsa'
   have hfo:∀b∈fpR i k ro kv rv,b≠ha/\b≠aa:=λb hb=>⟨λe=>(List.nodup_cons.mp hnd).1 (.tail _ (e▸hb)),λe=>(List.nodup_cons.mp (List.nodup_cons.mp hnd).2).1 (e▸hb)⟩
   have hah:aa≠ha:=λe=>(List.nodup_cons.mp hnd).1 (e▸ .head _)
   have T5:RS σ5 i k ro kv rv es es:=WD.t.keep λp hp hf=>k5 p hp (hfo _ hf).1
   have hD5:Dn σ5 21 X T:=th.dn kν5
   refine Leaf.mk (z1g (.lst _) (z0z gr.ok.len (by decide)) (.inl ?_))
   obtain⟨oh5,hm5⟩:=hh5
   refine Leaf.mk (fnc (z2D H gr T5.sh pb' pi' (.refL hm5) hD5 rfl ?_))
   refine Leaf.mk (z44 (n:=0) H.ns (.bool _) (by decide) (z0i ?_))
   refine Leaf.mk (z44 H.ns hD5 (by decide) (z0i ?_))
   refine Leaf.mk (z44 (n:=2) H.ns (.ref ⟨oh5,hm5⟩ rfl (by rw[List.length_map];exact Nat.le_trans pb'.len (by decide)) (Dns.self (y5p pb')).at) (by decide) (z0i ?_))
   have ha5:At σ5 aa (.list E):=by obtain⟨o,h⟩:=WD.a;exact⟨o,k5 _ h hah⟩
   refine Leaf.mk ⟨tyL ha5,?_⟩
   refine Leaf.mk (z7Z ha5 (Nat.le_trans hE (Nat.le_trans (Nat.le_of_lt hj) (by decide))) λσ6 U6=> ?_)
   have kν6:∀p∈ν,p∈σ6:=λp hp=>U6.keep p (kν5 p hp) λe=>hνa p hp (e▸ .tail _ (.head _))
   have k6:∀p∈σ,p.1≠ha->p.1≠aa->p∈σ6:=λp hp h1 h2=>U6.keep p (k5 p hp h1) h2
   have hm6:=U6.keep _ hm5 (λe=>hah e.symm)
   have hend:∀σ7,(∀p∈σ6,(∀z∈ν,z.1≠p.1)->p∈σ7)->(∀a x,At ν a x->At σ7 a x)->QB .next [some (.lst (xs.map V.int)),some (.ref ro),some (.lst (wi.map z0h)),some (.ref i),some (.lst (ps.map prV)),some (.tup [.str w,.lst ss,.lst (bs.map aV)]),some (.ref aa),some (.ref ha),some (.int (j:Int)),some (.int n),some X,some (.lst (ps'.map prV)),v12',v13',some (.bool (hB es wi 7 ps' T)),some T,some (.bool (hB es wi 7 ps' T))] σ7:=λσ7 k7 k7ν=>by
    have hz:∀b∈ha::aa::fpR i k ro kv rv,∀z∈ν,z.1≠b:=λb hb z hz e=>hνa z hz (e▸hb)
    refine hQB _ _ (.mk (WD.next (ν:=ν) hnd (λp hp=>(fν p hp).1) (λp hp h1 h2=>k7 p (k6 p hp h1 h2) λz hz e=>(fν z hz).1 p hp e.symm) k7ν (hs:=ps'.map prV) (by rw[List.length_map];exact pb'.len) ⟨_,k7 _ hm6 (hz _ (.head _))⟩ (Y:= .tup [.lst (ps'.map prV),X,.bool (hB es wi 7 ps' T)]) ?_ (.mk pb' pi' (th.dn λp h=>h))) (by rw[List.length_append];exact Nat.succ_le_succ hE))
    obtain⟨o,h⟩:=U6.here
    exact⟨o,k7 _ h (hz _ (.tail _ (.head _)))⟩
   clear hQB T5 hD5 hm5 kν5 k5 hE hsl
   refine z0o (λhb=> ?_) λ_=>hend σ6 (λp hp _=>hp) λa x h=>by obtain⟨o,h⟩:=h;exact⟨o,kν6 _ h⟩
   have T6:RS σ6 i k ro kv rv es es:=WD.t.keep λp hp hf=>k6 p hp (hfo _ hf).1 (hfo _ hf).2
   refine Leaf.mk (fnc (z8B H gr T6.sh pb' pi' ⟨_,hm6⟩ th kν6 (λp hp h=>hνa p hp ?_) hb λσ7 k7 k7ν=> ?_))
   ·rcases List.mem_cons.mp h with h|h
    ·exact h▸ .head _
    ·exact .tail _ (.tail _ (List.mem_append_right _ h))
   exact hend σ7 k7 k7ν
 ·clear WD
  refine hI.casesOn @λτ E v8 v9 v10 v11 v12 v13 v14 v15 v16 σ WD hE=> ?_
  obtain⟨oa,hma⟩:=WD.a
  have h8:(wi.map z0h).length<=sizeLine:=z0z gr.ok.len (by decide)
  refine Leaf.mk ?_
  show AT C env ["_law_script","_law_rows_here","_law_wish_here","_law_shop_here","_law_pairs","_law_reason","_law_asked","_law_handed","_law_turn","_law_number","_law_thing","_law_some","_law_at","_law_makes","_law_due","_law_kept","_law_found"] _ true _ (eval _ env) [some (.lst (xs.map V.int)),some (.ref ro),some (.lst (wi.map z0h)),some (.ref i),some (.lst (ps.map prV)),some (.tup [.str w,.lst ss,.lst (bs.map aV)]),some (.ref aa),some (.ref ha),v8,v9,v10,v11,v12,v13,v14,v15,v16] σ _
  refine z1u "_law_one" ["_law_shop_here","_law_wish_here"] [("holds",.ref 213),("list",.type "list")] (by rw[hsc];kernel_rfl) (z0a (z7m H) (z0a (z0T H) GL_nil)) (.cons LkC.lk (.cons LkC.lk .nil)) (z1b ?_)
  with_reducible refine z0n ?_
  refine⟨E,_,.refL hma,Nat.le_trans hE (by decide),λenv' he=>z1z (f:=id) (t:=λ_=>false) (z0u he (by decide+kernel)) hma E [] _ (λX hX K hK=> ?_) (λX hX e=>nomatch e) ?_⟩
  ·cases WD.e X hX with
   | @mk ps X T pb pi hD=>
   repeat' with_reducible first|refine z0n ?_|refine z1s ?_|refine z0H ?_|refine z0q ?_|refine z0v ?_|refine z1S ?_|refine⟨z0R,?_⟩|refine⟨z9p (by assumption),?_⟩|fail
   refine z1g (.lst _) h8 (.inl ?_)
   repeat' with_reducible first|refine z0n ?_|refine z0O ?_|refine z1i ?_|refine z0q ?_|refine z0v ?_|refine z3f (by with_unfolding_all decide) (by with_unfolding_all decide) (by with_unfolding_all exact rfl) ?_|fail
   refine fnc (z2D H gr WD.t.sh pb pi (.lst _) (hD.mono WD.s) rfl ?_)
   repeat' with_reducible first|refine z0n ?_|refine z0O ?_|refine z1i ?_|refine z3f (by with_unfolding_all decide) (by with_unfolding_all decide) (by with_unfolding_all exact rfl) ?_|fail
   refine z44 (n:=0) H.ns (.bool _) (by decide) ?_
   exact z0i hK
  clear hsc
  refine Leaf.mk (z4c (.lst _) (z0i ?_))
  refine z0D (by rw[List.nil_append,filt_no];rfl) ?_
  refine Leaf.mk (fnc (z0E H hx (by decide) (by decide) λn _ _=> ?_))
  refine Leaf.mk (fnc (z28 H WD.t hex h4 λσ' kv' es' T' h4' F' K'=> ?_))
  have gr':=T'.rw_.gr gr.ok
  have sD:∀a x,At τ a x->At σ' a x:=λa x h=>by
   obtain⟨o,hp⟩:=h
   have hf:=WD.f _ hp
   obtain⟨o',h'⟩:=WD.s a x ⟨o,hp⟩
   exact⟨o',K' _ h' λhm=>hf (.tail _ (.tail _ hm))⟩
  have hma':=K' _ hma (λhm=>(List.nodup_cons.mp (List.nodup_cons.mp hnd).2).1 hm)
  have hE':=WD.e
  clear WD hma K' F' h4' h4 hex hnd
  refine Leaf.mk (y0w (λ_=>LaI (.lst (xs.map V.int)) (.ref ro) (.lst (wi.map z0h)) (.ref i) (.lst (ps.map prV)) (.tup [.str w,.lst ss,.lst (bs.map aV)]) (.ref aa) (.ref ha) v8 v9 v12 v13 v15 v16 σ') (z1b ?_))
  show AT C env ["_law_script","_law_rows_here","_law_wish_here","_law_shop_here","_law_pairs","_law_reason","_law_asked","_law_handed","_law_turn","_law_number","_law_thing","_law_some","_law_at","_law_makes","_law_due","_law_kept","_law_found"] _ true _ (eval _ env) [some (.lst (xs.map V.int)),some (.ref ro),some (.lst (wi.map z0h)),some (.ref i),some (.lst (ps.map prV)),some (.tup [.str w,.lst ss,.lst (bs.map aV)]),some (.ref aa),some (.ref ha),v8,v9,v10,v11,v12,v13,v14,v15,v16] σ' _
  repeat' with_reducible first|refine z0n ?_|refine z0O ?_|refine z1i ?_|refine z7N ?_|refine z2z ?_|refine z4B ?_|refine z13 ?_|refine z1X ?_|fail
  refine z0B (.refL hma') .none .none (.int _) (by decide) (Nat.le_trans hE (by decide)) (z0Z ?_)
  refine⟨_,_,.lst _,.mk (λp h=>h),λj X hX m τ2 hI QB hQB=> ?_,λm τ2 hI=> ?_⟩
  ·cases hE' X (z2p X (List.mem_of_getElem? hX)) with
   | @mk ps X T pb pi hD=>
   refine hI.casesOn @λv10 v11 v14 τ2 kp=> ?_
   have T2:RS τ2 i k ro kv' rv es' es':=T'.keep λp hp _=>kp p hp
   have hD2:Dn τ2 21 X T:=hD.mono λa x h=>by obtain⟨o,h⟩:=sD a x h;exact⟨o,kp _ h⟩
   with_reducible refine y5b (z0w PutC.put ?_)
   with_reducible refine z0w PutC.put ?_
   with_reducible refine z0w PutC.put ?_
   refine z0e (z0l H) (z0m H) t_law_1 rfl (by kernel_rfl) ?_
   intro F m0
   refine Leaf.mk (fnc (z65 H T2.rw_ pb (λpi'=> ?_) ?_))
   ·refine Leaf.mk (z1g (.lst _) h8 (.inl ?_))
    refine Leaf.mk (fnc (z2D H gr' T2.sh pb pi' (.lst _) hD2 rfl ?_))
    refine Leaf.mk (z2E (.lst _) pb λda oda fda=> ?_)
    refine Leaf.mk (fnc (z32 H gr' 7 (T2.cons _).rw_ (.lst _) At.hd pb pi' (hD2.mono λ_ _ h=>h.cons _) ?_))
    refine Leaf.mk (z44 (n:=0) H.ns (.bool _) (by decide) (z0i ?_))
    exact hQB _ _ trivial (.mk λp hp=> .tail _ (kp p hp))
   ·exact hQB _ _ trivial (.mk kp)
  ·cases hI
   exact q _
end
end
section
open PySem PySem.W PyProof.Rows
theorem y5B{w:World}{D:Gh}{vs:List Value}{xs:List Int}(h:IntsAre vs xs):VRs w D vs (xs.map V.int):=by
 induction h with
 |nil=>exact .nil
 |cons n t _ ih=>exact .cons (.int n t) ih
open Classical in
theorem y5L{prog:Program}{w:World}{s₁:Shared}{mg mb:Str->Option Value}{a:Addr}{vs us:List Value}{xs:List Int}{K:Value->Shared->Prop}{E:Value->Shared->Prop}
  (hg:s₁.heap.Ns mainGlobals mg) (hb:s₁.heap.Ns builtinsNs mb) (hl:s₁.heap.NoLimit) (hbi:∀x:Str,x≠"__name__"->mb x=bootBuiltins x) (KX:(Tp.K w.params).In s₁.heap) (hns:∃o,s₁.heap.get? sysModules=some o)
  (ha:s₁.heap.get? a=some (z0r us.toArray 0)) (hL:s₁.heap.IsList a vs.toArray) (hI:IntsAre vs xs) (hx:xs.length<=100)
  (k:∀s',(∀b o,s₁.heap.get? b=some o->s'.heap.get? b=some o)->s'.os=s₁.os->s'.gens=s₁.gens->K (.bool true) s'):
  wpAny (model prog w) callerA (call (.ref 452) [.ref a]) K E s₁:=by
 let C:Cx:=⟨prog,w,s₁.heap,s₁,mg,mb,hg,hb,hl⟩
 have H:G1 C:=⟨KX,hbi,hns⟩
 have hv:us=vs:=by
  obtain⟨o,ho,_,n,hd⟩:=hL
  rw[ha] at ho;cases ho
  have:us.toArray=vs.toArray:=by
   have h':Data.seq us.toArray 0=Data.seq vs.toArray n:=hd
   injection h'
  simpa using this
 subst hv
 let D:Gh:=λb=>if b=a then some (z0r us.toArray 0) else none
 have R:RelC C (λb=>s₁.heap.get? b) D [] s₁:=⟨⟨s₁.heap,s₁.toks,rfl⟩,λ_ _ e=>e,(λb o e=>by
   have e':(if b=a then some (z0r us.toArray 0) else none)=some o:=e
   split at e'
   ·rename_i hb;subst hb;rw[<-e'];exact ha
   ·cases e'),λ_ _ e=>e,List.nodup_nil,(λ_ h=>by cases h),(λ_ h=>by cases h),(λ_ h=>by cases h),(λ_ h=>by cases h)⟩
 have hargs:VRs C.w D [.ref a] [.lst (xs.map V.int)]:= .cons (.lst (show(if a=a then some (z0r us.toArray 0) else none)=_ by rw[if_pos rfl]) (y5B hI)) .nil
 have hA:AOk callerA 30:=⟨rfl,by decide+kernel,by decide+kernel⟩
 have:=z5j (y5w (d:=0) (Q:=λx _=>x= .bool true) H hx λ_=>rfl) callerA _ D s₁ (.ref 452) [.ref a] hA R (.ref 452) hargs
 refine wpAny_mono this (λv s' ⟨x,D',σ',dx,hv,R',hx⟩=> ?_) λ_ _ e=>e.elim
 subst hx
 cases hv
 obtain⟨h,tk,e⟩:=R'.same
 refine k s' (λb o e=>R'.g b o e) (by rw[e]) (by rw[e])
end
end Mine
open PySem PySem.W PyProof.Rows
theorem PySem.Challenge.cw_uf010025_07_holds : PySem.Challenge.rw_uf010025_07.Holds := by
  refine Mine.hd07 ?_
  intro w s₀ s₁ mg mb G Y fa o pm cd doc dV kV ho hd hcd hD hmg hg args vals as hpre hlay hrd hwl hlo
  have KX := kIn_of Y
  refine Ground.open G ?_
  intro T B D TE TW
  clear G Y B D TE TW hd hcd hD
  have hfa : fa = 452 := by
    have h1 := mg_of KX T.g (show nsIn (Mine.Tp.K w.params) mainGlobals "law" = some (some (.ref 452)) from rfl)
    have h2 : mg "law" = some (.ref fa) := hmg
    rw [h1] at h2; injection h2 with h2; injection h2 with h2; exact h2.symm
  subst hfa
  clear hmg
  wrow_args hpre hlay hrd hwl hlo
  rename_i hL _ w1 _ hI _ hc _
  obtain ⟨us, ha⟩ : ∃ us : List Value, s₁.heap.get? _ = some (Mine.z0r us.toArray 0) := by
    cases w1 with
    | list h _ => exact ⟨_, h⟩
  refine Mine.y5L T.g T.b T.nolimit T.builtins KX (by obtain ⟨_, ⟨o, _, _, ho, _⟩, _⟩ := (T.seer (by decide +kernel)).mods; exact ⟨o, ho⟩) ha hL hI (by lia) fun s' h1 h2 h3 => GoodW.toG ⟨.inl ⟨_, .bool true, [], rfl, fun _ => rfl, .bool true, ?_, fun h => ?_⟩, h1, h2, h3.trans hg⟩
  · wrow_post
  · exact ⟨List.nodup_nil, fun a h => by cases h⟩
