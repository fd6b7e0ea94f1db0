import PyProof.Rows.All
import OpenK.KLine
import PyProof.CompFree
import PyProof.Cells
import PyProof.DictKinds
import PyProof.Calls
import PyProof.Rows.Tup
import PyProof.Rules2
import PyProof.Rules3
import PyProof.CallRoads
import PyProof.CallType
import PyProof.EvalArms
import PyProof.Raises
import PyProof.Rows.StrTemp
import PyProof.Rows.TupSub
import PyProof.RulesRaise
import PyProof.ForAny
import PyProof.WalksMore
import PyProof.StrWalks
import PyProof.DictWalks
import PyProof.MakeMany
import PyProof.PureInt
import PyProof.NoPylong
import PyProof.Rows.RuleB_floordiv
import PyProof.Rows.RuleB_mod
import PyProof.Rows.StrRules
import PyProof.FString5
import PyProof.ListIndex
import PyProof.ListIndexNeg
import PyProof.SliceList
import PyProof.SliceStr2
import PyProof.StrCalls2
import PyProof.ConsumeWalk
import PyProof.WalkInts
import PyProof.IsiPairs
import PyProof.IsiHeapPairs
import PyProof.CallStr
import PyProof.P3Eq
import PyProof.EqLayable
import PyProof.Methods
import PyProof.SeqRoads
import PyProof.SliceSyntax
import PyProof.Rows.SeqMore
import PyProof.IsiNone
import PyProof.StrBlock
import PyProof.RangeFor
import PyProof.Rows.Range3
import PyProof.Rows.Chain
import OpenK.KCall
import PyProof.StrBlockI
import PyProof.StrBlockL
import PyProof.DictRoads
import PyProof.DictCalls
import PyProof.MeetsDictList
import PyProof.MeetsDict
import PyProof.Rows.ListAppend
import PyProof.MeetsIn
import PyProof.FactsAll.list_0
import PyProof.DictTruth
import PyProof.TupleIter
import PyProof.RulesAssignMore
import KE.KDictLaws
import OpenK.KCls
import OpenK.KMake
import OpenK.KWalk
import PyProof.AssignAttr
import KE.KDictSum
import PyProof.Rows.SortStr
import PyProof.Rows.SortWalk
import PyProof.ListCopy
import PyProof.Conv_int_bool
import PyProof.ListMulAny
import PyProof.ListMulRoad
import PyProof.AutoSeq1
import KE.KEqDict
import PyProof.WalksEnum
import PyProof.DictDisplay
import PyProof.DictStraight
import PyProof.Rows.StrInSeq3
import PyProof.AttrMissHeap
import KE.KDictOf
import PyProof.MeetsSeq
import PyProof.Draws
import PyProof.DictIter
import PyProof.DictUpdate
import PyProof.NeKinds
import PyProof.DictList
import KE.KItem
import PyProof.Rows.ChunkEnd
import KE.KRevIter
import PyProof.Rows.SeqIn
import PyProof.ZipIter
import PyProof.EqKinds
import PyProof.IsiTupleAll
import PyProof.Rows.TupMore
import PyProof.StationsW
import PyProof.Rows.Own
import PyProof.RangeIter
import PyProof.Rows.MatchSeqLen
import KE.KIsAll
import KE.KTryMore
import PyProof.ExcArgsOwn
import PyProof.RulesAs
import OpenK.KOwn
import Lean
import PySem.Challenge.RW_uf010025_08
set_option autoImplicit false
set_option linter.all false
set_option Elab.async false
set_option genSizeOf false
set_option bootstrap.genMatcherCode false
set_option tactic.hygienic false
set_option maxRecDepth 100000
set_option compiler.extract_closed false
set_option maxHeartbeats 8000000
namespace Mine
section
open PySem PySem.W PyProof.Rows
namespace Tp
noncomputable def alt : List Obj → List Obj
  | [] => []
  | [a] => [a]
  | a :: _ :: r => a :: alt r
noncomputable def ofL : Nat → List Obj → BT
  | 0, _ => .nil
  | _ + 1, [] => .nil
  | n + 1, a :: r => .node a (ofL n (alt r)) (ofL n (alt r.tail))
noncomputable def life : Life := { }
noncomputable def drawn : Drawn := { }
noncomputable def vs (s : String) (t : Nat) : Value := .str (Str.ofString s) t
noncomputable def vi (k : Int) : Value := .int k 0
noncomputable def de (P : Params) (k : String) (t : Nat) (v : Value) : DictEntry := { hash := PyData.keyHash P (Str.ofString k), key := .str (Str.ofString k) t, val := v }
noncomputable def bp : Obj := { cls := .type "builtin_function_or_method", data := Data.fields #[.builtin "type.__prepare__", .type "type"] }
noncomputable def tp : Obj := { cls := .type "tuple", data := Data.seq #[] }
noncomputable def nf : Obj := { cls := .none, data := Data.fields #[] }
noncomputable def nl (l : List Value) : Obj := { cls := .none, data := Data.fields l.toArray }
noncomputable def di (l : List DictEntry) (k : Nat) : Obj := { cls := .type "dict", data := Data.dict l.toArray k }
noncomputable def co (a : String) (t1 : Nat) (b : String) (t2 t3 t4 : Nat) (l : List Value) : Obj := { cls := .type "code", data := Data.fields ([vs a t1, vs b t2, vs "/claim/cut.py" t3] ++ (l ++ [vs "/claim/cut.py" t4])).toArray }
noncomputable def fm (a b c : Nat) (v : Value) : Obj := { cls := .type "frame", slots := #[some (.ref a), some (.ref b), some (.ref c), none, some v, none, some (.ref 0)] }
noncomputable def tu (l : List Value) : Obj := { cls := .type "tuple", data := Data.seq l.toArray }
noncomputable def ca (a b : String) (t l n u c : Nat) : Obj := co a t b (t + 1) (t + 2) (u + 1) [vi l, vi n, vi 0, vi 0, vi 3, .ref (c - 5), .bool true, vi 181, .ref (c - 4), .none, .ref (c - 3), .ref (c - 2), .ref (c - 1), vi u, vi l]
noncomputable def cb (a b : String) (t l n u c : Nat) : Obj := co a t b (t + 1) (t + 2) (u + 1) [vi l, vi n, vi 0, vi 0, vi 3, .ref (c - 3), .bool true, vi 181, .ref (c - 2), .none, .none, .none, .ref (c - 1), vi u, vi l]
noncomputable def sv (q : String) (m : Value) (c : Nat) (s : Stmt) : FuncData × List Stmt := Stmt.casesOn (motive_2 := fun _ => FuncData × List Stmt) s (fun n a b _ _ _ sc _ _ _ => ({ name := n, qualname := Str.ofString q, params := a, body := .stmts b, scope := sc, globals := 3, closure := [], defaults := .none, kwdefaults := .none, pyModule := m, code := .ref c }, b)) (fun _ _ _ _ _ _ _ _ _ _ => default) (fun _ _ _ b _ _ _ _ _ _ _ => (default, b)) (fun _ _ => default) (fun _ _ => default) (fun _ _ _ => default) (fun _ _ _ _ _ _ _ => default) (fun _ _ _ _ => default) (fun _ _ _ _ _ => default) (fun _ _ _ _ _ => default) (fun _ _ _ _ _ => default) (fun _ _ _ _ => default) (fun _ _ _ _ => default) (fun _ _ _ => default) (fun _ _ _ => default) (fun _ _ _ => default) (fun _ _ _ => default) (fun _ _ _ _ _ => default) (fun _ _ _ _ _ => default) (fun _ _ _ => default) (fun _ _ => default) (fun _ _ _ _ => default) (fun _ _ => default) (fun _ _ => default) (fun _ _ => default) (fun _ => default) (fun _ => default) (fun _ => default)
noncomputable def fu (i : Nat) (j : Option Nat) (q : String) (m : Value) (c : Nat) : Obj := { cls := .type "function", data := .func (match j with
  | none => (sv q m c ((PySem.Challenge.pw_uf010025_08.main.body)[i]?.getD (.Pass ⟨0, 0, 0, 0⟩))).1
  | some j => (sv q m c ((sv q m c ((PySem.Challenge.pw_uf010025_08.main.body)[i]?.getD (.Pass ⟨0, 0, 0, 0⟩))).2[j]?.getD (.Pass ⟨0, 0, 0, 0⟩))).1) }
noncomputable def q1 : Value := vs "__main__" 164
noncomputable def q2 : Value := vs "pickfloor.stretches" 342
noncomputable def q3 : Value := vs "pickfloor.picks" 379
noncomputable def q4 : Value := vs "pickfloor.reasons" 451
noncomputable def q5 : Value := vs "pickfloor.settling" 525
noncomputable def q6 : Value := vs "pickfloor.shop" 578
noncomputable def q7 : Value := vs "law_uf010025_08" 676
noncomputable def K (P : Params) : W.Frag := [
  (2, { cls := .none, data := Data.dict #[] }),
  (3, di [(de P "__name__" 165 (vs "law_uf010025_08" 676)), (de P "__doc__" 166 .none), (de P "__package__" 167 .none), (de P "__loader__" 168 (.builtin "__main__.__loader__#opaque")), (de P "__spec__" 169 .none), (de P "__annotations__" 170 (.ref 6)), (de P "__builtins__" 171 (.ref 4)), (de P "__file__" 173 (vs "/claim/cut.py" 172)), (de P "__cached__" 174 .none), (de P "_wall" 193 (.ref 21)), (de P "PickError" 213 (.ref 31)), (de P "BadWare" 229 (.ref 44)), (de P "BadMake" 245 (.ref 56)), (de P "BadNeed" 261 (.ref 68)), (de P "Twice" 277 (.ref 80)), (de P "Full" 293 (.ref 92)), (de P "NoMake" 309 (.ref 104)), (de P "BadWish" 325 (.ref 116)), (de P "BadPick" 341 (.ref 128)), (de P "LETTERS" 345 (vs "abcdefghijklmnopqrstuvwxyz" 344)), (de P "MOST_LETTERS" 347 (.int 8 346)), (de P "MOST_MAKE" 349 (.int 999 348)), (de P "is_ware" 355 (.ref 135)), (de P "is_make" 362 (.ref 142)), (de P "is_need" 369 (.ref 149)), (de P "within" 378 (.ref 156)), (de P "MOST_WISHES" 382 (.int 8 381)), (de P "need_wish" 388 (.ref 161)), (de P "need_pick" 394 (.ref 166)), (de P "agenda_of" 406 (.ref 173)), (de P "is_met" 414 (.ref 180)), (de P "meets_all" 420 (.ref 185)), (de P "agenda" 429 (.ref 192)), (de P "meets" 438 (.ref 199)), (de P "newer" 450 (.ref 206)), (de P "is_number" 460 (.ref 213)), (de P "granted_of" 470 (.ref 220)), (de P "is_granted" 479 (.ref 227)), (de P "stretch_of" 492 (.ref 234)), (de P "left_by" 498 (.ref 239)), (de P "is_branch_row" 508 (.ref 246)), (de P "holds_by" 514 (.ref 251)), (de P "holds" 524 (.ref 258)), (de P "sources_for" 532 (.ref 263)), (de P "clash" 545 (.ref 270)), (de P "outside" 561 (.ref 277)), (de P "settled" 567 (.ref 282)), (de P "settle" 577 (.ref 289)), (de P "MOST_WARES" 581 (.int 12 580)), (de P "MOST_MAKES" 583 (.int 8 582)), (de P "MOST_NEEDS" 585 (.int 6 584)), (de P "need_needs" 595 (.ref 296)), (de P "Shop" 675 (.ref 355)), (de P "_law_mixed" 687 (.ref 366)), (de P "_law_names" 693 (.ref 371)), (de P "_law_stretch" 704 (.ref 378)), (de P "_law_needs" 710 (.ref 383)), (de P "_law_rows" 716 (.ref 388)), (de P "_law_wish" 732 (.ref 395)), (de P "_law_shop" 742 (.ref 402)), (de P "_law_agenda" 748 (.ref 407)), (de P "_law_meets" 761 (.ref 414)), (de P "_law_all_picks" 767 (.ref 419)), (de P "_law_bad_wish" 773 (.ref 424)), (de P "_law_bad_pair" 779 (.ref 429)), (de P "_law_bad_pick" 785 (.ref 434)), (de P "_law_bad_pairs" 791 (.ref 439)), (de P "_law_asked" 802 (.ref 446)), (de P "_law_refused" 808 (.ref 451)), (de P "_law_deed" 825 (.ref 458)), (de P "law" 831 (.ref 463))] 71),
  (15, tp),
  (17, tu [vs "k" 190]),
  (18, tp),
  (20, ca "_wall" "_wall" 187 1 1 191 20),
  (21, fu 0 none "_wall" q1 20),
  (22, tu [.type "ValueError"]),
  (29, tp),
  (30, di [(de P "__module__" 203 (vs "pickfloor.errors" 194)), (de P "__firstlineno__" 207 (.int 5 206)), (de P "__static_attributes__" 208 (.ref 29)), (de P "__weakref__" 210 (.ref 32)), (de P "__doc__" 211 .none)] 3),
  (31, { cls := .type "type", data := Data.cls { name := Str.ofString "PickError", bases := [.type "ValueError"], mro := [.ref 31, .type "ValueError", .type "Exception", .type "BaseException", .type "object"], ns := 30, qualname := Str.ofString "PickError", subclasses := [.ref 44, .ref 56, .ref 68, .ref 80, .ref 92, .ref 104, .ref 116, .ref 128] }, slots := #[some (.ref 22), none, some (vs "PickError" 196), some (vs "PickError" 204), some (.builtin "ValueError.__new__"), some (.bool true)] }),
  (32, { cls := .type "getset_descriptor", data := Data.fields #[vs "__weakref__" 209, .ref 31, .builtin "ExceptionGroup.__weakref__", .none] }),
  (35, tu [.ref 31]),
  (42, tp),
  (43, di [(de P "__module__" 221 (vs "pickfloor.errors" 194)), (de P "__firstlineno__" 225 (.int 7 224)), (de P "__static_attributes__" 226 (.ref 42)), (de P "__doc__" 227 .none)] 2),
  (44, { cls := .type "type", data := Data.cls { name := Str.ofString "BadWare", bases := [.ref 31], mro := [.ref 44, .ref 31, .type "ValueError", .type "Exception", .type "BaseException", .type "object"], ns := 43, qualname := Str.ofString "BadWare" }, slots := #[some (.ref 35), none, some (vs "BadWare" 214), some (vs "BadWare" 222), some (.builtin "ValueError.__new__"), some (.bool true)] }),
  (47, tu [.ref 31]),
  (54, tp),
  (55, di [(de P "__module__" 237 (vs "pickfloor.errors" 194)), (de P "__firstlineno__" 241 (.int 9 240)), (de P "__static_attributes__" 242 (.ref 54)), (de P "__doc__" 243 .none)] 2),
  (56, { cls := .type "type", data := Data.cls { name := Str.ofString "BadMake", bases := [.ref 31], mro := [.ref 56, .ref 31, .type "ValueError", .type "Exception", .type "BaseException", .type "object"], ns := 55, qualname := Str.ofString "BadMake" }, slots := #[some (.ref 47), none, some (vs "BadMake" 230), some (vs "BadMake" 238), some (.builtin "ValueError.__new__"), some (.bool true)] }),
  (59, tu [.ref 31]),
  (66, tp),
  (67, di [(de P "__module__" 253 (vs "pickfloor.errors" 194)), (de P "__firstlineno__" 257 (.int 11 256)), (de P "__static_attributes__" 258 (.ref 66)), (de P "__doc__" 259 .none)] 2),
  (68, { cls := .type "type", data := Data.cls { name := Str.ofString "BadNeed", bases := [.ref 31], mro := [.ref 68, .ref 31, .type "ValueError", .type "Exception", .type "BaseException", .type "object"], ns := 67, qualname := Str.ofString "BadNeed" }, slots := #[some (.ref 59), none, some (vs "BadNeed" 246), some (vs "BadNeed" 254), some (.builtin "ValueError.__new__"), some (.bool true)] }),
  (71, tu [.ref 31]),
  (78, tp),
  (79, di [(de P "__module__" 269 (vs "pickfloor.errors" 194)), (de P "__firstlineno__" 273 (.int 13 272)), (de P "__static_attributes__" 274 (.ref 78)), (de P "__doc__" 275 .none)] 2),
  (80, { cls := .type "type", data := Data.cls { name := Str.ofString "Twice", bases := [.ref 31], mro := [.ref 80, .ref 31, .type "ValueError", .type "Exception", .type "BaseException", .type "object"], ns := 79, qualname := Str.ofString "Twice" }, slots := #[some (.ref 71), none, some (vs "Twice" 262), some (vs "Twice" 270), some (.builtin "ValueError.__new__"), some (.bool true)] }),
  (83, tu [.ref 31]),
  (90, tp),
  (91, di [(de P "__module__" 285 (vs "pickfloor.errors" 194)), (de P "__firstlineno__" 289 (.int 15 288)), (de P "__static_attributes__" 290 (.ref 90)), (de P "__doc__" 291 .none)] 2),
  (92, { cls := .type "type", data := Data.cls { name := Str.ofString "Full", bases := [.ref 31], mro := [.ref 92, .ref 31, .type "ValueError", .type "Exception", .type "BaseException", .type "object"], ns := 91, qualname := Str.ofString "Full" }, slots := #[some (.ref 83), none, some (vs "Full" 278), some (vs "Full" 286), some (.builtin "ValueError.__new__"), some (.bool true)] }),
  (95, tu [.ref 31]),
  (102, tp),
  (103, di [(de P "__module__" 301 (vs "pickfloor.errors" 194)), (de P "__firstlineno__" 305 (.int 17 304)), (de P "__static_attributes__" 306 (.ref 102)), (de P "__doc__" 307 .none)] 2),
  (104, { cls := .type "type", data := Data.cls { name := Str.ofString "NoMake", bases := [.ref 31], mro := [.ref 104, .ref 31, .type "ValueError", .type "Exception", .type "BaseException", .type "object"], ns := 103, qualname := Str.ofString "NoMake" }, slots := #[some (.ref 95), none, some (vs "NoMake" 294), some (vs "NoMake" 302), some (.builtin "ValueError.__new__"), some (.bool true)] }),
  (107, tu [.ref 31]),
  (114, tp),
  (115, di [(de P "__module__" 317 (vs "pickfloor.errors" 194)), (de P "__firstlineno__" 321 (.int 19 320)), (de P "__static_attributes__" 322 (.ref 114)), (de P "__doc__" 323 .none)] 2),
  (116, { cls := .type "type", data := Data.cls { name := Str.ofString "BadWish", bases := [.ref 31], mro := [.ref 116, .ref 31, .type "ValueError", .type "Exception", .type "BaseException", .type "object"], ns := 115, qualname := Str.ofString "BadWish" }, slots := #[some (.ref 107), none, some (vs "BadWish" 310), some (vs "BadWish" 318), some (.builtin "ValueError.__new__"), some (.bool true)] }),
  (119, tu [.ref 31]),
  (126, tp),
  (127, di [(de P "__module__" 333 (vs "pickfloor.errors" 194)), (de P "__firstlineno__" 337 (.int 21 336)), (de P "__static_attributes__" 338 (.ref 126)), (de P "__doc__" 339 .none)] 2),
  (128, { cls := .type "type", data := Data.cls { name := Str.ofString "BadPick", bases := [.ref 31], mro := [.ref 128, .ref 31, .type "ValueError", .type "Exception", .type "BaseException", .type "object"], ns := 127, qualname := Str.ofString "BadPick" }, slots := #[some (.ref 119), none, some (vs "BadPick" 326), some (vs "BadPick" 334), some (.builtin "ValueError.__new__"), some (.bool true)] }),
  (131, tp),
  (134, cb "is_ware" "is_ware" 350 27 1 353 134),
  (135, fu 15 none "is_ware" q2 134),
  (136, tp),
  (138, tu [vs "thing" 359]),
  (139, tp),
  (141, ca "is_make" "is_make" 356 31 1 360 141),
  (142, fu 16 none "is_make" q2 141),
  (143, tp),
  (145, tu [vs "thing" 366]),
  (146, tp),
  (148, ca "is_need" "is_need" 363 33 1 367 148),
  (149, fu 17 none "is_need" q2 148),
  (150, tp),
  (152, tu [vs "make" 373, vs "low" 374, vs "high" 375]),
  (153, tp),
  (155, ca "within" "within" 370 37 3 376 155),
  (156, fu 18 none "within" q2 155),
  (157, tp),
  (160, cb "need_wish" "need_wish" 383 41 1 386 160),
  (161, fu 21 none "need_wish" q3 160),
  (162, tp),
  (165, cb "need_pick" "need_pick" 389 44 2 392 165),
  (166, fu 22 none "need_pick" q3 165),
  (167, tp),
  (169, tu [vs "shop" 398, vs "wish" 399, vs "pick" 400, vs "found" 401, vs "need" 402, vs "at" 403]),
  (170, tp),
  (172, ca "agenda_of" "agenda_of" 395 47 3 404 172),
  (173, fu 23 none "agenda_of" q3 172),
  (174, tp),
  (176, tu [vs "need" 410, vs "pick" 411]),
  (177, tp),
  (179, ca "is_met" "is_met" 407 60 2 412 179),
  (180, fu 24 none "is_met" q3 179),
  (181, tp),
  (184, cb "meets_all" "meets_all" 415 62 3 418 184),
  (185, fu 25 none "meets_all" q3 184),
  (186, tp),
  (188, tu [vs "shop" 424, vs "wish" 425, vs "pick" 426]),
  (189, tp),
  (191, ca "agenda" "agenda" 421 71 3 427 191),
  (192, fu 26 none "agenda" q3 191),
  (193, tp),
  (195, tu [vs "shop" 433, vs "wish" 434, vs "pick" 435]),
  (196, tp),
  (198, ca "meets" "meets" 430 75 3 436 198),
  (199, fu 27 none "meets" q3 198),
  (200, tp),
  (202, tu [vs "shop" 442, vs "wish" 443, vs "one" 444, vs "other" 445, vs "pick" 446, vs "ware" 447]),
  (203, tp),
  (205, ca "newer" "newer" 439 79 4 448 205),
  (206, fu 28 none "newer" q3 205),
  (207, tp),
  (209, tu [vs "thing" 456, vs "many" 457]),
  (210, tp),
  (212, ca "is_number" "is_number" 453 90 2 458 212),
  (213, fu 30 none "is_number" q4 212),
  (214, tp),
  (216, tu [vs "shop" 464, vs "pairs" 465, vs "found" 466, vs "pair" 467]),
  (217, tp),
  (219, ca "granted_of" "granted_of" 461 92 2 468 219),
  (220, fu 31 none "granted_of" q4 219),
  (221, tp),
  (223, tu [vs "granted" 474, vs "ware" 475, vs "make" 476]),
  (224, tp),
  (226, ca "is_granted" "is_granted" 471 101 3 477 226),
  (227, fu 32 none "is_granted" q4 226),
  (228, tp),
  (230, tu [vs "shop" 483, vs "wish" 484, vs "granted" 485, vs "ware" 486, vs "source" 487, vs "need" 488, vs "needs" 489]),
  (231, tp),
  (233, ca "stretch_of" "stretch_of" 480 103 5 490 233),
  (234, fu 33 none "stretch_of" q4 233),
  (235, tp),
  (238, cb "left_by" "left_by" 493 118 3 496 238),
  (239, fu 34 none "left_by" q4 238),
  (240, tp),
  (242, tu [vs "branches" 502, vs "makes" 503, vs "pair" 504, vs "make" 505]),
  (243, tp),
  (245, ca "is_branch_row" "is_branch_row" 499 124 2 506 245),
  (246, fu 35 none "is_branch_row" q4 245),
  (247, tp),
  (250, cb "holds_by" "holds_by" 509 131 4 512 250),
  (251, fu 36 none "holds_by" q4 250),
  (252, tp),
  (254, tu [vs "shop" 518, vs "wish" 519, vs "pairs" 520, vs "thing" 521]),
  (255, tp),
  (257, ca "holds" "holds" 515 148 4 522 257),
  (258, fu 37 none "holds" q4 257),
  (259, tp),
  (262, cb "sources_for" "sources_for" 527 152 4 530 262),
  (263, fu 39 none "sources_for" q5 262),
  (264, tp),
  (266, tu [vs "shop" 536, vs "pairs" 537, vs "picked" 538, vs "ware" 539, vs "make" 540, vs "k" 541, vs "need" 542]),
  (267, tp),
  (269, ca "clash" "clash" 533 159 2 543 269),
  (270, fu 40 none "clash" q5 269),
  (271, tp),
  (273, tu [vs "shop" 549, vs "wish" 550, vs "pairs" 551, vs "ware" 552, vs "make" 553, vs "sources" 554, vs "granted" 555, vs "source" 556, vs "low" 557, vs "high" 558]),
  (274, tp),
  (276, ca "outside" "outside" 546 166 6 559 276),
  (277, fu 41 none "outside" q5 276),
  (278, tp),
  (281, cb "settled" "settled" 562 173 3 565 281),
  (282, fu 42 none "settled" q5 281),
  (283, tp),
  (285, tu [vs "shop" 571, vs "wish" 572, vs "found" 573, vs "reason" 574]),
  (286, tp),
  (288, ca "settle" "settle" 568 194 2 575 288),
  (289, fu 43 none "settle" q5 288),
  (290, tp),
  (292, tu [vs "ware" 589, vs "needs" 590, vs "met" 591, vs "need" 592]),
  (293, tp),
  (295, ca "need_needs" "need_needs" 586 204 2 593 295),
  (296, fu 48 none "need_needs" q6 295),
  (304, tp),
  (306, tu [vs "self" 611]),
  (307, tp),
  (309, ca "__init__" "Shop.__init__" 608 214 1 612 309),
  (310, fu 49 (some 0) "Shop.__init__" q6 309),
  (311, tp),
  (313, tu [vs "self" 618, vs "ware" 619, vs "make" 620]),
  (314, tp),
  (316, ca "has" "Shop.has" 615 217 3 621 316),
  (317, fu 49 (some 1) "Shop.has" q6 316),
  (318, tp),
  (320, tu [vs "self" 627, vs "ware" 628, vs "make" 629, vs "needs" 630]),
  (321, tp),
  (323, ca "put" "Shop.put" 624 220 4 631 323),
  (324, fu 49 (some 2) "Shop.put" q6 323),
  (325, tp),
  (327, tu [vs "self" 637, vs "ware" 638, vs "make" 639]),
  (328, tp),
  (330, ca "take" "Shop.take" 634 234 3 640 330),
  (331, fu 49 (some 3) "Shop.take" q6 330),
  (332, tp),
  (334, tu [vs "self" 646, vs "ware" 647]),
  (335, tp),
  (337, ca "makes" "Shop.makes" 643 237 2 648 337),
  (338, fu 49 (some 4) "Shop.makes" q6 337),
  (339, tp),
  (341, tu [vs "self" 654, vs "ware" 655, vs "make" 656]),
  (342, tp),
  (344, ca "needs" "Shop.needs" 651 242 3 657 344),
  (345, fu 49 (some 5) "Shop.needs" q6 344),
  (346, tp),
  (348, tu [vs "self" 663]),
  (349, tp),
  (351, ca "wares" "Shop.wares" 660 247 1 664 351),
  (352, fu 49 (some 6) "Shop.wares" q6 351),
  (353, tu [vs "kept" 667]),
  (354, di [(de P "__module__" 603 (vs "pickfloor.shop" 578)), (de P "__firstlineno__" 607 (.int 212 606)), (de P "__init__" 614 (.ref 310)), (de P "has" 623 (.ref 317)), (de P "put" 633 (.ref 324)), (de P "take" 642 (.ref 331)), (de P "makes" 650 (.ref 338)), (de P "needs" 659 (.ref 345)), (de P "wares" 666 (.ref 352)), (de P "__static_attributes__" 668 (.ref 353)), (de P "__dict__" 670 (.ref 356)), (de P "__weakref__" 672 (.ref 357)), (de P "__doc__" 673 .none)] 4),
  (355, { cls := .type "type", data := Data.cls { name := Str.ofString "Shop", bases := [.type "object"], mro := [.ref 355, .type "object"], ns := 354, qualname := Str.ofString "Shop" }, slots := #[none, none, some (vs "Shop" 596), some (vs "Shop" 604), some (.builtin "object.__new__"), some (.bool true)] }),
  (356, { cls := .type "getset_descriptor", data := Data.fields #[vs "__dict__" 669, .ref 355, .builtin "function.__dict__", .builtin "function.__dict__#set"] }),
  (357, { cls := .type "getset_descriptor", data := Data.fields #[vs "__weakref__" 671, .ref 355, .builtin "ExceptionGroup.__weakref__", .none] }),
  (360, tp),
  (362, tu [vs "_law_script" 681, vs "_law_k" 682, vs "_law_cell" 683, vs "_law_number" 684]),
  (363, tp),
  (365, ca "_law_mixed" "_law_mixed" 678 250 2 685 365),
  (366, fu 51 none "_law_mixed" q7 365),
  (367, tp),
  (370, cb "_law_names" "_law_names" 688 256 2 691 370),
  (371, fu 52 none "_law_names" q7 370),
  (372, tp),
  (374, tu [vs "_law_number" 697, vs "_law_makes" 698, vs "_law_one" 699, vs "_law_other" 700, vs "_law_way" 701]),
  (375, tp),
  (377, ca "_law_stretch" "_law_stretch" 694 269 2 702 377),
  (378, fu 53 none "_law_stretch" q7 377),
  (379, tp),
  (382, cb "_law_needs" "_law_needs" 705 284 5 708 382),
  (383, fu 54 none "_law_needs" q7 382),
  (384, tp),
  (387, cb "_law_rows" "_law_rows" 711 296 3 714 387),
  (388, fu 55 none "_law_rows" q7 387),
  (389, tp),
  (391, tu [vs "_law_script" 720, vs "_law_rows_here" 721, vs "_law_most" 722, vs "_law_names_here" 723, vs "_law_found" 724, vs "_law_number" 725, vs "_law_turn" 726, vs "_law_name" 727, vs "_law_low" 728, vs "_law_high" 729]),
  (392, tp),
  (394, ca "_law_wish" "_law_wish" 717 310 3 730 394),
  (395, fu 56 none "_law_wish" q7 394),
  (396, tp),
  (398, tu [vs "_law_rows_here" 736, vs "_law_shop_here" 737, vs "_law_ware" 738, vs "_law_make" 739]),
  (399, tp),
  (401, ca "_law_shop" "_law_shop" 733 322 1 740 401),
  (402, fu 57 none "_law_shop" q7 401),
  (403, tp),
  (406, cb "_law_agenda" "_law_agenda" 743 328 3 746 406),
  (407, fu 58 none "_law_agenda" q7 406),
  (408, tp),
  (410, tu [vs "_law_rows_here" 752, vs "_law_wish_here" 753, vs "_law_pick" 754, vs "_law_needs_here" 755, vs "_law_ware" 756, vs "_law_low" 757, vs "_law_high" 758]),
  (411, tp),
  (413, ca "_law_meets" "_law_meets" 749 338 3 759 413),
  (414, fu 59 none "_law_meets" q7 413),
  (415, tp),
  (418, cb "_law_all_picks" "_law_all_picks" 762 346 2 765 418),
  (419, fu 60 none "_law_all_picks" q7 418),
  (420, tp),
  (423, cb "_law_bad_wish" "_law_bad_wish" 768 358 2 771 423),
  (424, fu 61 none "_law_bad_wish" q7 423),
  (425, tp),
  (428, cb "_law_bad_pair" "_law_bad_pair" 774 369 2 777 428),
  (429, fu 62 none "_law_bad_pair" q7 428),
  (430, tp),
  (433, cb "_law_bad_pick" "_law_bad_pick" 780 375 2 783 433),
  (434, fu 63 none "_law_bad_pick" q7 433),
  (435, tp),
  (438, cb "_law_bad_pairs" "_law_bad_pairs" 786 382 2 789 438),
  (439, fu 64 none "_law_bad_pairs" q7 438),
  (440, tp),
  (442, tu [vs "_law_way" 795, vs "_law_shop_here" 796, vs "_law_wish_here" 797, vs "_law_thing" 798, vs "_law_good" 799]),
  (443, tp),
  (445, ca "_law_asked" "_law_asked" 792 392 5 800 445),
  (446, fu 65 none "_law_asked" q7 445),
  (447, tp),
  (450, cb "_law_refused" "_law_refused" 803 404 5 806 450),
  (451, fu 66 none "_law_refused" q7 450),
  (452, tp),
  (454, tu [vs "_law_script" 812, vs "_law_k" 813, vs "_law_rows_here" 814, vs "_law_wish_here" 815, vs "_law_good" 816, vs "_law_number" 817, vs "_law_way" 818, vs "_law_bad" 819, vs "_law_bad_wish_here" 820, vs "_law_other" 821, vs "_law_ware" 822]),
  (455, tp),
  (457, ca "_law_deed" "_law_deed" 809 414 5 823 457),
  (458, fu 67 none "_law_deed" q7 457),
  (459, tp),
  (462, cb "law" "law" 826 432 1 829 462),
  (463, fu 68 none "law" q7 462)]
noncomputable def asL : List Addr := [2, 3, 15, 17, 18, 20, 21, 22, 29, 30, 31, 32, 35, 42, 43, 44, 47, 54, 55, 56, 59, 66, 67, 68, 71, 78, 79, 80, 83, 90, 91, 92, 95, 102, 103, 104, 107, 114, 115, 116, 119, 126, 127, 128, 131, 134, 135, 136, 138, 139, 141, 142, 143, 145, 146, 148, 149, 150, 152, 153, 155, 156, 157, 160, 161, 162, 165, 166, 167, 169, 170, 172, 173, 174, 176, 177, 179, 180, 181, 184, 185, 186, 188, 189, 191, 192, 193, 195, 196, 198, 199, 200, 202, 203, 205, 206, 207, 209, 210, 212, 213, 214, 216, 217, 219, 220, 221, 223, 224, 226, 227, 228, 230, 231, 233, 234, 235, 238, 239, 240, 242, 243, 245, 246, 247, 250, 251, 252, 254, 255, 257, 258, 259, 262, 263, 264, 266, 267, 269, 270, 271, 273, 274, 276, 277, 278, 281, 282, 283, 285, 286, 288, 289, 290, 292, 293, 295, 296, 304, 306, 307, 309, 310, 311, 313, 314, 316, 317, 318, 320, 321, 323, 324, 325, 327, 328, 330, 331, 332, 334, 335, 337, 338, 339, 341, 342, 344, 345, 346, 348, 349, 351, 352, 353, 354, 355, 356, 357, 360, 362, 363, 365, 366, 367, 370, 371, 372, 374, 375, 377, 378, 379, 382, 383, 384, 387, 388, 389, 391, 392, 394, 395, 396, 398, 399, 401, 402, 403, 406, 407, 408, 410, 411, 413, 414, 415, 418, 419, 420, 423, 424, 425, 428, 429, 430, 433, 434, 435, 438, 439, 440, 442, 443, 445, 446, 447, 450, 451, 452, 454, 455, 457, 458, 459, 462, 463]
noncomputable def o (k : Nat) (P : Params) : Obj := (((K P)[k]?).map (·.2)).getD default
noncomputable def fo (k : Nat) (P : Params) : FuncData := match (o k P).data with | .func f => f | _ => default
noncomputable def fz (k : Nat) (P : Params) : Obj := { cls := .none, dict := none, data := Data.func { fo k P with globals := 0, pyModule := .none, code := .none }, slots := #[] }
noncomputable def su (k : Nat) : Obj := { cls := .type "super", data := Data.fields #[.ref k, .ref k, .ref k] }
noncomputable def bi (k : Nat) : Obj := { cls := .type "builtin_function_or_method", data := Data.fields #[.builtin "object.__init_subclass__", .ref k] }
noncomputable def xs (P : Params) : List Obj := [
  tp,
  nf,
  co "<module>" 182 "<module>" 183 184 186 [vi 1, vi 0, vi 0, vi 0, vi 0, .ref 11, .bool false, vi 181, .ref 12, .none, .none, .none, .none, vi 185, vi 1],
  fm 13 3 3 (vs "__main__" 164),
  di [(de P "__name__" 165 (vs "pickfloor.errors" 194)), (de P "__doc__" 166 .none), (de P "__package__" 167 .none), (de P "__loader__" 168 (.builtin "__main__.__loader__#opaque")), (de P "__spec__" 169 .none), (de P "__annotations__" 170 (.ref 6)), (de P "__builtins__" 171 (.ref 4)), (de P "__file__" 173 (vs "/claim/cut.py" 172)), (de P "__cached__" 174 .none), (de P "_wall" 193 (.ref 21)), (de P "PickError" 213 (.ref 31)), (de P "BadWare" 229 (.ref 44)), (de P "BadMake" 245 (.ref 56)), (de P "BadNeed" 261 (.ref 68)), (de P "Twice" 277 (.ref 80))] 15,
  nl [vi 1, vi 0, .ref 20, vi 5, vi 0, .ref 27, vi 7, vi 0, .ref 40, vi 9, vi 0, .ref 52, vi 11, vi 0, .ref 64, vi 13, vi 0, .ref 76],
  nf,
  fz 6 P,
  bp,
  di [(de P "__module__" 203 (vs "pickfloor.errors" 194)), (de P "__qualname__" 205 (vs "PickError" 204)), (de P "__firstlineno__" 207 (Value.int 5 206)), (de P "__static_attributes__" 208 (.ref 29))] 4,
  tp,
  nf,
  co "PickError" 198 "PickError" 199 200 202 [vi 5, vi 0, vi 0, vi 0, vi 0, .ref 25, .bool false, vi 181, .ref 26, .none, .none, .none, .none, vi 201, vi 5],
  fm 27 3 24 (vs "pickfloor.errors" 194),
  { cls := .type "type", data := Data.cls { name := Str.ofString "PickError", bases := [.type "ValueError"], mro := [.ref 31, .type "ValueError", .type "Exception", .type "BaseException", .type "object"], ns := 30, qualname := Str.ofString "PickError", subclasses := [.ref 44, .ref 56, .ref 68, .ref 80] }, slots := #[some (.ref 22), none, some (vs "PickError" 196), some (vs "PickError" 204), some (.builtin "ValueError.__new__"), some (.bool true)] },
  su 31,
  bi 31,
  bp,
  di [(de P "__module__" 221 (vs "pickfloor.errors" 194)), (de P "__qualname__" 223 (vs "BadWare" 222)), (de P "__firstlineno__" 225 (Value.int 7 224)), (de P "__static_attributes__" 226 (.ref 42))] 4,
  tp,
  nf,
  co "BadWare" 216 "BadWare" 217 218 220 [vi 7, vi 0, vi 0, vi 0, vi 0, .ref 38, .bool false, vi 181, .ref 39, .none, .none, .none, .none, vi 219, vi 7],
  fm 40 3 37 (vs "pickfloor.errors" 194),
  su 44,
  bi 44,
  bp,
  di [(de P "__module__" 237 (vs "pickfloor.errors" 194)), (de P "__qualname__" 239 (vs "BadMake" 238)), (de P "__firstlineno__" 241 (Value.int 9 240)), (de P "__static_attributes__" 242 (.ref 54))] 4,
  tp,
  nf,
  co "BadMake" 232 "BadMake" 233 234 236 [vi 9, vi 0, vi 0, vi 0, vi 0, .ref 50, .bool false, vi 181, .ref 51, .none, .none, .none, .none, vi 235, vi 9],
  fm 52 3 49 (vs "pickfloor.errors" 194),
  su 56,
  bi 56,
  bp,
  di [(de P "__module__" 253 (vs "pickfloor.errors" 194)), (de P "__qualname__" 255 (vs "BadNeed" 254)), (de P "__firstlineno__" 257 (Value.int 11 256)), (de P "__static_attributes__" 258 (.ref 66))] 4,
  tp,
  nf,
  co "BadNeed" 248 "BadNeed" 249 250 252 [vi 11, vi 0, vi 0, vi 0, vi 0, .ref 62, .bool false, vi 181, .ref 63, .none, .none, .none, .none, vi 251, vi 11],
  fm 64 3 61 (vs "pickfloor.errors" 194),
  su 68,
  bi 68,
  bp,
  di [(de P "__module__" 269 (vs "pickfloor.errors" 194)), (de P "__qualname__" 271 (vs "Twice" 270)), (de P "__firstlineno__" 273 (Value.int 13 272)), (de P "__static_attributes__" 274 (.ref 78))] 4,
  tp,
  nf,
  co "Twice" 264 "Twice" 265 266 268 [vi 13, vi 0, vi 0, vi 0, vi 0, .ref 74, .bool false, vi 181, .ref 75, .none, .none, .none, .none, vi 267, vi 13],
  fm 76 3 73 (vs "pickfloor.errors" 194),
  su 80,
  bi 80,
  di [(de P "__name__" 165 (vs "pickfloor.picks" 379)), (de P "__doc__" 166 .none), (de P "__package__" 167 .none), (de P "__loader__" 168 (.builtin "__main__.__loader__#opaque")), (de P "__spec__" 169 .none), (de P "__annotations__" 170 (.ref 6)), (de P "__builtins__" 171 (.ref 4)), (de P "__file__" 173 (vs "/claim/cut.py" 172)), (de P "__cached__" 174 .none), (de P "_wall" 193 (.ref 21)), (de P "PickError" 213 (.ref 31)), (de P "BadWare" 229 (.ref 44)), (de P "BadMake" 245 (.ref 56)), (de P "BadNeed" 261 (.ref 68)), (de P "Twice" 277 (.ref 80)), (de P "Full" 293 (.ref 92)), (de P "NoMake" 309 (.ref 104)), (de P "BadWish" 325 (.ref 116)), (de P "BadPick" 341 (.ref 128)), (de P "LETTERS" 345 (vs "abcdefghijklmnopqrstuvwxyz" 344)), (de P "MOST_LETTERS" 347 (Value.int 8 346)), (de P "MOST_MAKE" 349 (Value.int 999 348)), (de P "is_ware" 355 (.ref 135)), (de P "is_make" 362 (.ref 142)), (de P "is_need" 369 (.ref 149)), (de P "within" 378 (.ref 156)), (de P "MOST_WISHES" 382 (Value.int 8 381)), (de P "need_wish" 388 (.ref 161)), (de P "need_pick" 394 (.ref 166)), (de P "agenda_of" 406 (.ref 173)), (de P "is_met" 414 (.ref 180)), (de P "meets_all" 420 (.ref 185)), (de P "agenda" 429 (.ref 192))] 33,
  nl [vi 1, vi 0, .ref 20, vi 5, vi 0, .ref 27, vi 7, vi 0, .ref 40, vi 9, vi 0, .ref 52, vi 11, vi 0, .ref 64, vi 13, vi 0, .ref 76, vi 15, vi 0, .ref 88, vi 17, vi 0, .ref 100, vi 19, vi 0, .ref 112, vi 21, vi 0, .ref 124, vi 27, vi 0, .ref 134, vi 31, vi 0, .ref 141, vi 33, vi 0, .ref 148, vi 37, vi 0, .ref 155, vi 41, vi 0, .ref 160, vi 44, vi 0, .ref 165, vi 47, vi 0, .ref 172, vi 60, vi 0, .ref 179, vi 62, vi 0, .ref 184, vi 71, vi 0, .ref 191],
  bp,
  di [(de P "__module__" 285 (vs "pickfloor.errors" 194)), (de P "__qualname__" 287 (vs "Full" 286)), (de P "__firstlineno__" 289 (Value.int 15 288)), (de P "__static_attributes__" 290 (.ref 90))] 4,
  tp,
  nf,
  co "Full" 280 "Full" 281 282 284 [vi 15, vi 0, vi 0, vi 0, vi 0, .ref 86, .bool false, vi 181, .ref 87, .none, .none, .none, .none, vi 283, vi 15],
  fm 88 3 85 (vs "pickfloor.errors" 194),
  su 92,
  bi 92,
  bp,
  di [(de P "__module__" 301 (vs "pickfloor.errors" 194)), (de P "__qualname__" 303 (vs "NoMake" 302)), (de P "__firstlineno__" 305 (Value.int 17 304)), (de P "__static_attributes__" 306 (.ref 102))] 4,
  tp,
  nf,
  co "NoMake" 296 "NoMake" 297 298 300 [vi 17, vi 0, vi 0, vi 0, vi 0, .ref 98, .bool false, vi 181, .ref 99, .none, .none, .none, .none, vi 299, vi 17],
  fm 100 3 97 (vs "pickfloor.errors" 194),
  su 104,
  bi 104,
  bp,
  di [(de P "__module__" 317 (vs "pickfloor.errors" 194)), (de P "__qualname__" 319 (vs "BadWish" 318)), (de P "__firstlineno__" 321 (Value.int 19 320)), (de P "__static_attributes__" 322 (.ref 114))] 4,
  tp,
  nf,
  co "BadWish" 312 "BadWish" 313 314 316 [vi 19, vi 0, vi 0, vi 0, vi 0, .ref 110, .bool false, vi 181, .ref 111, .none, .none, .none, .none, vi 315, vi 19],
  fm 112 3 109 (vs "pickfloor.errors" 194),
  su 116,
  bi 116,
  bp,
  di [(de P "__module__" 333 (vs "pickfloor.errors" 194)), (de P "__qualname__" 335 (vs "BadPick" 334)), (de P "__firstlineno__" 337 (Value.int 21 336)), (de P "__static_attributes__" 338 (.ref 126))] 4,
  tp,
  nf,
  co "BadPick" 328 "BadPick" 329 330 332 [vi 21, vi 0, vi 0, vi 0, vi 0, .ref 122, .bool false, vi 181, .ref 123, .none, .none, .none, .none, vi 331, vi 21],
  fm 124 3 121 (vs "pickfloor.errors" 194),
  su 128,
  bi 128,
  nf,
  fz 46 P,
  nf,
  fz 51 P,
  nf,
  fz 56 P,
  nf,
  fz 61 P,
  nf,
  fz 64 P,
  nf,
  fz 67 P,
  nf,
  fz 72 P,
  nf,
  fz 77 P,
  nf,
  fz 80 P,
  nf,
  fz 85 P,
  di [(de P "__name__" 165 (vs "law_uf010025_08" 676)), (de P "__doc__" 166 .none), (de P "__package__" 167 .none), (de P "__loader__" 168 (.builtin "__main__.__loader__#opaque")), (de P "__spec__" 169 .none), (de P "__annotations__" 170 (.ref 6)), (de P "__builtins__" 171 (.ref 4)), (de P "__file__" 173 (vs "/claim/cut.py" 172)), (de P "__cached__" 174 .none), (de P "_wall" 193 (.ref 21)), (de P "PickError" 213 (.ref 31)), (de P "BadWare" 229 (.ref 44)), (de P "BadMake" 245 (.ref 56)), (de P "BadNeed" 261 (.ref 68)), (de P "Twice" 277 (.ref 80)), (de P "Full" 293 (.ref 92)), (de P "NoMake" 309 (.ref 104)), (de P "BadWish" 325 (.ref 116)), (de P "BadPick" 341 (.ref 128)), (de P "LETTERS" 345 (vs "abcdefghijklmnopqrstuvwxyz" 344)), (de P "MOST_LETTERS" 347 (Value.int 8 346)), (de P "MOST_MAKE" 349 (Value.int 999 348)), (de P "is_ware" 355 (.ref 135)), (de P "is_make" 362 (.ref 142)), (de P "is_need" 369 (.ref 149)), (de P "within" 378 (.ref 156)), (de P "MOST_WISHES" 382 (Value.int 8 381)), (de P "need_wish" 388 (.ref 161)), (de P "need_pick" 394 (.ref 166)), (de P "agenda_of" 406 (.ref 173)), (de P "is_met" 414 (.ref 180)), (de P "meets_all" 420 (.ref 185)), (de P "agenda" 429 (.ref 192)), (de P "meets" 438 (.ref 199)), (de P "newer" 450 (.ref 206)), (de P "is_number" 460 (.ref 213)), (de P "granted_of" 470 (.ref 220)), (de P "is_granted" 479 (.ref 227)), (de P "stretch_of" 492 (.ref 234)), (de P "left_by" 498 (.ref 239)), (de P "is_branch_row" 508 (.ref 246)), (de P "holds_by" 514 (.ref 251)), (de P "holds" 524 (.ref 258)), (de P "sources_for" 532 (.ref 263)), (de P "clash" 545 (.ref 270)), (de P "outside" 561 (.ref 277)), (de P "settled" 567 (.ref 282)), (de P "settle" 577 (.ref 289)), (de P "MOST_WARES" 581 (Value.int 12 580)), (de P "MOST_MAKES" 583 (Value.int 8 582)), (de P "MOST_NEEDS" 585 (Value.int 6 584)), (de P "need_needs" 595 (.ref 296)), (de P "Shop" 675 (.ref 355)), (de P "_law_mixed" 687 (.ref 366)), (de P "_law_names" 693 (.ref 371)), (de P "_law_stretch" 704 (.ref 378)), (de P "_law_needs" 710 (.ref 383)), (de P "_law_rows" 716 (.ref 388)), (de P "_law_wish" 732 (.ref 395)), (de P "_law_shop" 742 (.ref 402))] 60,
  nl [vi 1, vi 0, .ref 20, vi 5, vi 0, .ref 27, vi 7, vi 0, .ref 40, vi 9, vi 0, .ref 52, vi 11, vi 0, .ref 64, vi 13, vi 0, .ref 76, vi 15, vi 0, .ref 88, vi 17, vi 0, .ref 100, vi 19, vi 0, .ref 112, vi 21, vi 0, .ref 124, vi 27, vi 0, .ref 134, vi 31, vi 0, .ref 141, vi 33, vi 0, .ref 148, vi 37, vi 0, .ref 155, vi 41, vi 0, .ref 160, vi 44, vi 0, .ref 165, vi 47, vi 0, .ref 172, vi 60, vi 0, .ref 179, vi 62, vi 0, .ref 184, vi 71, vi 0, .ref 191, vi 75, vi 0, .ref 198, vi 79, vi 0, .ref 205, vi 90, vi 0, .ref 212, vi 92, vi 0, .ref 219, vi 101, vi 0, .ref 226, vi 103, vi 0, .ref 233, vi 118, vi 0, .ref 238, vi 124, vi 0, .ref 245, vi 131, vi 0, .ref 250, vi 148, vi 0, .ref 257, vi 152, vi 0, .ref 262, vi 159, vi 0, .ref 269, vi 166, vi 0, .ref 276, vi 173, vi 0, .ref 281, vi 194, vi 0, .ref 288, vi 204, vi 0, .ref 295, vi 212, vi 0, .ref 302, vi 250, vi 0, .ref 365, vi 256, vi 0, .ref 370, vi 269, vi 0, .ref 377, vi 284, vi 0, .ref 382, vi 296, vi 0, .ref 387, vi 310, vi 0, .ref 394, vi 322, vi 0, .ref 401],
  nf,
  fz 90 P,
  nf,
  fz 95 P,
  nf,
  fz 100 P,
  nf,
  fz 105 P,
  nf,
  fz 110 P,
  nf,
  fz 115 P,
  nf,
  fz 118 P,
  nf,
  fz 123 P,
  nf,
  fz 126 P,
  nf,
  fz 131 P,
  nf,
  fz 134 P,
  nf,
  fz 139 P,
  nf,
  fz 144 P,
  nf,
  fz 147 P,
  nf,
  fz 152 P,
  nf,
  fz 157 P,
  tp,
  bp,
  di [(de P "__module__" 603 (vs "pickfloor.shop" 578)), (de P "__qualname__" 605 (vs "Shop" 604)), (de P "__firstlineno__" 607 (Value.int 212 606)), (de P "__init__" 614 (.ref 310)), (de P "has" 623 (.ref 317)), (de P "put" 633 (.ref 324)), (de P "take" 642 (.ref 331)), (de P "makes" 650 (.ref 338)), (de P "needs" 659 (.ref 345)), (de P "wares" 666 (.ref 352)), (de P "__static_attributes__" 668 (.ref 353))] 11,
  tp,
  nl [vi 214, vi 4, .ref 309, vi 217, vi 4, .ref 316, vi 220, vi 4, .ref 323, vi 234, vi 4, .ref 330, vi 237, vi 4, .ref 337, vi 242, vi 4, .ref 344, vi 247, vi 4, .ref 351],
  co "Shop" 598 "Shop" 599 600 602 [vi 212, vi 0, vi 0, vi 0, vi 0, .ref 300, .bool false, vi 181, .ref 301, .none, .none, .none, .none, vi 601, vi 212],
  fm 302 3 299 (vs "pickfloor.shop" 578),
  nf,
  fz 162 P,
  nf,
  fz 167 P,
  nf,
  fz 172 P,
  nf,
  fz 177 P,
  nf,
  fz 182 P,
  nf,
  fz 187 P,
  nf,
  fz 192 P,
  su 355,
  bi 355,
  nf,
  fz 202 P,
  nf,
  fz 205 P,
  nf,
  fz 210 P,
  nf,
  fz 213 P,
  nf,
  fz 216 P,
  nf,
  fz 221 P,
  nf,
  fz 226 P,
  nl [vi 1, vi 0, .ref 20, vi 5, vi 0, .ref 27, vi 7, vi 0, .ref 40, vi 9, vi 0, .ref 52, vi 11, vi 0, .ref 64, vi 13, vi 0, .ref 76, vi 15, vi 0, .ref 88, vi 17, vi 0, .ref 100, vi 19, vi 0, .ref 112, vi 21, vi 0, .ref 124, vi 27, vi 0, .ref 134, vi 31, vi 0, .ref 141, vi 33, vi 0, .ref 148, vi 37, vi 0, .ref 155, vi 41, vi 0, .ref 160, vi 44, vi 0, .ref 165, vi 47, vi 0, .ref 172, vi 60, vi 0, .ref 179, vi 62, vi 0, .ref 184, vi 71, vi 0, .ref 191, vi 75, vi 0, .ref 198, vi 79, vi 0, .ref 205, vi 90, vi 0, .ref 212, vi 92, vi 0, .ref 219, vi 101, vi 0, .ref 226, vi 103, vi 0, .ref 233, vi 118, vi 0, .ref 238, vi 124, vi 0, .ref 245, vi 131, vi 0, .ref 250, vi 148, vi 0, .ref 257, vi 152, vi 0, .ref 262, vi 159, vi 0, .ref 269, vi 166, vi 0, .ref 276, vi 173, vi 0, .ref 281, vi 194, vi 0, .ref 288, vi 204, vi 0, .ref 295, vi 212, vi 0, .ref 302, vi 250, vi 0, .ref 365, vi 256, vi 0, .ref 370, vi 269, vi 0, .ref 377, vi 284, vi 0, .ref 382, vi 296, vi 0, .ref 387, vi 310, vi 0, .ref 394, vi 322, vi 0, .ref 401, vi 328, vi 0, .ref 406, vi 338, vi 0, .ref 413, vi 346, vi 0, .ref 418, vi 358, vi 0, .ref 423, vi 369, vi 0, .ref 428, vi 375, vi 0, .ref 433, vi 382, vi 0, .ref 438, vi 392, vi 0, .ref 445, vi 404, vi 0, .ref 450, vi 414, vi 0, .ref 457, vi 432, vi 0, .ref 462],
  nf,
  fz 229 P,
  nf,
  fz 234 P,
  nf,
  fz 237 P,
  nf,
  fz 240 P,
  nf,
  fz 243 P,
  nf,
  fz 246 P,
  nf,
  fz 249 P,
  nf,
  fz 254 P,
  nf,
  fz 257 P,
  nf,
  fz 262 P,
  nf,
  fz 265 P]
noncomputable def x (k : Nat) (P : Params) : Obj := ((xs P)[k]?).getD default
noncomputable def bo (P : Params) : List Obj := [boot_o_0 P, boot_o_1 P, boot_o_2 P, boot_o_3 P, boot_o_4 P, boot_o_5 P, boot_o_6 P, boot_o_7 P, boot_o_8 P, boot_o_9 P, boot_o_10 P]
noncomputable def ob (P : Params) (k : Nat) : Obj := cond (Nat.blt k 1000) (o k P) (cond (Nat.blt k 2000) (x (k - 1000) P) (((bo P)[k - 2000]?).getD default))
noncomputable def up (l : List Nat) : List (Nat × Nat) → List Nat
  | [] => l
  | p :: r => up (l.set p.1 p.2) r
noncomputable def lsa : List Nat := [2000, 2001, 2002, 2003, 2004, 2005, 2006, 2007, 2008, 2009, 2010, 1000, 1001, 1002, 1003]
noncomputable def ls1 : List Nat := up lsa [(3, 1004), (12, 1005)] ++ [2, 1006, 3, 4, 1007, 5, 6, 7, 1008, 1009, 1010, 1011, 1012, 1013, 8, 9, 1014, 11, 1015, 1016, 12, 1017, 1018, 1019, 1020, 1021, 1022, 13, 14, 15, 1023, 1024, 16, 1025, 1026, 1027, 1028, 1029, 1030, 17, 18, 19, 1031, 1032, 20, 1033, 1034, 1035, 1036, 1037, 1038, 21, 22, 23, 1039, 1040, 24, 1041, 1042, 1043, 1044, 1045, 1046, 25, 26, 27, 1047, 1048]
noncomputable def ls2 : List Nat := up ls1 [(3, 1049), (12, 1050), (31, 10)] ++ [28, 1051, 1052, 1053, 1054, 1055, 1056, 29, 30, 31, 1057, 1058, 32, 1059, 1060, 1061, 1062, 1063, 1064, 33, 34, 35, 1065, 1066, 36, 1067, 1068, 1069, 1070, 1071, 1072, 37, 38, 39, 1073, 1074, 40, 1075, 1076, 1077, 1078, 1079, 1080, 41, 42, 43, 1081, 1082, 44, 1083, 1084, 45, 46, 47, 1085, 48, 49, 1086, 50, 51, 52, 1087, 53, 54, 1088, 55, 56, 57, 1089, 58, 59, 1090, 60, 61, 62, 1091, 1092, 63, 64, 65, 1093, 1094, 66, 67, 68, 1095, 69, 70, 1096, 71, 72, 73, 1097, 74, 75, 1098, 76, 77, 78, 1099, 1100, 79, 80, 81, 1101, 82, 83, 1102, 84, 85]
noncomputable def ls3 : List Nat := up ls2 [(3, 1103), (12, 1104)] ++ [86, 1105, 87, 88, 1106, 89, 90, 91, 1107, 92, 93, 1108, 94, 95, 96, 1109, 97, 98, 1110, 99, 100, 101, 1111, 102, 103, 1112, 104, 105, 106, 1113, 107, 108, 1114, 109, 110, 111, 1115, 112, 113, 1116, 114, 115, 116, 1117, 1118, 117, 118, 119, 1119, 120, 121, 1120, 122, 123, 124, 1121, 1122, 125, 126, 127, 1123, 128, 129, 1124, 130, 131, 132, 1125, 1126, 133, 134, 135, 1127, 136, 137, 1128, 138, 139, 140, 1129, 141, 142, 1130, 143, 144, 145, 1131, 1132, 146, 147, 148, 1133, 149, 150, 1134, 151, 152, 153, 1135, 154, 155, 1136, 156, 157, 1137, 1138, 1139, 1140, 1141, 1142, 1143, 158, 1144, 159, 160, 1145, 161, 162, 163, 1146, 164, 165, 1147, 166, 167, 168, 1148, 169, 170, 1149, 171, 172, 173, 1150, 174, 175, 1151, 176, 177, 178, 1152, 179, 180, 1153, 181, 182, 183, 1154, 184, 185, 1155, 186, 187, 188, 1156, 189, 190, 1157, 191, 192, 193, 194, 195, 196, 197, 1158, 1159, 198, 1160, 199, 200, 1161, 201, 202, 203, 1162, 1163, 204, 205, 206, 1164, 207, 208, 1165, 209, 210, 211, 1166, 1167, 212, 213, 214, 1168, 1169, 215, 216, 217, 1170, 218, 219, 1171, 220, 221, 222, 1172, 223, 224, 1173, 225, 226]
noncomputable def ls4 : List Nat := up ls3 [(3, 1), (12, 1174)] ++ [227, 1175, 1176, 228, 229, 230, 1177, 231, 232, 1178, 233, 234, 235, 1179, 1180, 236, 237, 238, 1181, 1182, 239, 240, 241, 1183, 1184, 242, 243, 244, 1185, 1186, 245, 246, 247, 1187, 1188, 248, 249, 250, 1189, 251, 252, 1190, 253, 254, 255, 1191, 1192, 256, 257, 258, 1193, 259, 260, 1194, 261, 262, 263, 1195, 1196, 264, 265]
noncomputable def sa (P : Params) : BT := ofL 400 (lsa.map (ob P))
noncomputable def sb (P : Params) : BT := ofL 400 (lsa.map (ob P))
noncomputable def s1 (P : Params) : BT := ofL 400 (ls1.map (ob P))
noncomputable def s2 (P : Params) : BT := ofL 400 (ls2.map (ob P))
noncomputable def s3 (P : Params) : BT := ofL 400 (ls3.map (ob P))
noncomputable def s4 (P : Params) : BT := ofL 400 (ls4.map (ob P))
noncomputable def last (P : Params) : Heap := ⟨⟨ls4.map (ob P)⟩, life⟩
noncomputable def env : Env := { scope := PySem.Challenge.pw_uf010025_08.main.scope, locals := mainNs, globals := mainNs, cells := [], code := Value.ref 13, frame := some 14 }
noncomputable def sts1 : List Stmt := ((behindTheImports PySem.Challenge.pw_uf010025_08).drop 0).take 7
noncomputable def sts2 : List Stmt := ((behindTheImports PySem.Challenge.pw_uf010025_08).drop 7).take 20
noncomputable def sts3 : List Stmt := ((behindTheImports PySem.Challenge.pw_uf010025_08).drop 27).take 31
noncomputable def sts4 : List Stmt := ((behindTheImports PySem.Challenge.pw_uf010025_08).drop 58).take 11
noncomputable def code : Code := .body (sts1 ++ (sts2 ++ (sts3 ++ (sts4 ++ ([]))))) env
noncomputable def fr : List Frame := [topFrame { line := 0, col := 0, endLine := 0, endCol := 0 }]
theorem pre (w : World) (os : OsState) : topGo treeTable PySem.Challenge.pw_uf010025_08 w 11 (some (Value.ref 6)) 12 ⟨boot_heap w.params, ⟨[]⟩, boot_drawn, boot_toks, os⟩ (topStub PySem.Challenge.pw_uf010025_08) = some (SharedT.abs ⟨sa w.params, 15, life, ⟨[]⟩, drawn, 187, os⟩, ⟨denote treeTable code, code, ({ line := 0, col := 0, endLine := 0, endCol := 0 }), fr⟩) := by kernel_rfl
theorem block (w : World) (os : OsState) : segRunT treeTable PySem.Challenge.pw_uf010025_08 w 11 (some (Value.ref 6)) 1 1 ⟨sa w.params, 15, life, ⟨[]⟩, drawn, 187, os⟩ (blockOf (sts1 ++ (sts2 ++ (sts3 ++ (sts4 ++ ([]))))) env code ({ line := 0, col := 0, endLine := 0, endCol := 0 }) fr) = some (.next, ⟨sb w.params, 15, life, ⟨[]⟩, drawn, 187, os⟩, code, ({ line := 0, col := 0, endLine := 0, endCol := 0 })) := by kernel_rfl
theorem seg1 (w : World) (os : OsState) : segRunT treeTable PySem.Challenge.pw_uf010025_08 w 11 (some (Value.ref 6)) 1 1077 ⟨sb w.params, 15, life, ⟨[]⟩, drawn, 187, os⟩ (piecesOf sts1 env code ({ line := 0, col := 0, endLine := 0, endCol := 0 }) fr) = some (.next, ⟨s1 w.params, 83, life, ⟨[]⟩, drawn, 278, os⟩, code, ({ line := 13, col := 0, endLine := 14, endCol := 8 })) := by kernel_rfl
theorem seg2 (w : World) (os : OsState) : segRunT treeTable PySem.Challenge.pw_uf010025_08 w 11 (some (Value.ref 6)) 1 1195 ⟨s1 w.params, 83, life, ⟨[]⟩, drawn, 278, os⟩ (piecesOf sts2 env code ({ line := 13, col := 0, endLine := 14, endCol := 8 }) fr) = some (.next, ⟨s2 w.params, 193, life, ⟨[]⟩, drawn, 430, os⟩, code, ({ line := 71, col := 0, endLine := 74, endCol := 38 })) := by kernel_rfl
theorem seg3 (w : World) (os : OsState) : segRunT treeTable PySem.Challenge.pw_uf010025_08 w 11 (some (Value.ref 6)) 1 1192 ⟨s2 w.params, 193, life, ⟨[]⟩, drawn, 430, os⟩ (piecesOf sts3 env code ({ line := 71, col := 0, endLine := 74, endCol := 38 }) fr) = some (.next, ⟨s3 w.params, 403, life, ⟨[]⟩, drawn, 743, os⟩, code, ({ line := 322, col := 0, endLine := 327, endCol := 25 })) := by kernel_rfl
theorem seg4 (w : World) (os : OsState) : segRunT treeTable PySem.Challenge.pw_uf010025_08 w 11 (some (Value.ref 6)) 1 316 ⟨s3 w.params, 403, life, ⟨[]⟩, drawn, 743, os⟩ (piecesOf sts4 env code ({ line := 322, col := 0, endLine := 327, endCol := 25 }) fr) = some (.next, ⟨s4 w.params, 464, life, ⟨[]⟩, drawn, 832, os⟩, code, ({ line := 432, col := 0, endLine := 458, endCol := 80 })) := by kernel_rfl
theorem fin (w : World) (os : OsState) : topRun treeTable PySem.Challenge.pw_uf010025_08 w 11 (some (Value.ref 6)) 2 (SharedT.abs ⟨s4 w.params, 464, life, ⟨[]⟩, drawn, 832, os⟩) (restOf [] env code ({ line := 432, col := 0, endLine := 458, endCol := 80 }) fr) = some ⟨last w.params, ⟨[]⟩, drawn, 832, os⟩ := by kernel_rfl
theorem run (w : World) (os : OsState) : topRun treeTable PySem.Challenge.pw_uf010025_08 w 11 (some (Value.ref 6)) (12 + (1 + (1077 + (1195 + (1192 + (316 + (2))))))) ⟨boot_heap w.params, ⟨[]⟩, boot_drawn, boot_toks, os⟩ (topStub PySem.Challenge.pw_uf010025_08) = some ⟨last w.params, ⟨[]⟩, drawn, 832, os⟩ :=
  go_top (pre w os) (piece_block (segRun_of (block w os)) (piece_app (segRun_of (seg1 w os)) (piece_app (segRun_of (seg2 w os)) (piece_app (segRun_of (seg3 w os)) (piece_app (segRun_of (seg4 w os)) (fin w os))))))
theorem le : Nat.ble (12 + (1 + (1077 + (1195 + (1192 + (316 + (2))))))) 12000 = true := by kernel_rfl
theorem op : opening PySem.Challenge.pw_uf010025_08 = plainProg PySem.Challenge.pw_uf010025_08.main.scope.names := by kernel_rfl
theorem fence (s : Shared) : fenceModules? PySem.Challenge.pw_uf010025_08 s = some s := by kernel_rfl
theorem size (w : World) : ((boot_heap w.params).isNs mainGlobals && (Array.mk ([] : List GenState)).size == 0, (boot_heap w.params).objs.size, (boot_heap w.params).nsMap mainGlobals "__annotations__") = (true, 11, some (Value.ref 6)) := by kernel_rfl
noncomputable def q08 : Program := view PySem.Challenge.pw_uf010025_08 [0, 2, 3, 4, 5, 6, 7, 8, 9, 10, 12, 13, 14, 15, 16, 17, 18, 20, 21, 22, 23, 24, 25, 26, 27, 28, 30, 31, 32, 33, 34, 35, 36, 37, 39, 40, 41, 42, 43, 45, 46, 47, 48, 49, 51, 52, 53, 54, 55, 56, 57, 58, 59, 60, 61, 62, 63, 64, 65, 66, 67, 68]
theorem look1 (w : World) (os : OsState) : (staticsOk (importedModules PySem.Challenge.pw_uf010025_08.main.body) (boot_heap w.params) (last w.params) && namesBound PySem.Challenge.pw_uf010025_08 (last w.params) && gensDone ⟨last w.params, ⟨[]⟩, drawn, 832, os⟩ && laidKept (boot_heap w.params) (last w.params)) = true := by kernel_rfl
theorem look2 (w : World) (os : OsState) : openSeen q08 [] (importedModules PySem.Challenge.pw_uf010025_08.main.body) (fun s => xlAt q08 [] s && recOk (RowW.records (OpenRow.toRowW (OpenLaw.row PySem.Challenge.rw_uf010025_08))) s) true ⟨last w.params, ⟨[]⟩, drawn, 832, os⟩ = openGood q08 [] := by kernel_rfl
noncomputable def hk : Hook := kHook K asL (fun _ => by kernel_rfl)
noncomputable def dk := (defOf q08 (OpenLaw.row PySem.Challenge.rw_uf010025_08).name).get (by kernel_rfl)
noncomputable def xt (s : Shared) : Bool := xlAt q08 [] s && recOk (RowW.records (OpenRow.toRowW (OpenLaw.row PySem.Challenge.rw_uf010025_08))) s
noncomputable def top := fun k1 hw hc => (holds_open (r := (OpenLaw.row PySem.Challenge.rw_uf010025_08)) (q := q08) (loose := []) (Xt := xt) (XP := XL q08 []) (Yf := Hook.obs hk) (Ya := Hook.val hk) (YP := Hook.says hk) (d := dk.1) (kwd := dk.2) (N := 12000) (LeftO.of_pieces (p := PySem.Challenge.pw_uf010025_08) (boot_open op rfl fence) size run le (fun w => funext fun os => looks_pair (look1 w os) (looks_pair (look2 w os) (by kernel_rfl)))) (Hook.of hk) (Hook.keeps hk) (fun s e => xl_of s (Bool.and_eq_true_iff.mp e).1) XL.keeps (by kernel_rfl) (by kernel_rfl) (by kernel_rfl) (fun s e => recFacts_of (Bool.and_eq_true_iff.mp e).2) (by rfl) k1 (by decide +kernel) ⟨rfl, rfl, rfl, rfl, rfl, by decide +kernel⟩ hw hc : (OpenLaw.row PySem.Challenge.rw_uf010025_08).Holds)
end Tp
local macro_rules
  | `(tactic| k_head) => do
    let hw := Lean.mkIdent `hw
    let hc := Lean.mkIdent `hc
    `(tactic| refine Tp.top (by first | assumption | decide +kernel) ?$hw ?$hc)
local macro_rules
  | `(tactic| o_law) => `(tactic| refine holds_law (by decide +kernel) fun said => ?_)
open_top hd08 for PySem.Challenge.rw_uf010025_08
end
open PySem
def auS(a:Array Lean.Syntax):Lean.Syntax:= .node .none `Lean.Parser.Tactic.tacticSeq #[.node .none `Lean.Parser.Tactic.tacticSeq1Indented #[.node .none `null a]]
def auX:Lean.Syntax:= .node .none `Lean.Parser.Tactic.withUnfoldingAll #[.atom .none "with_unfolding_all",auS #[.node .none `Lean.Parser.Tactic.exact #[.atom .none "exact",.ident .none "rfl".toRawSubstring `rfl []]]]
def auR:Lean.Syntax:=auS #[auX]
def auF:Lean.Syntax:=auS #[.node .none `Lean.Parser.Tactic.intro #[.atom .none "intro",.node .none `null #[.node .none `Lean.Parser.Term.hole #[.atom .none "_"]]],.atom .none ";",auX]
section
set_option genSizeOf false in
inductive V where
 |none
 |bool (b:Bool)
 |int (i:Int)
 |str (x:Str)
 |tup (vs:List V)
 |lst (vs:List V)
 |dct (es:List (V×V))
 |rng (lo hi st:Int)
 |slc (l u s:V)
 |ref (a:Addr)
 |type (n:String)
 |bi (n:String)
set_option genSizeOf false in
inductive AO where
 |list (vs:List V)
 |dict (es:List (V×V))
 |inst (c dx:Addr) (fs:List (Str×V))
noncomputable abbrev Gh:=Addr->Option Obj
noncomputable abbrev Sto:=List (Addr×Obj×AO)
noncomputable abbrev Loc:=List (Option V)
noncomputable abbrev y4N(vs:Array Value)(n:Nat):Obj:={cls:= .type "tuple",data:= .seq vs n}
noncomputable abbrev z0D(vs:Array Value)(n:Nat):Obj:={cls:= .type "list",data:= .seq vs n}
noncomputable abbrev z2m(es:Array DictEntry)(n:Nat):Obj:={cls:= .type "dict",data:= .dict es n}
noncomputable abbrev y1n(c dx:Addr):Obj:={cls:= .ref c,dict:=some dx}
noncomputable def KH(w:World):V->Int->Prop
 | .int i,h=>h=hashInt i
 | .str x,h=>h=hashStr w x
 |_,_=>False
mutual
inductive VR(w:World)(D:Gh):Value->V->Prop
 |none:VR w D .none .none
 |bool (b:Bool):VR w D (.bool b) (.bool b)
 |int (i:Int) (t:Tok):VR w D (.int i t) (.int i)
 |str (x:Str) (t:Tok):VR w D (.str x t) (.str x)
 |ref (a:Addr):VR w D (.ref a) (.ref a)
 |type (n:String):VR w D (.type n) (.type n)
 |bi (n:String):VR w D (.builtin n) (.bi n)
 |tup {a:Addr} {o:Obj} {vs:List Value} {n:Nat} {Vs:List V}:D a=some o->o.cls= .type "tuple"->o.data= .seq vs.toArray n->VRs w D vs Vs->VR w D (.ref a) (.tup Vs)
 |lst {a:Addr} {vs:List Value} {n:Nat} {Vs:List V}:D a=some (z0D vs.toArray n)->VRs w D vs Vs->VR w D (.ref a) (.lst Vs)
 |rng {a:Addr} {x y z:Int} {t u v:Tok}:D a=some {cls:= .type "range",dict:=none,data:= .fields #[.int x t,.int y u,.int z v],slots:= #[]}->VR w D (.ref a) (.rng x y z)
 |slc {a:Addr} {l u st:Value} {L U S:V}:D a=some {cls:= .type "slice",data:= .fields #[l,u,st]}->VR w D l L->VR w D u U->VR w D st S->VR w D (.ref a) (.slc L U S)
 |dct {a:Addr} {es:List DictEntry} {n:Nat} {Es:List (V×V)}:D a=some (z2m es.toArray n)->VRd w D es Es->VR w D (.ref a) (.dct Es)
inductive VRs(w:World)(D:Gh):List Value->List V->Prop
 |nil:VRs w D [] []
 |cons {v:Value} {x:V} {vs:List Value} {xs:List V}:VR w D v x->VRs w D vs xs->VRs w D (v::vs) (x::xs)
inductive VRd(w:World)(D:Gh):List DictEntry->List (V×V)->Prop
 |nil:VRd w D [] []
 |cons {e:DictEntry} {k x:V} {es:List DictEntry} {xs:List (V×V)}:KH w k e.hash->VR w D e.key k->VR w D e.val x->VRd w D es xs->VRd w D (e::es) ((k,x)::xs)
end
section
variable {w:World} {D:Gh}
noncomputable def VR.I(w:World)(D:Gh)(v:Value):V->Prop
 | .none=>v= .none
 | .bool b=>v= .bool b
 | .int n=>∃t,v= .int n t
 | .str n=>∃t,v= .str n t
 | .ref a=>v= .ref a
 | .type n=>v= .type n
 | .bi n=>v= .builtin n
 | .tup xs=>∃a o vs n,v= .ref a/\D a=some o/\o.cls= .type "tuple"/\o.data= .seq (List.toArray vs) n/\VRs w D vs xs
 | .lst xs=>∃a vs n,v= .ref a/\D a=some (z0D (List.toArray vs) n)/\VRs w D vs xs
 | .rng x y z=>∃a t u r,v= .ref a/\D a=some {cls:= .type "range",dict:=Option.none,data:= .fields #[.int x t,.int y u,.int z r],slots:= #[]}
 | .slc L U S=>∃a l u st,v= .ref a/\D a=some {cls:= .type "slice",data:= .fields #[l,u,st]}/\VR w D l L/\VR w D u U/\VR w D st S
 | .dct xs=>∃a es n,v= .ref a/\D a=some (z2m (List.toArray es) n)/\VRd w D es xs
theorem VR.inv{v:Value}{x:V}(h:VR w D v x):VR.I w D v x:=
 h.casesOn (motive_1:=λv x _=>VR.I w D v x) rfl (λ_=>rfl) (λ_ t=>⟨t,rfl⟩) (λ_ t=>⟨t,rfl⟩) (λ_=>rfl) (λ_=>rfl) (λ_=>rfl) (λe c q r=>⟨_,_,_,_,rfl,e,c,q,r⟩) (λe r=>⟨_,_,_,rfl,e,r⟩) (λe=>⟨_,_,_,_,rfl,e⟩) (λe a b c=>⟨_,_,_,_,rfl,e,a,b,c⟩) (λe r=>⟨_,_,_,rfl,e,r⟩)
noncomputable def VRs.I(w:World)(D:Gh)(vs:List Value):List V->Prop
 |[]=>vs=[]
 |X::xs=>∃y r,vs=y::r/\VR w D y X/\VRs w D r xs
theorem VRs.inv{vs:List Value}{xs:List V}(h:VRs w D vs xs):VRs.I w D vs xs:=
 h.casesOn (motive_2:=λv x _=>VRs.I w D v x) rfl (λa b=>⟨_,_,rfl,a,b⟩)
noncomputable def VRd.I(w:World)(D:Gh)(es:List DictEntry):List (V×V)->Prop
 |[]=>es=[]
 |p::xs=>∃e r,es=e::r/\KH w p.1 e.hash/\VR w D e.key p.1/\VR w D e.val p.2/\VRd w D r xs
theorem VRd.inv{es:List DictEntry}{xs:List (V×V)}(h:VRd w D es xs):VRd.I w D es xs:=
 h.casesOn (motive_3:=λv x _=>VRd.I w D v x) rfl (λk a b c=>⟨_,_,rfl,k,a,b,c⟩)
variable {v:Value}
theorem VR.noneI(h:VR w D v .none):v= .none:=h.inv
theorem VR.boolI{b:Bool}(h:VR w D v (.bool b)):v= .bool b:=h.inv
theorem VR.biI{n:String}(h:VR w D v (.bi n)):v= .builtin n:=h.inv
theorem VR.typeI{n:String}(h:VR w D v (.type n)):v= .type n:=h.inv
theorem VR.refI{a:Addr}(h:VR w D v (.ref a)):v= .ref a:=h.inv
theorem VR.intI{n:Int}(h:VR w D v (.int n)):∃t,v= .int n t:=h.inv
theorem VR.strI{n:Str}(h:VR w D v (.str n)):∃t,v= .str n t:=h.inv
theorem VRs.nilI{vs:List Value}(h:VRs w D vs []):vs=[]:=h.inv
theorem VRs.consI{vs:List Value}{X:V}{xs:List V}(h:VRs w D vs (X::xs)):∃y r,vs=y::r/\VR w D y X/\VRs w D r xs:=h.inv
theorem VR.tupI{xs:List V}(h:VR w D v (.tup xs)):∃a o vs n,v= .ref a/\D a=some o/\o.cls= .type "tuple"/\o.data= .seq (List.toArray vs) n/\VRs w D vs xs:=h.inv
theorem VR.lstI{xs:List V}(h:VR w D v (.lst xs)):∃a vs n,v= .ref a/\D a=some (z0D (List.toArray vs) n)/\VRs w D vs xs:=h.inv
theorem VRd.nilI{es:List DictEntry}(h:VRd w D es []):es=[]:=h.inv
theorem VRd.consI{es:List DictEntry}{p:V×V}{xs:List (V×V)}(h:VRd w D es (p::xs)):∃e r,es=e::r/\KH w p.1 e.hash/\VR w D e.key p.1/\VR w D e.val p.2/\VRd w D r xs:=h.inv
theorem VR.dctI{xs:List (V×V)}(h:VR w D v (.dct xs)):∃a es n,v= .ref a/\D a=some (z2m (List.toArray es) n)/\VRd w D es xs:=h.inv
theorem VR.rngI{x y z:Int}(h:VR w D v (.rng x y z)):∃a t u r,v= .ref a/\D a=some {cls:= .type "range",dict:=Option.none,data:= .fields #[.int x t,.int y u,.int z r],slots:= #[]}:=h.inv
theorem VR.slcI{L U S:V}(h:VR w D v (.slc L U S)):∃a l u st,v= .ref a/\D a=some {cls:= .type "slice",data:= .fields #[l,u,st]}/\VR w D l L/\VR w D u U/\VR w D st S:=h.inv
end
theorem z0o{α β:Type}{f:α->β}{l:List α}{y:β}{P:β->Prop}(h:y∈l.map f)(k:∀x,x∈l->P (f x)):P y:=by obtain⟨x,hx,rfl⟩:=List.mem_map.mp h;exact k x hx
theorem z0X{α β:Type}{f:α->β}{o:Option α}{y:β}{P:β->Prop}(h:o.map f=some y)(k:∀x,o=some x->P (f x)):P y:=by obtain⟨x,hx,rfl⟩:=Option.map_eq_some_iff.mp h;exact k x hx
theorem ff{P:Prop}(h:false=true):P:=nomatch h
theorem tf{P:Prop}(h:true=false):P:=nomatch h
section
variable {w:World} {D:Gh} {v:Value} {vs:List Value} {P:Value->Prop} {Ps:List Value->Prop}
theorem VR.noneE(h:VR w D v .none)(k:P .none):P v:=h.noneI▸k
theorem VR.boolE{b:Bool}(h:VR w D v (.bool b))(k:P (.bool b)):P v:=h.boolI▸k
theorem VR.biE{n:String}(h:VR w D v (.bi n))(k:P (.builtin n)):P v:=h.biI▸k
theorem VR.typeE{n:String}(h:VR w D v (.type n))(k:P (.type n)):P v:=h.typeI▸k
theorem VR.refE{a:Addr}(h:VR w D v (.ref a))(k:P (.ref a)):P v:=h.refI▸k
theorem VR.intE{n:Int}(h:VR w D v (.int n))(k:∀t,P (.int n t)):P v:=by obtain⟨t,e⟩:=h.intI;rw[e];exact k t
theorem VR.strE{n:Str}(h:VR w D v (.str n))(k:∀t,P (.str n t)):P v:=by obtain⟨t,e⟩:=h.strI;rw[e];exact k t
theorem VRs.nilE(h:VRs w D vs [])(k:Ps []):Ps vs:=h.nilI▸k
theorem VRs.consE{X:V}{xs:List V}(h:VRs w D vs (X::xs))(k:∀y r,VR w D y X->VRs w D r xs->Ps (y::r)):Ps vs:=by obtain⟨y,r,e,a,b⟩:=h.consI;rw[e];exact k y r a b
end
noncomputable def Sub(D D':Gh):Prop:=∀a o,D a=some o->D' a=some o
theorem Sub.refl(D:Gh):Sub D D:=λ_ _ e=>e
theorem Sub.trans{D D' D'':Gh}(h:Sub D D')(h':Sub D' D''):Sub D D'':=λa o e=>h' a o (h a o e)
section
variable {w:World} {D D':Gh}
theorem VR.mono(h:Sub D D'){v:Value}{x:V}(r:VR w D v x):VR w D' v x:=
 VR.rec (motive_1:=λv x _=>VR w D' v x) (motive_2:=λv x _=>VRs w D' v x) (motive_3:=λv x _=>VRd w D' v x)
  .none .bool .int .str .ref .type .bi (λe c q _ ih=> .tup (h _ _ e) c q ih) (λe _ ih=> .lst (h _ _ e) ih) (λe=> .rng (h _ _ e)) (λe _ _ _ a b c=> .slc (h _ _ e) a b c) (λe _ ih=> .dct (h _ _ e) ih)
  .nil (λ_ _ a b=> .cons a b) .nil (λk _ _ _ a b c=> .cons k a b c) r
theorem VRs.mono(h:Sub D D'):∀{x:List V} {v:List Value},VRs w D v x->VRs w D' v x:=λ{x}=>by
 induction x with
 |nil=>intro v r;rw[VRs.nilI r];exact .nil
 |cons X xs ih=>intro v r;obtain⟨_,_,rfl,a,b⟩:=VRs.consI r;exact .cons (a.mono h) (ih b)
theorem VRd.mono(h:Sub D D'){v:List DictEntry}{x:List (V×V)}(r:VRd w D v x):VRd w D' v x:=
 VRd.rec (motive_1:=λv x _=>VR w D' v x) (motive_2:=λv x _=>VRs w D' v x) (motive_3:=λv x _=>VRd w D' v x)
  .none .bool .int .str .ref .type .bi (λe c q _ ih=> .tup (h _ _ e) c q ih) (λe _ ih=> .lst (h _ _ e) ih) (λe=> .rng (h _ _ e)) (λe _ _ _ a b c=> .slc (h _ _ e) a b c) (λe _ ih=> .dct (h _ _ e) ih)
  .nil (λ_ _ a b=> .cons a b) .nil (λk _ _ _ a b c=> .cons k a b c) r
theorem VRs.length:∀{x:List V} {v:List Value},VRs w D v x->v.length=x.length:=λ{x}=>by
 induction x with
 |nil=>intro v r;rw[VRs.nilI r];rfl
 |cons X xs ih=>intro v r;obtain⟨_,_,rfl,a,b⟩:=VRs.consI r;exact congrArg (·+1) (ih b)
theorem VRs.append{v v':List Value}{x x':List V}(r:VRs w D v x)(h':VRs w D v' x'):VRs w D (v++v') (x++x'):=by
 induction x generalizing v with
 |nil=>rw[VRs.nilI r];exact h'
 |cons X xs ih=>obtain⟨_,_,rfl,a,b⟩:=VRs.consI r;exact .cons a (ih b)
theorem VRs.get:∀{x:List V} {v:List Value},VRs w D v x->∀{i:Nat} {X:V},x[i]? =some X->∃u,v[i]? =some u/\VR w D u X:=λ{x}=>by
 induction x with
 |nil=>intro v r i X h;cases h
 |cons Y xs ih=>
  intro v r i X h
  obtain⟨u,_,rfl,a,b⟩:=VRs.consI r
  cases i with
  |zero=>cases h;exact⟨u,rfl,a⟩
  |succ i=>exact ih b h
theorem VRs.get':∀{x:List V} {v:List Value},VRs w D v x->∀{i:Nat} {u:Value},v[i]? =some u->∃X,x[i]? =some X/\VR w D u X:=λ{x}=>by
 induction x with
 |nil=>intro v r i u h;rw[VRs.nilI r] at h;cases h
 |cons Y xs ih=>
  intro v r i u h
  obtain⟨_,_,rfl,a,b⟩:=VRs.consI r
  cases i with
  |zero=>cases h;exact⟨Y,rfl,a⟩
  |succ i=>exact ih b h
end
noncomputable def z0V(a:Addr):AO->List Addr
 | .inst _ dx _=>[a,dx]
 |_=>[a]
noncomputable def foot:Sto->List Addr
 |[]=>[]
 |(a,_,o)::r=>z0V a o++foot r
theorem z2q{σ:Sto}{a:Addr}{ob:Obj}{o:AO}(h:(a,ob,o)∈σ):∀b∈z0V a o,b∈foot σ:=by
 induction σ with
 |nil=>cases h
 |cons p r ih=>
  intro b hb
  obtain⟨c,q,z⟩:=p
  rcases List.mem_cons.mp h with e|h
  ·cases e;exact List.mem_append_left _ hb
  ·exact List.mem_append_right _ (ih h b hb)
theorem z1b(a:Addr)(o:AO):a∈z0V a o:=by cases o<;>simp[z0V]
theorem z4m{σ:Sto}{a:Addr}{ob:Obj}{o:AO}(h:(a,ob,o)∈σ):a∈foot σ:=z2q h a (z1b a o)
noncomputable def FR(w:World)(D:Gh):List DictEntry->List (Str×V)->Prop
 |[],[]=>True
 |e::es,(n,x)::fs=>(∃t,e.key= .str n t)/\e.hash=hashStr w n/\VR w D e.val x/\FR w D es fs
 |_,_=>False
theorem FR.mono{w:World}{D D':Gh}(h:Sub D D'):∀{es:List DictEntry} {fs:List (Str×V)},FR w D es fs->FR w D' es fs
 |[],[],_=>trivial
 |e::es,(n,x)::fs,⟨a,b,c,d⟩=>⟨a,b,VR.mono h c,FR.mono h d⟩
 |[],_::_,h=>h.elim
 |_::_,[],h=>h.elim
noncomputable def HR(w:World)(D:Gh)(o:Obj):AO->Prop
 | .list xs=>∃vs n,o=z0D vs n/\VRs w D vs.toList xs
 | .dict xs=>∃es n,o=z2m es n/\VRd w D es.toList xs
 | .inst _ _ fs=>∃es n,o=z2m es n/\FR w D es.toList fs
theorem HR.mono{w:World}{D D':Gh}{o:Obj}(hs:Sub D D'):∀{x:AO},HR w D o x->HR w D' o x
 | .list _,⟨vs,n,e,r⟩=>⟨vs,n,e,r.mono hs⟩
 | .dict _,⟨vs,n,e,r⟩=>⟨vs,n,e,r.mono hs⟩
 | .inst _ _ _,⟨vs,n,e,r⟩=>⟨vs,n,e,FR.mono hs r⟩
noncomputable def PR(h:Heap)(a:Addr)(o:Obj):AO->Prop
 | .inst c dx _=>h.get? a=some (y1n c dx)/\h.get? dx=some o
 |_=>h.get? a=some o
theorem PR.at{h h':Heap}{a:Addr}{o:Obj}:∀{x:AO},(∀b∈z0V a x,∀ob,h.get? b=some ob->h'.get? b=some ob)->PR h a o x->PR h' a o x
 | .list _,k,e=>k a (by simp[z0V]) _ e
 | .dict _,k,e=>k a (by simp[z0V]) _ e
 | .inst _ _ _,k,⟨e,e'⟩=>⟨k _ (by simp[z0V]) _ e,k _ (by simp[z0V]) _ e'⟩
theorem PR.lives{h:Heap}{a:Addr}{o:Obj}:∀{x:AO},PR h a o x->∀b∈z0V a x,∃ob,h.get? b=some ob
 | .list _,e,b,hb=>by simp[z0V] at hb;subst hb;exact⟨_,e⟩
 | .dict _,e,b,hb=>by simp[z0V] at hb;subst hb;exact⟨_,e⟩
 | .inst _ _ _,⟨e,e'⟩,b,hb=>by
  simp[z0V] at hb
  rcases hb with rfl|rfl
  ·exact⟨_,e⟩
  ·exact⟨_,e'⟩
structure Cx where
 prog:Program
 w:World
 base:Heap
 s₀:Shared
 mg:Str->Option Value
 mb:Str->Option Value
 hg:base.Ns mainGlobals mg
 hb:base.Ns builtinsNs mb
 lim:base.NoLimit
 hm:Option (Option Addr)
 fs:Option (List Env)
class HM (C:Cx):Prop where
 h:C.hm=some Option.none
class NF (C:Cx):Prop where
 h:C.fs=Option.none
noncomputable abbrev Cx.M(C:Cx):Model:=model C.prog C.w
noncomputable def frk(o:Obj):Prop:=o.cls= .type "#frame"
noncomputable def mkF(o:Obj):Obj:={o with cls:= .type "#frame"}
noncomputable def Eqs(o o':Obj):Prop:=o'.data=o.data/\(¬frk o->o'=o)
theorem Eqs.refl(o:Obj):Eqs o o:=⟨rfl,λ_=>rfl⟩
theorem Eqs.mk(o:Obj):Eqs (mkF o) o:=⟨rfl,λn=>absurd rfl n⟩
theorem Eqs.trans{o o' o'':Obj}(h:Eqs o o')(h':Eqs o' o''):Eqs o o'':=⟨h'.1.trans h.1,λn=>(h'.2 (h.2 n▸n)).trans (h.2 n)⟩
theorem Eqs.eq{o o':Obj}(h:Eqs o o')(n:¬frk o):o'=o:=h.2 n
theorem frN{n:String}(h:(n=="#frame")=false):Value.type n≠ .type "#frame":=λe=>by
 injection e with e
 rw[e] at h;exact nomatch h
theorem nfC{o:Obj}(h:o.cls≠ .type "#frame"):¬frk o:=λq=>h q
structure RelC(C:Cx)(G D:Gh)(σ:Sto)(s:Shared):Prop where
 same:∃h tk,s={C.s₀ with heap:=h,toks:=tk}
 bs:∀a o,C.base.get? a=some o->s.heap.get? a=some o
 g:∀a o,G a=some o->∃o',s.heap.get? a=some o'/\Eqs o o'
 d:∀a o,D a=some o->s.heap.get? a=some o
 base:∀a o,C.base.get? a=some o->G a=some o
 nd:(foot σ).Nodup
 offG:∀a∈foot σ,G a=none
 offD:∀a∈foot σ,D a=none
 pl:∀p∈σ,PR s.heap p.1 p.2.1 p.2.2
 sto:∀p∈σ,HR C.w D p.2.1 p.2.2
theorem RelC.ge{C:Cx}{G D:Gh}{σ:Sto}{s:Shared}(R:RelC C G D σ s){a:Addr}{o:Obj}(h:G a=some o)(n:¬frk o):s.heap.get? a=some o:=by
 obtain⟨o',h1,h2⟩:=R.g a o h
 rw[h1,h2.eq n]
theorem RelC.g'{C:Cx}{G D:Gh}{σ:Sto}{s:Shared}(R:RelC C G D σ s){h':Heap}{a:Addr}{o:Obj}(e:G a=some o)(k:∀o',s.heap.get? a=some o'->h'.get? a=some o'):∃o',h'.get? a=some o'/\Eqs o o':=by
 obtain⟨o',h1,h2⟩:=R.g a o e
 exact⟨o',k o' h1,h2⟩
theorem RelC.noG{C:Cx}{G D:Gh}{σ:Sto}{s:Shared}(R:RelC C G D σ s){a:Addr}(h:∀o,s.heap.get? a≠some o):G a=Option.none:=Option.eq_none_iff_forall_not_mem.mpr λo e=>by
 obtain⟨o',h1,_⟩:=R.g a o e
 exact h o' h1
structure DX(G D D':Gh):Prop where
 sub:Sub D D'
 off:∀a,D a=none->G a≠none->D' a=none
theorem DX.refl(G D:Gh):DX G D D:=⟨Sub.refl D,λ_ h _=>h⟩
theorem DX.trans{G D D' D'':Gh}(h:DX G D D')(h':DX G D' D''):DX G D D'':=⟨h.sub.trans h'.sub,λa e g=>h'.off a (h.off a e g) g⟩
theorem DX.less{G G' D D':Gh}(h:DX G' D D')(hg:∀a,G a≠none->G' a≠none):DX G D D':=⟨h.sub,λa e g=>h.off a e (hg a g)⟩
structure AOk(C:Cx)(A:Around)(d:Nat):Prop where
 h:∀x,C.hm=some x->A.handled=x.map .ref
 fr:∀l,C.fs=some l->A.frames=some l
 depth:A.depth+d<1000
 units:A.units+8*d<9000
theorem AOk.hh{C:Cx}[HM C]{A:Around}{d:Nat}(h:AOk C A d):A.handled= .none:=h.h _ HM.h
inductive PostC(C:Cx)(G D:Gh)(Q:V->Sto->Prop)(v:Value)(s':Shared):Prop
 |mk (x:V) (D':Gh) (σ':Sto):DX G D D'->VR C.w D' v x->RelC C G D' σ' s'->Q x σ'->PostC C G D Q v s'
noncomputable def CW(C:Cx)(d:Nat)(f:Value)(xs:List V)(σ:Sto)(Q:V->Sto->Prop):Prop:=
 ∀A G D s vs,AOk C A d->RelC C G D σ s->VRs C.w D vs xs->
  codeAny C.M A (.call f ⟨vs,[]⟩) (λr s'=>match r with| .ok (.ret v)=>PostC C G D Q v s'|_=>False) s
noncomputable def z0j(C:Cx)(x:Str)(X:V):Prop:=∃v,VR C.w (λ_=> .none) v X/\(C.mg x=some v∨(C.mg x= .none/\C.mb x=some v))
structure FmOk(C:Cx)(env:Env)(vars:List Str)(gl:List (Str×V))(own:Bool):Prop where
 fn:env.scope.kind= .function
 nd:vars.Nodup
 vk:∀x∈vars,(x==("__debug__":Str))=false/\(env.kindOf x=some .local∨(env.kindOf x=some .cell/\∃c,env.cells.lookup x=some c))
 ap:env.cells.Pairwise λx y=>x.2≠y.2
 gk:∀p∈gl,(p.1==("__debug__":Str))=false/\env.kindOf p.1=some .globalImplicit/\z0j C p.1 p.2
 gg:env.globals=mainGlobals
 gb:env.builtins=builtinsNs
structure RelF(C:Cx)(env:Env)(vars:List Str)(gl:List (Str×V))(own:Bool)(G D:Gh)(m:Loc)(σ:Sto)(s:Shared):Prop extends RelC C G D σ s where
 ok:FmOk C env vars gl own
 offL:G env.locals=none/\D env.locals=none/\env.locals∉foot σ
 ns:∃mm,s.heap.Ns env.locals mm/\∀(i:Nat) x X,vars[i]? =some x->env.kindOf x=some .local->m[i]? =some (some X)->∃v,mm x=some v/\VR C.w D v X
 cl:∀(i:Nat) x c,vars[i]? =some x->env.kindOf x=some .cell->env.cells.lookup x=some c->
  c≠env.locals/\(∃ov,s.heap.IsCell c ov/\∀X,m[i]? =some (some X)->∃v,ov=some v/\VR C.w D v X)/\
  (if own then G c=none/\D c=none/\c∉foot σ else∃o,G c=some o)
noncomputable def z27(env:Env)(vars:List Str)(a:Addr):Prop:=a=env.locals∨∃(i:Nat) (x:Str),vars[i]? =some x/\env.kindOf x=some .cell/\env.cells.lookup x=some a
open Classical in
noncomputable def z2l(env:Env)(vars:List Str)(G:Gh)(s:Shared):Gh:=λa=>if a=env.locals then(s.heap.get? a).map mkF else if z27 env vars a then s.heap.get? a else G a
section
variable {C:Cx} {env:Env} {vars:List Str} {gl:List (Str×V)} {own:Bool} {G D D':Gh} {m:Loc} {σ σ':Sto} {s s':Shared}
theorem lift_loc:z2l env vars G s env.locals=(s.heap.get? env.locals).map mkF:=by unfold z2l;rw[if_pos rfl]
theorem z1G{a:Addr}(h:z27 env vars a)(n:a≠env.locals):z2l env vars G s a=s.heap.get? a:=by unfold z2l;rw[if_neg n,if_pos h]
theorem z1R{a:Addr}(h:¬z27 env vars a):z2l env vars G s a=G a:=by unfold z2l;rw[if_neg λe=>h (Or.inl e),if_neg h]
theorem z4u{a:Addr}{o:Obj}(h:z27 env vars a)(e:s.heap.get? a=some o):∃o',z2l env vars G s a=some o'/\Eqs o' o:=by
 by_cases n:a=env.locals
 ·subst n;rw[lift_loc,e];exact⟨_,rfl,.mk o⟩
 ·rw[z1G h n,e];exact⟨_,rfl,.refl o⟩
theorem RelF.over(R:RelF C env vars gl own G D m σ s){a:Addr}{o:Obj}(h:G a=some o):∃o',z2l env vars G s a=some o'/\Eqs o o':=by
 by_cases hm:z27 env vars a
 ·have n:a≠env.locals:=λe=>by rw[e,R.offL.1] at h;cases h
  rw[z1G hm n];exact R.g a o h
 ·rw[z1R hm];exact⟨o,h,.refl o⟩
theorem RelF.overN(R:RelF C env vars gl own G D m σ s){a:Addr}(h:z2l env vars G s a=none):G a=none:=by
 cases e:G a with
 |none=>rfl
 |some o=>obtain⟨o',h',_⟩:=R.over e;rw[h] at h';cases h'
theorem RelF.mineFoot(R:RelF C env vars gl own G D m σ s){a:Addr}(h:z27 env vars a):a∉foot σ:=by
 rcases h with rfl|⟨i,x,h1,h2,h3⟩
 ·exact R.offL.2.2
 ·have:=(R.cl i x a h1 h2 h3).2.2
  cases own with
  |true=>exact this.2.2
  |false=>
   obtain⟨o,ho⟩:=this
   intro hf
   rw[R.offG a hf] at ho;cases ho
theorem RelF.mineLives(R:RelF C env vars gl own G D m σ s){a:Addr}(h:z27 env vars a):∃o,s.heap.get? a=some o:=by
 rcases h with rfl|⟨i,x,h1,h2,h3⟩
 ·obtain⟨mm,⟨o,_,_,ho,_⟩,_⟩:=R.ns;exact⟨o,ho⟩
 ·obtain⟨_,⟨ov,⟨o,ho,_⟩,_⟩,_⟩:=R.cl i x a h1 h2 h3;exact⟨o,ho⟩
theorem RelF.lifted(R:RelF C env vars gl own G D m σ s):RelC C (z2l env vars G s) D σ s where
 same:=R.same
 bs:=R.bs
 g:=λa o h=>by
  by_cases hm:z27 env vars a
  ·by_cases n:a=env.locals
   ·rw[n,lift_loc] at h
    obtain⟨x,hx,e⟩:=Option.map_eq_some_iff.mp h
    rw[n,<-e];exact⟨x,hx,.mk x⟩
   ·rw[z1G hm n] at h;exact⟨o,h,.refl o⟩
  ·rw[z1R hm] at h;exact R.g a o h
 d:=R.d
 base:=λa o h=>by
  have n:a≠env.locals:=λe=>by have:=R.base a o h;rw[e,R.offL.1] at this;cases this
  by_cases hm:z27 env vars a
  ·rw[z1G hm n];exact R.bs a o h
  ·rw[z1R hm];exact R.base a o h
 nd:=R.nd
 offG:=λa h=>by
  by_cases hm:z27 env vars a
  ·exact absurd h (R.mineFoot hm)
  ·rw[z1R hm];exact R.offG a h
 offD:=R.offD
 pl:=R.pl
 sto:=R.sto
theorem RelF.dx(R:RelF C env vars gl own G D m σ s)(h:DX (z2l env vars G s) D D'):DX G D D':=
 h.less λa g=>by
  cases e:G a with
  |none=>exact absurd e g
  |some o=>obtain⟨o',h',_⟩:=R.over e;rw[h'];exact nofun
theorem RelF.mineD(R:RelF C env vars gl own G D m σ s)(h:DX (z2l env vars G s) D D'){a:Addr}(hm:z27 env vars a)(hd:D a=none):D' a=none:=
 h.off a hd (by obtain⟨o,ho⟩:=R.mineLives hm;obtain⟨o',h',_⟩:=z4u (G:=G) hm ho;rw[h'];exact nofun)
theorem RelF.back(R:RelF C env vars gl own G D m σ s)(R':RelC C (z2l env vars G s) D' σ' s')(h:DX (z2l env vars G s) D D'):RelF C env vars gl own G D' m σ' s' where
 same:=R'.same
 bs:=R'.bs
 g:=λa o e=>by
  obtain⟨o1,h1,q1⟩:=R.over e
  obtain⟨o2,h2,q2⟩:=R'.g a o1 h1
  exact⟨o2,h2,q1.trans q2⟩
 d:=R'.d
 base:=R.base
 nd:=R'.nd
 offG:=λa hf=>R.overN (R'.offG a hf)
 offD:=R'.offD
 pl:=R'.pl
 sto:=R'.sto
 ok:=R.ok
 offL:=⟨R.offL.1,R.mineD h (Or.inl rfl) R.offL.2.1,λhf=>by
  obtain⟨o,ho⟩:=R.mineLives (Or.inl rfl)
  obtain⟨o',h',_⟩:=z4u (G:=G) (Or.inl rfl) ho
  exact nomatch (R'.offG _ hf).symm.trans h'⟩
 ns:=by
  obtain⟨mm,⟨o,es,ep,ho,r⟩,hv⟩:=R.ns
  obtain⟨o1,h1,q1⟩:=z4u (G:=G) (Or.inl rfl) ho
  obtain⟨o',ho',q2⟩:=R'.g _ _ h1
  refine⟨mm,⟨o',es,ep,ho',(q2.1.trans q1.1.symm).trans r.1,r.2⟩,λi x X h1 h2 h3=> ?_⟩
  obtain⟨v,e,q⟩:=hv i x X h1 h2 h3
  exact⟨v,e,q.mono h.sub⟩
 cl:=λi x c h1 h2 h3=>by
  have hm:z27 env vars c:=Or.inr ⟨i,x,h1,h2,h3⟩
  obtain⟨hne,⟨ov,⟨o,ho,hd⟩,hx⟩,hw⟩:=R.cl i x c h1 h2 h3
  obtain⟨o',ho',q⟩:=R'.g _ _ ((z1G hm hne).trans ho)
  refine⟨hne,⟨ov,⟨o',ho',q.1.trans hd⟩,λX e=> ?_⟩,?_⟩
  ·obtain⟨v,e1,q⟩:=hx X e
   exact⟨v,e1,q.mono h.sub⟩
  ·cases own with
   |true=>
    refine⟨hw.1,R.mineD h hm hw.2.1,λhf=> ?_⟩
    have:=R'.offG _ hf
    rw[z1G hm hne,ho] at this;cases this
   |false=>exact hw
end
inductive PostE(C:Cx)(env:Env)(vars:List Str)(gl:List (Str×V))(own:Bool)(G D:Gh)(m:Loc)(Q:V->Sto->Prop)(v:Value)(s':Shared):Prop
 |mk (x:V) (D':Gh) (σ':Sto):DX G D D'->VR C.w D' v x->RelF C env vars gl own G D' m σ' s'->Q x σ'->PostE C env vars gl own G D m Q v s'
noncomputable def AT(C:Cx)(env:Env)(vars:List Str)(gl:List (Str×V))(own:Bool)(d:Nat)(t:Sem Value)(m:Loc)(σ:Sto)(Q:V->Sto->Prop):Prop:=
 ∀A G D s,AOk C A d->RelF C env vars gl own G D m σ s->wpAny C.M A t (PostE C env vars gl own G D m Q) (λ_ _=>False) s
section
variable {C:Cx} {env:Env} {vars:List Str} {gl:List (Str×V)} {own:Bool} {d:Nat} {m:Loc} {σ:Sto} {Q Q':V->Sto->Prop}
theorem AT.mono{t:Sem Value}(h:AT C env vars gl own d t m σ Q)(hQ:∀x σ',Q x σ'->Q' x σ'):AT C env vars gl own d t m σ Q':=
 λA G D s hA R=>wpAny_mono (h A G D s hA R) (λ_ _ hpp=>by obtain⟨x,D',σ',a,b,c,e⟩:=hpp;exact⟨x,D',σ',a,b,c,hQ _ _ e⟩) λ_ _ e=>e
end
end
section
inductive Lk:List Str->Loc->Str->V->Prop
 |head {x:Str} {ns:List Str} {X:V} {m:Loc}:Lk (x::ns) (some X::m) x X
 |tail {x y:Str} {ns:List Str} {X:V} {o:Option V} {m:Loc}:Lk ns m x X->Lk (y::ns) (o::m) x X
theorem Lk.get{ns:List Str}{m:Loc}{x:Str}{X:V}(h:Lk ns m x X):∃i:Nat,ns[i]? =some x/\m[i]? =some (some X):=by
 induction h with
 |head=>exact⟨0,rfl,rfl⟩
 |tail _ ih=>obtain⟨i,a,b⟩:=ih;exact⟨i+1,by simpa using a,by simpa using b⟩
inductive Put:List Str->Loc->Str->V->Loc->Prop
 |head {x:Str} {ns:List Str} {X:V} {o:Option V} {m:Loc}:Put (x::ns) (o::m) x X (some X::m)
 |tail {x y:Str} {ns:List Str} {X:V} {o:Option V} {m m':Loc}:Put ns m x X m'->Put (y::ns) (o::m) x X (o::m')
theorem Put.get{ns:List Str}{m m':Loc}{x:Str}{X:V}(h:Put ns m x X m'):∃i:Nat,ns[i]? =some x/\m'=m.set i (some X):=by
 induction h with
 |head=>exact⟨0,rfl,rfl⟩
 |tail _ ih=>obtain⟨i,a,b⟩:=ih;exact⟨i+1,by simpa using a,by simp[b]⟩
section
variable {C:Cx} {env:Env} {vars:List Str} {gl:List (Str×V)} {own:Bool} {d:Nat} {m:Loc} {σ:Sto} {Q Q':V->Sto->Prop}
variable {A:Around} {G D D₁:Gh} {s:Shared}
theorem AT.run{t:Sem Value}(h:AT C env vars gl own d t m σ Q)(hA:AOk C A d)(R:RelF C env vars gl own G D m σ s){K:Value->Shared->Prop}
  (k:∀v s' x D' σ',DX G D D'->VR C.w D' v x->RelF C env vars gl own G D' m σ' s'->Q x σ'->K v s'):wpAny C.M A t K (λ_ _=>False) s:=
 wpAny_mono (h A G D s hA R) (λv s' hpp=>by obtain⟨x,D',σ',a,b,c,e⟩:=hpp;exact k v s' x D' σ' a b c e) λ_ _ e=>e
theorem PostE.weak{v:Value}{s':Shared}(h:DX G D D₁)(p:PostE C env vars gl own G D₁ m Q v s'):PostE C env vars gl own G D m Q v s':=
 by obtain⟨x,D',σ',a,b,c,e⟩:=p;exact⟨x,D',σ',h.trans a,b,c,e⟩
theorem z0Z{t:Sem Value}(h:DX G D D₁)(p:wpAny C.M A t (PostE C env vars gl own G D₁ m Q) (λ_ _=>False) s):wpAny C.M A t (PostE C env vars gl own G D m Q) (λ_ _=>False) s:=
 wpAny_mono p (λ_ _ q=>q.weak h) λ_ _ e=>e
theorem RelC.tok(R:RelC C G D σ s)(t:Nat):RelC C G D σ {s with toks:=t}:=
 ⟨let⟨h,_,e⟩:=R.same;⟨h,t,by rw[e]⟩,R.bs,R.g,R.d,R.base,R.nd,R.offG,R.offD,R.pl,R.sto⟩
theorem RelF.tok(R:RelF C env vars gl own G D m σ s)(t:Nat):RelF C env vars gl own G D m σ {s with toks:=t}:=
 {R.toRelC.tok t with ok:=R.ok,offL:=R.offL,ns:=R.ns,cl:=R.cl}
theorem PostE.now{v:Value}{x:V}(R:RelF C env vars gl own G D m σ s)(hv:VR C.w D v x)(q:Q x σ):PostE C env vars gl own G D m Q v s:=⟨x,D,σ,DX.refl _ _,hv,R,q⟩
theorem PostC.now{v:Value}{x:V}(R:RelC C G D σ s)(hv:VR C.w D v x)(q:Q x σ):PostC C G D Q v s:=⟨x,D,σ,DX.refl _ _,hv,R,q⟩
theorem z78{x:Str}{p:Pos}{X:V}(h:Lk vars m x X)(q:Q X σ):AT C env vars gl own d (eval (.Name x p) env) m σ Q:=λA G D s hA R=>by
 obtain⟨i,h1,h2⟩:=h.get
 have hv:=R.ok.vk x (List.mem_of_getElem? h1)
 rcases hv.2 with hl|⟨hc,c,hcc⟩
 ·obtain⟨mm,hn,hmm⟩:=R.ns
  obtain⟨v,e,r⟩:=hmm i x X h1 hl h2
  exact wpAny_Name (wpAny_loadName_local R.ok.fn hl hn e (PostE.now R r q)) hv.1
 ·obtain⟨_,⟨ov,hcell,hx⟩,_⟩:=R.cl i x c h1 hc hcc
  obtain⟨v,rfl,r⟩:=hx X h2
  exact wpAny_Name (wpAny_loadName_cell R.ok.fn hc hcc hcell (PostE.now R r q)) hv.1
theorem VR.any{w:World}{v:Value}{x:V}(h:VR w (λ_=>Option.none) v x)(D:Gh):VR w D v x:=h.mono λ_ _ e=>by cases e
theorem z1A{x:Str}{p:Pos}{X:V}(h:(x,X)∈gl)(q:Q X σ):AT C env vars gl own d (eval (.Name x p) env) m σ Q:=λA G D s hA R=>by
 obtain⟨h1,h2,v,hv,h3⟩:=R.ok.gk _ h
 have keep:∀b o,C.base.get? b=some o->s.heap.get? b=some o:=R.bs
 have ng:s.heap.Ns env.globals C.mg:=by rw[R.ok.gg];exact C.hg.keeps keep
 have nb:s.heap.Ns env.builtins C.mb:=by rw[R.ok.gb];exact C.hb.keeps keep
 have fin:PostE C env vars gl own G D m Q v s:=PostE.now R (hv.any D) q
 refine Calls.Name_function_global R.ok.fn h2 ?_ h1
 rcases h3 with h3|⟨h3,h4⟩
 ·exact Calls.loadGlobal_global ng h3 fin
 ·exact Calls.loadGlobal_builtin ng h3 nb h4 fin
theorem z0p{i:Int}{k:Nat}{p:Pos}(q:Q (.int i) σ):AT C env vars gl own d (eval (.Constant (.int i) k p) env) m σ Q:=λA G D s hA R=>
 wpAny_Constant_int (PostE.now (R.tok _) (.int i _) q)
theorem z6W{x:Str}{k:Nat}{p:Pos}(q:Q (.str x) σ):AT C env vars gl own d (eval (.Constant (.str x) k p) env) m σ Q:=λA G D s hA R=>
 wpAny_Constant_str (PostE.now (R.tok _) (.str x _) q)
theorem z6F{b:Bool}{k:Nat}{p:Pos}(q:Q (.bool b) σ):AT C env vars gl own d (eval (.Constant (.bool b) k p) env) m σ Q:=λA G D s hA R=>
 wpAny_Constant_bool (PostE.now R (.bool b) q)
theorem z6H{k:Nat}{p:Pos}(q:Q .none σ):AT C env vars gl own d (eval (.Constant .none k p) env) m σ Q:=λA G D s hA R=>
 wpAny_Constant_none (PostE.now R .none q)
end
noncomputable def AC1(C:Cx)(d:Nat)(f:Value->Sem Value)(x:V)(σ:Sto)(Q:V->Sto->Prop):Prop:=
 ∀A G D s v,AOk C A d->RelC C G D σ s->VR C.w D v x->wpAny C.M A (f v) (PostC C G D Q) (λ_ _=>False) s
noncomputable def AC2(C:Cx)(d:Nat)(f:Value->Value->Sem Value)(x y:V)(σ:Sto)(Q:V->Sto->Prop):Prop:=
 ∀A G D s v u,AOk C A d->RelC C G D σ s->VR C.w D v x->VR C.w D u y->wpAny C.M A (f v u) (PostC C G D Q) (λ_ _=>False) s
noncomputable def TR(C:Cx)(d:Nat)(x:V)(σ:Sto)(b:Bool):Prop:=
 ∀A G D s v,AOk C A d->RelC C G D σ s->VR C.w D v x->∀(K:Bool->Shared->Prop),(∀tk,K b {s with toks:=tk})->wpAny C.M A (truthy v) K (λ_ _=>False) s
section
variable {C:Cx} {env:Env} {vars:List Str} {gl:List (Str×V)} {own:Bool} {d:Nat} {m:Loc} {σ:Sto} {Q Q':V->Sto->Prop}
variable {A:Around} {G D D₁:Gh} {s:Shared}
theorem AC1.inF{f:Value->Sem Value}{x:V}(h:AC1 C d f x σ Q){v:Value}(hA:AOk C A d)(R:RelF C env vars gl own G D m σ s)(hv:VR C.w D v x):
  wpAny C.M A (f v) (PostE C env vars gl own G D m Q) (λ_ _=>False) s:=
 wpAny_mono (h A _ D s v hA R.lifted hv) (λ_ _ hpp=>by obtain⟨x,D',σ',a,b,c,e⟩:=hpp;exact⟨x,D',σ',R.dx a,b,R.back c a,e⟩) λ_ _ e=>e
theorem AC2.inF{f:Value->Value->Sem Value}{x y:V}(h:AC2 C d f x y σ Q){v u:Value}(hA:AOk C A d)(R:RelF C env vars gl own G D m σ s)(hv:VR C.w D v x)(hu:VR C.w D u y):
  wpAny C.M A (f v u) (PostE C env vars gl own G D m Q) (λ_ _=>False) s:=
 wpAny_mono (h A _ D s v u hA R.lifted hv hu) (λ_ _ hpp=>by obtain⟨x,D',σ',a,b,c,e⟩:=hpp;exact⟨x,D',σ',R.dx a,b,R.back c a,e⟩) λ_ _ e=>e
theorem z0I{l r:Expr}{op:Operator}{p:Pos}(h:AT C env vars gl own d (eval l env) m σ λX σ₁=>AT C env vars gl own d (eval r env) m σ₁ λY σ₂=>AC2 C d (binaryOp op) X Y σ₂ Q):
  AT C env vars gl own d (eval (.BinOp l op r p) env) m σ Q:=λA G D s hA R=>
 wpAny_BinOp (h.run hA R λv s₁ X D₁ σ₁ a b c e=>wpAny_mono (wpAny_mono (e A G D₁ s₁ hA c) (λu s₂ hpp=>by obtain⟨Y,D₂,σ₂,a',b',c',e'⟩:=hpp;exact z0Z (a.trans a') (e'.inF hA c' (b.mono a'.sub) b')) λ_ _ x=>x) (λ_ _ x=>x) λ_ _ x=>x)
theorem z9H{l r:Expr}{op:CmpOp}{p:Pos}(h:AT C env vars gl own d (eval l env) m σ λX σ₁=>AT C env vars gl own d (eval r env) m σ₁ λY σ₂=>AC2 C d (compareOp op) X Y σ₂ Q)
  (hm:autoParam (behindInMarks op r=false) auR):
  AT C env vars gl own d (eval (.Compare l [op] [r] p) env) m σ Q:=λA G D s hA R=>
 wpAny_Compare1 (h.run hA R λv s₁ X D₁ σ₁ a b c e=>wpAny_mono (e A G D₁ s₁ hA c) (λu s₂ hpp=>by obtain⟨Y,D₂,σ₂,a',b',c',e'⟩:=hpp;exact z0Z (a.trans a') (e'.inF hA c' (b.mono a'.sub) b')) λ_ _ x=>x) hm
theorem y2o{x:Expr}{op:UnaryOp}{p:Pos}(h:AT C env vars gl own d (eval x env) m σ λX σ₁=>AC1 C d (unaryOp op) X σ₁ Q):AT C env vars gl own d (eval (.UnaryOp op x p) env) m σ Q:=λA G D s hA R=>
 wpAny_UnaryOp (h.run hA R λv s₁ X D₁ σ₁ a b c e=>z0Z a (e.inF hA c b))
theorem z30{X:V}{b:Bool}(t:TR C d X σ b)(q:Q (.bool (!b)) σ):AC1 C d (unaryOp .Not) X σ Q:=λA G D s v hA R hv=>
 not_value (t A G D s v hA R hv _ λtk=>PostC.now (R.tok tk) (.bool _) q)
inductive PostB(C:Cx)(env:Env)(vars:List Str)(gl:List (Str×V))(own:Bool)(G D:Gh)(m:Loc)(Q:Bool->Sto->Prop)(b:Bool)(s':Shared):Prop
 |mk (D':Gh) (σ':Sto):DX G D D'->RelF C env vars gl own G D' m σ' s'->Q b σ'->PostB C env vars gl own G D m Q b s'
noncomputable def AB(C:Cx)(env:Env)(vars:List Str)(gl:List (Str×V))(own:Bool)(d:Nat)(t:Sem Bool)(m:Loc)(σ:Sto)(Q:Bool->Sto->Prop):Prop:=
 ∀A G D s,AOk C A d->RelF C env vars gl own G D m σ s->wpAny C.M A t (PostB C env vars gl own G D m Q) (λ_ _=>False) s
variable {P:Bool->Sto->Prop}
theorem PostB.weak{b:Bool}{s':Shared}(h:DX G D D₁)(p:PostB C env vars gl own G D₁ m P b s'):PostB C env vars gl own G D m P b s':=
 by obtain⟨D',σ',a,c,e⟩:=p;exact⟨D',σ',h.trans a,c,e⟩
theorem z7Y{t:Sem Bool}(h:DX G D D₁)(p:wpAny C.M A t (PostB C env vars gl own G D₁ m P) (λ_ _=>False) s):wpAny C.M A t (PostB C env vars gl own G D m P) (λ_ _=>False) s:=
 wpAny_mono p (λ_ _ q=>q.weak h) λ_ _ e=>e
theorem AB.run{t:Sem Bool}(h:AB C env vars gl own d t m σ P)(hA:AOk C A d)(R:RelF C env vars gl own G D m σ s){K:Bool->Shared->Prop}
  (k:∀b s' D' σ',DX G D D'->RelF C env vars gl own G D' m σ' s'->P b σ'->K b s'):wpAny C.M A t K (λ_ _=>False) s:=
 wpAny_mono (h A G D s hA R) (λv s' hpp=>by obtain⟨D',σ',a,c,e⟩:=hpp;exact k v s' D' σ' a c e) λ_ _ e=>e
theorem TR.inF{x:V}{b:Bool}(t:TR C d x σ b){v:Value}(hA:AOk C A d)(R:RelF C env vars gl own G D m σ s)(hv:VR C.w D v x){K:Bool->Shared->Prop}(k:∀tk,K b {s with toks:=tk}):
  wpAny C.M A (truthy v) K (λ_ _=>False) s:=t A _ D s v hA R.lifted hv K k
noncomputable def TRX(C:Cx)(d:Nat)(x:V)(σ:Sto)(P:Bool->Sto->Prop):Prop:=∃b,TR C d x σ b/\P b σ
theorem z09{e:Expr}(h:AT C env vars gl own d (eval e env) m σ λX σ₁=>TRX C d X σ₁ P)
  (he:∀whole,isTrue e env whole=(do let v <-whole;standAt e.pos;holding [v] (truthy v)):=by intro;with_unfolding_all exact rfl):AB C env vars gl own d (isTrue e env (eval e env)) m σ P:=λA G D s hA R=>
 wpAny_isTrue_value (h.run hA R λv s₁ X D₁ σ₁ a b c hpp=>by obtain⟨t,ht,hp⟩:=hpp;exact ht.inF hA c b λtk=>⟨D₁,σ₁,a,c.tok tk,hp⟩) (he _)
theorem z1l{x:Expr}{p:Pos}{whole:Sem Value}(h:AB C env vars gl own d (isTrue x env (eval x env)) m σ λb σ₁=>P (!b) σ₁):AB C env vars gl own d (isTrue (.UnaryOp .Not x p) env whole) m σ P:=λA G D s hA R=>
 wpAny_isTrue_Not (h.run hA R λb s₁ D₁ σ₁ a c e=>⟨D₁,σ₁,a,c,e⟩)
theorem z0L{l r:Expr}{op:CmpOp}{p:Pos}{whole:Sem Value}(h:AT C env vars gl own d (eval l env) m σ λX σ₁=>AT C env vars gl own d (eval r env) m σ₁ λY σ₂=>AC2 C d (compareOp op) X Y σ₂ λZ σ₃=>TRX C d Z σ₃ P)
  (hm:autoParam (behindInMarks op r=false) auR):AB C env vars gl own d (isTrue (.Compare l [op] [r] p) env whole) m σ P:=λA G D s hA R=>
 wpAny_isTrue_Compare1 (h.run hA R λv s₁ X D₁ σ₁ a b c e=>wpAny_mono (e A G D₁ s₁ hA c) (λu s₂ hpp=>by obtain⟨Y,D₂,σ₂,a',b',c',e'⟩:=hpp;exact wpAny_mono (e'.inF hA c' (b.mono a'.sub) b') (λz s₃ hpp=>by obtain⟨Z,D₃,σ₃,a'',b'',c'',t,ht,hp⟩:=hpp;exact ht.inF hA c'' b'' λtk=>⟨D₃,σ₃,(a.trans a').trans a'',c''.tok tk,hp⟩) λ_ _ x=>x) λ_ _ x=>x) hm
theorem z16{op:BoolOp}{vs:List Expr}{p:Pos}{whole:Sem Value}(h:AB C env vars gl own d (allTrue op vs env) m σ P):AB C env vars gl own d (isTrue (.BoolOp op vs p) env whole) m σ P:=λA G D s hA R=>
 wpAny_isTrue_BoolOp (h A G D s hA R)
theorem z94(q:P true σ):AB C env vars gl own d (allTrue .And [] env) m σ P:=λA G D s hA R=>wpAny_allTrue_And_nil ⟨D,σ,DX.refl _ _,R,q⟩
theorem z36(q:P false σ):AB C env vars gl own d (allTrue .Or [] env) m σ P:=λA G D s hA R=>wpAny_allTrue_Or_nil ⟨D,σ,DX.refl _ _,R,q⟩
theorem y34{x:Expr}{rest:List Expr}(h:AB C env vars gl own d (isTrue x env (eval x env)) m σ λb σ₁=>(b=true->AB C env vars gl own d (allTrue .And rest env) m σ₁ P)/\(b=false->P false σ₁)):
  AB C env vars gl own d (allTrue .And (x::rest) env) m σ P:=λA G D s hA R=>
 wpAny_allTrue_And_cons (h.run hA R λb s₁ D₁ σ₁ a c e=>by
  cases b with
  |true=>exact z7Y a (e.1 rfl A G D₁ s₁ hA c)
  |false=>exact⟨D₁,σ₁,a,c,e.2 rfl⟩)
theorem z2T{x:Expr}{rest:List Expr}(h:AB C env vars gl own d (isTrue x env (eval x env)) m σ λb σ₁=>(b=true->P true σ₁)/\(b=false->AB C env vars gl own d (allTrue .Or rest env) m σ₁ P)):
  AB C env vars gl own d (allTrue .Or (x::rest) env) m σ P:=λA G D s hA R=>
 wpAny_allTrue_Or_cons (h.run hA R λb s₁ D₁ σ₁ a c e=>by
  cases b with
  |false=>exact z7Y a (e.2 rfl A G D₁ s₁ hA c)
  |true=>exact⟨D₁,σ₁,a,c,e.1 rfl⟩)
theorem y1y{t b o:Expr}{p:Pos}(h:AB C env vars gl own d (isTrue t env (eval t env)) m σ λc σ₁=>(c=true->AT C env vars gl own d (eval b env) m σ₁ Q)/\(c=false->AT C env vars gl own d (eval o env) m σ₁ Q)):
  AT C env vars gl own d (eval (.IfExp t b o p) env) m σ Q:=λA G D s hA R=>
 wpAny_IfExp (h.run hA R λb s₁ D₁ σ₁ a c e=>by
  cases b with
  |true=>exact z0Z a (e.1 rfl A G D₁ s₁ hA c)
  |false=>exact z0Z a (e.2 rfl A G D₁ s₁ hA c))
theorem y4h{x y:Sem Value}{r:List (Sem Value)}{p:Pos}(h:AT C env vars gl own d x m σ λX σ₁=>∃b,TR C d X σ₁ b/\(b=true->AT C env vars gl own d (boolOp p .And (y::r)) m σ₁ Q)/\(b=false->Q X σ₁)):
  AT C env vars gl own d (boolOp p .And (x::y::r)) m σ Q:=λA G D s hA R=>by
 show wpAny C.M A (do
  let v <-x
  standAt p
  let t <-holding [v] (truthy v)
  match BoolOp.And,t with
  | .And,false| .Or,true=>pure v
  |_,_=>boolOp p .And (y::r)) _ _ s
 refine wpAny_bind (h.run hA R λv s₁ X D₁ σ₁ a b c hpp=> ?_)
 obtain⟨t,ht,h1,h2⟩:=hpp
 refine wpAny_bind (wpAny_standAt (wpAny_bind (wpAny_holding (ht.inF hA c b λtk=> ?_))))
 cases t with
 |false=>exact wpAny_pure ⟨X,D₁,σ₁,a,b,c.tok tk,h2 rfl⟩
 |true=>exact z0Z a (h1 rfl A G D₁ _ hA (c.tok tk))
theorem y42{x y:Sem Value}{r:List (Sem Value)}{p:Pos}(h:AT C env vars gl own d x m σ λX σ₁=>∃b,TR C d X σ₁ b/\(b=true->Q X σ₁)/\(b=false->AT C env vars gl own d (boolOp p .Or (y::r)) m σ₁ Q)):
  AT C env vars gl own d (boolOp p .Or (x::y::r)) m σ Q:=λA G D s hA R=>by
 show wpAny C.M A (do
  let v <-x
  standAt p
  let t <-holding [v] (truthy v)
  match BoolOp.Or,t with
  | .And,false| .Or,true=>pure v
  |_,_=>boolOp p .Or (y::r)) _ _ s
 refine wpAny_bind (h.run hA R λv s₁ X D₁ σ₁ a b c hpp=> ?_)
 obtain⟨t,ht,h1,h2⟩:=hpp
 refine wpAny_bind (wpAny_standAt (wpAny_bind (wpAny_holding (ht.inF hA c b λtk=> ?_))))
 cases t with
 |true=>exact wpAny_pure ⟨X,D₁,σ₁,a,b,c.tok tk,h1 rfl⟩
 |false=>exact z0Z a (h2 rfl A G D₁ _ hA (c.tok tk))
theorem z9X{op:BoolOp}{vs:List Expr}{p:Pos}(h:AT C env vars gl own d (boolOp p op (evalEach vs env)) m σ Q):AT C env vars gl own d (eval (.BoolOp op vs p) env) m σ Q:=λA G D s hA R=>by
 rw[arm_eval_BoolOp]
 exact h A G D s hA R
end
end
section
section
variable {C:Cx} {env:Env} {vars:List Str} {gl:List (Str×V)} {own:Bool} {d:Nat} {m:Loc} {σ σ':Sto}
variable {A:Around} {G D D₁:Gh} {s:Shared}
theorem RelC.footLives(R:RelC C G D σ s){a:Addr}(h:a∈foot σ):∃o,s.heap.get? a=some o:=by
 have key:∀(τ:Sto),(∀p∈τ,PR s.heap p.1 p.2.1 p.2.2)->a∈foot τ->∃o,s.heap.get? a=some o:=by
  intro τ
  induction τ with
  |nil=>intro _ h;simp[foot] at h
  |cons p r ih=>
   obtain⟨b,o,x⟩:=p
   intro hp h
   rcases List.mem_append.mp h with h|h
   ·exact(hp _ (.head _)).lives a h
   ·exact ih (λq hq=>hp q (.tail _ hq)) h
 exact key σ R.pl h
theorem RelC.footLt(R:RelC C G D σ s){a:Addr}(h:a∈foot σ):a<s.heap.objs.size:=let⟨_,e⟩:=R.footLives h;Heap.lt_size e
theorem RelC.new_notFoot(R:RelC C G D σ s):s.heap.objs.size∉foot σ:=λh=>Nat.lt_irrefl _ (R.footLt h)
theorem RelC.new_G(R:RelC C G D σ s):G s.heap.objs.size=none:=by
 cases e:G s.heap.objs.size with
 |none=>rfl
 |some o=>obtain⟨_,h,_⟩:=R.g _ _ e;exact absurd (Heap.lt_size h) (Nat.lt_irrefl _)
theorem RelC.new_D(R:RelC C G D σ s):D s.heap.objs.size=none:=by
 cases e:D s.heap.objs.size with
 |none=>rfl
 |some o=>exact absurd (Heap.lt_size (R.d _ _ e)) (Nat.lt_irrefl _)
theorem RelC.keep(R:RelC C G D σ s){h':Heap}(t:Nat)(k:∀b o,s.heap.get? b=some o->h'.get? b=some o):RelC C G D σ {s with heap:=h',toks:=t} where
 same:=let⟨h,_,e⟩:=R.same;⟨h',t,by rw[e]⟩
 bs:=λa o e=>k _ _ (R.bs a o e)
 g:=λa o e=>R.g' e λ_=>k _ _
 d:=λa o e=>k _ _ (R.d a o e)
 base:=R.base
 nd:=R.nd
 offG:=R.offG
 offD:=R.offD
 pl:=λp hp=>(R.pl p hp).at λb _ ob e=>k _ _ e
 sto:=R.sto
theorem RelC.keepBut(R:RelC C G D σ s){h':Heap}(t:Nat)(wr:List Addr)(hw:∀a∈wr,G a=none/\D a=none/\a∉foot σ)(k:∀b o,b∉wr->s.heap.get? b=some o->h'.get? b=some o):
  RelC C G D σ {s with heap:=h',toks:=t} where
 same:=let⟨h,_,e⟩:=R.same;⟨h',t,by rw[e]⟩
 bs:=λa o e=>k _ _ (λm=>nomatch (hw a m).1.symm.trans (R.base a o e)) (R.bs a o e)
 g:=λa o e=>R.g' e λ_=>k _ _ (λm=>nomatch (hw a m).1.symm.trans e)
 d:=λa o e=>k _ _ (λm=>by rw[(hw a m).2.1] at e;cases e) (R.d a o e)
 base:=R.base
 nd:=R.nd
 offG:=R.offG
 offD:=R.offD
 pl:=λp hp=>(R.pl p hp).at λb hb ob e=>k _ _ (λm=>(hw b m).2.2 (z2q (ob:=p.2.1) hp b hb)) e
 sto:=R.sto
theorem RelC.push(R:RelC C G D σ s)(o:Obj):RelC C G D σ {s with heap:=s.heap.push o}:=by
 have:=R.keep (h':=s.heap.push o) s.toks λb x e=>Heap.get?_push_of_some _ e
 exact this
noncomputable def z2r(D:Gh)(a:Addr)(o:Obj):Gh:=λb=>if b=a then some o else D b
theorem z0O(D:Gh)(a:Addr)(o:Obj):z2r D a o a=some o:=by simp[z2r]
theorem z1j{D:Gh}{a b:Addr}(o:Obj)(h:b≠a):z2r D a o b=D b:=by simp[z2r,h]
theorem z37{D:Gh}{a:Addr}(o:Obj)(h:D a=none):Sub D (z2r D a o):=λb x e=>by
 rw[z1j];exact e
 rintro rfl;rw[h] at e;cases e
theorem RelC.newF(R:RelC C G D σ s)(o:Obj)(hf:autoParam (o.isFreed=false) auR):RelC C G (z2r D s.heap.objs.size o) σ {s with heap:=s.heap.push o}/\DX G D (z2r D s.heap.objs.size o):=by
 have R':=R.push o
 refine⟨⟨R'.same,R'.bs,R'.g,λa x e=> ?_,R'.base,R'.nd,R'.offG,λa ha=> ?_,R'.pl,λp hp=>(R'.sto p hp).mono (z37 o R.new_D)⟩,z37 o R.new_D,λa e g=> ?_⟩
 ·by_cases h:a=s.heap.objs.size
  ·subst h;rw[z0O] at e;cases e;exact Heap.get?_push_size _ hf
  ·rw[z1j o h] at e;exact R'.d a x e
 ·rw[z1j];exact R.offD a ha
  rintro rfl;exact R.new_notFoot ha
 ·rw[z1j];exact e
  rintro rfl;exact g R.new_G
theorem RelC.newM(R:RelC C G D σ s)(o:Obj)(x:AO)(hr:HR C.w D o x)(hx:z0V s.heap.objs.size x=[s.heap.objs.size])(hp:∀h a,PR h a o x=(h.get? a=some o))(hf:autoParam (o.isFreed=false) auR):
  RelC C G D ((s.heap.objs.size,o,x)::σ) {s with heap:=s.heap.push o}:=by
 have R':=R.push o
 refine⟨R'.same,R'.bs,R'.g,R'.d,R'.base,?_,λa ha=> ?_,λa ha=> ?_,λp hp'=> ?_,λp hp'=> ?_⟩
 ·show(z0V _ _++foot σ).Nodup
  rw[hx]
  exact List.nodup_cons.mpr ⟨R.new_notFoot,R.nd⟩
 ·have:a∈z0V s.heap.objs.size x++foot σ:=ha
  rw[hx] at this
  rcases List.mem_cons.mp this with rfl|h
  ·exact R.new_G
  ·exact R.offG a h
 ·have:a∈z0V s.heap.objs.size x++foot σ:=ha
  rw[hx] at this
  rcases List.mem_cons.mp this with rfl|h
  ·exact R.new_D
  ·exact R.offD a h
 ·rcases List.mem_cons.mp hp' with rfl|h
  ·show PR _ _ _ _
   rw[hp];exact Heap.get?_push_size _ hf
  ·exact R'.pl p h
 ·rcases List.mem_cons.mp hp' with rfl|h
  ·exact hr
  ·exact R'.sto p h
inductive Upd(a:Addr)(o:Obj)(x:AO)(o':Obj)(x':AO):Sto->Sto->Prop
 |head {r:Sto}:Upd a o x o' x' ((a,o,x)::r) ((a,o',x')::r)
 |tail {p:Addr×Obj×AO} {r r':Sto}:Upd a o x o' x' r r'->Upd a o x o' x' (p::r) (p::r')
theorem z1s(σ τ:Sto):foot (σ++τ)=foot σ++foot τ:=by
 induction σ with
 |nil=>rfl
 |cons p r ih=>obtain⟨a,o,x⟩:=p;show z0V a x++foot (r++τ)=z0V a x++foot r++foot τ;rw[ih,List.append_assoc]
theorem Upd.app{a:Addr}{o o':Obj}{x x':AO}{r r':Sto}(τ:Sto)(h:Upd a o x o' x' r r'):Upd a o x o' x' (τ++r) (τ++r'):=by
 induction τ with
 |nil=>exact h
 |cons p t ih=>exact .tail ih
theorem Upd.split{a:Addr}{o o':Obj}{x x':AO}{r r':Sto}(h:Upd a o x o' x' r r'):∃u v,r=u++(a,o,x)::v/\r'=u++(a,o',x')::v:=by
 induction h with
 |head=>exact⟨[],_,rfl,rfl⟩
 |tail _ ih=>obtain⟨u,v,rfl,rfl⟩:=ih;exact⟨_::u,v,rfl,rfl⟩
theorem Upd.mem{a:Addr}{o o':Obj}{x x':AO}{r r':Sto}(h:Upd a o x o' x' r r'):(a,o,x)∈r:=by
 obtain⟨u,v,rfl,rfl⟩:=h.split;simp
theorem RelC.upd(R:RelC C G D σ s){a b:Addr}{o o':Obj}{x x':AO}(U:Upd a o x o' x' σ σ'){h':Heap}(t:Nat)(hb:b∈z0V a x)(hs:Heap.SameBut b s.heap h')(hx:z0V a x'=z0V a x)
  (hp:PR h' a o' x') (hr:HR C.w D o' x'):RelC C G D σ' {s with heap:=h',toks:=t}:=by
 obtain⟨u,v,rfl,rfl⟩:=U.split
 have hmem:(a,o,x)∈u++(a,o,x)::v:=by simp
 have hbf:b∈foot (u++(a,o,x)::v):=z2q hmem b hb
 have ft:foot (u++(a,o',x')::v)=foot (u++(a,o,x)::v):=by rw[z1s,z1s];show foot u++(z0V a x'++foot v)=foot u++(z0V a x++foot v);rw[hx]
 have nd:=R.nd
 rw[z1s] at nd
 have nd':(foot u++(z0V a x++foot v)).Nodup:=nd
 have off:∀q,q∈u∨q∈v->b∉z0V q.1 q.2.2:=by
  intro q hq hbq
  have h1:=List.nodup_append.mp nd'
  rcases hq with hq|hq
  ·exact h1.2.2 b (z2q (a:=q.1) (ob:=q.2.1) (o:=q.2.2) hq b hbq) b (List.mem_append_left _ hb) rfl
  ·exact(List.nodup_append.mp h1.2.1).2.2 b hb b (z2q (a:=q.1) (ob:=q.2.1) (o:=q.2.2) hq b hbq) rfl
 refine⟨let⟨h,_,e⟩:=R.same;⟨h',t,by rw[e]⟩,λc oc e=>hs.extBut c oc (by rintro rfl;exact nomatch (R.offG _ hbf).symm.trans (R.base _ _ e)) (R.bs c oc e),λc oc e=>R.g' e λo'=>hs.extBut c o' (by rintro rfl;exact nomatch (R.offG _ hbf).symm.trans e),λc oc e=> ?_,R.base,by rw[ft];exact R.nd,λc hc=>R.offG c (by rw[ft] at hc;exact hc),λc hc=>R.offD c (by rw[ft] at hc;exact hc),λq hq=> ?_,λq hq=> ?_⟩
 ·exact hs.extBut c oc (by rintro rfl;rw[R.offD _ hbf] at e;cases e) (R.d c oc e)
 ·have keep:(q∈u∨q∈v)->PR h' q.1 q.2.1 q.2.2:=λhq'=>(R.pl q (by rcases hq' with h|h<;>simp[h])).at λc hc ob e=>hs.extBut c ob (by rintro rfl;exact off q hq' hc) e
  rcases List.mem_append.mp hq with h|h
  ·exact keep (.inl h)
  ·rcases List.mem_cons.mp h with rfl|h
   ·exact hp
   ·exact keep (.inr h)
 ·rcases List.mem_append.mp hq with h|h
  ·exact R.sto q (by simp[h])
  ·rcases List.mem_cons.mp h with rfl|h
   ·exact hr
   ·exact R.sto q (by simp[h])
theorem RelC.drop(R:RelC C G D σ s){τ:Sto}(hs:τ.Sublist σ):RelC C G D τ s:=by
 have fs:(foot τ).Sublist (foot σ):=by
  have key:∀{a b:Sto},a.Sublist b->(foot a).Sublist (foot b):=by
   intro a b h
   induction h with
   |slnil=>exact .slnil
   |cons p _ ih=>obtain⟨c,o,x⟩:=p;exact ih.trans (List.sublist_append_right _ _)
   |cons_cons p _ ih=>obtain⟨c,o,x⟩:=p;exact List.Sublist.append (List.Sublist.refl _) ih
  exact key hs
 exact⟨R.same,R.bs,R.g,R.d,R.base,fs.nodup R.nd,λa h=>R.offG a (fs.subset h),λa h=>R.offD a (fs.subset h),λp h=>R.pl p (hs.subset h),λp h=>R.sto p (hs.subset h)⟩
theorem RelC.freezeL(R:RelC C G D σ s){a:Addr}{o:Obj}{xs:List V}{u v:Sto}(e:σ=u++(a,o,.list xs)::v):
  RelC C G (z2r D a o) (u++v) s/\DX G D (z2r D a o)/\VR C.w (z2r D a o) (.ref a) (.lst xs):=by
 have hmem:(a,o,AO.list xs)∈σ:=by rw[e];simp
 have haf:a∈foot σ:=z4m hmem
 have hD:=R.offD a haf
 have hsub:=z37 o hD
 have R':=R.drop (τ:=u++v) (by rw[e];exact List.Sublist.append (List.Sublist.refl _) (List.sublist_cons_self _ _))
 have hno:a∉foot (u++v):=by
  have nd:=R.nd
  rw[e,z1s] at nd
  have nd':(foot u++(a::foot v)).Nodup:=nd
  rw[z1s]
  intro h
  have h1:=List.nodup_append.mp nd'
  rcases List.mem_append.mp h with h|h
  ·exact h1.2.2 a h a (.head _) rfl
  ·exact(List.nodup_cons.mp h1.2.1).1 h
 have hpl:s.heap.get? a=some o:=R.pl _ hmem
 obtain⟨vs,n,ho,hr⟩:=R.sto _ hmem
 refine⟨⟨R'.same,R'.bs,R'.g,λb x eb=> ?_,R'.base,R'.nd,R'.offG,λb hb=> ?_,R'.pl,λp hp=>(R'.sto p hp).mono hsub⟩,⟨hsub,λb eb g=> ?_⟩,?_⟩
 ·by_cases h:b=a
  ·subst h;rw[z0O] at eb;cases eb;exact hpl
  ·rw[z1j o h] at eb;exact R'.d b x eb
 ·rw[z1j];exact R'.offD b hb
  rintro rfl;exact hno hb
 ·rw[z1j];exact eb
  rintro rfl;exact g (R.offG _ haf)
 ·have ho':o=z0D vs n:=ho
  refine VR.lst (vs:=vs.toList) (n:=n) ?_ (hr.mono hsub)
  rw[z0O,ho']
end
end
section
section
variable {C:Cx} {env:Env} {vars:List Str} {gl:List (Str×V)} {own:Bool} {d:Nat} {m m':Loc} {σ σ':Sto}
variable {A:Around} {G D D₁:Gh} {s:Shared}
theorem y2w{m:Loc}{i j:Nat}{X Y:V}(h:(m.set i (some X))[j]? =some (some Y)):(j=i/\Y=X)∨(j≠i/\m[j]? =some (some Y)):=by
 rw[List.getElem?_set] at h
 by_cases e:i=j
 ·subst e
  rw[if_pos rfl] at h
  split at h
  ·simp at h;exact .inl ⟨rfl,h.symm⟩
  ·cases h
 ·rw[if_neg e] at h;exact .inr ⟨λq=>e q.symm,h⟩
theorem z6q{l:List Str}(hn:l.Nodup){i j:Nat}{x:Str}(h1:l[i]? =some x)(h2:l[j]? =some x):i=j:=by
 have hi:=(List.getElem?_eq_some_iff.mp h1)
 have hj:=(List.getElem?_eq_some_iff.mp h2)
 exact(List.getElem_inj (h₀:=hi.1) (h₁:=hj.1) hn).mp (hi.2.trans hj.2.symm)
theorem y1b{l:List Str}{m:Loc}{i j:Nat}{x y:Str}{X Y:V}{Z:Str->V->Prop}(nd:l.Nodup)(h1:l[i]? =some x)(e1:l[j]? =some y)(e3:(m.set i (some X))[j]? =some (some Y))(hx:Z x X)(hy:y≠x->m[j]? =some (some Y)->Z y Y):Z y Y:=by
 rcases y2w e3 with⟨e,rfl⟩|⟨hne,e⟩
 ·rw[e,h1] at e1
  exact Option.some.inj e1▸hx
 ·exact hy (λq=>hne (z6q nd (q▸e1) h1)) e
theorem RelF.storeL{s':Shared}{i:Nat}{x:Str}{X:V}{v:Value}{mm:Str->Option Value}(R:RelF C env vars gl own G D m σ s)(RC:RelC C G D σ s')(h1:vars[i]? =some x)(hl:env.kindOf x=some .local)(hv:VR C.w D v X)(hn':s'.heap.Ns env.locals (λy=>if y=x then some v else mm y))
  (hmm:∀(i:Nat) x X,vars[i]? =some x->env.kindOf x=some .local->m[i]? =some (some X)->∃v,mm x=some v/\VR C.w D v X) (hs:Heap.SameBut env.locals s.heap s'.heap):RelF C env vars gl own G D (m.set i (some X)) σ s' where
 toRelC:=RC
 ok:=R.ok
 offL:=R.offL
 ns:=⟨_,hn',λj y Y e1 e2 e3=>y1b (Z:=λy Y=>∃u,(if y=x then some v else mm y)=some u/\VR C.w D u Y) R.ok.nd h1 e1 e3 ⟨v,if_pos rfl,hv⟩ λhne e3=>by rw[if_neg hne];exact hmm j y Y e1 e2 e3⟩
 cl:=λj y c e1 e2 e3=>by
  obtain⟨q1,⟨ov,q2,q3⟩,q4⟩:=R.cl j y c e1 e2 e3
  exact⟨q1,⟨ov,q2.sameBut hs q1,λY e=>y1b (Z:=λy Y=>env.kindOf y=some .cell->∃v,ov=some v/\VR C.w D v Y) R.ok.nd h1 e1 e (λe2=>nomatch hl.symm.trans e2) (λ_ e _=>q3 Y e) e2⟩,q4⟩
theorem RelF.storeC{s':Shared}{i:Nat}{x:Str}{X:V}{v:Value}{c:Addr}(R:RelF C env vars gl own G D m σ s)(RC:RelC C G D σ s')(h1:vars[i]? =some x)(hc:env.kindOf x=some .cell)(hcc:env.cells.lookup x=some c)(hv:VR C.w D v X)(hne:c≠env.locals)(hn':s'.heap.IsCell c (some v))
  (hs:Heap.SameBut c s.heap s'.heap):RelF C env vars gl own G D (m.set i (some X)) σ s' where
 toRelC:=RC
 ok:=R.ok
 offL:=R.offL
 ns:=by
  obtain⟨mm,hn,hmm⟩:=R.ns
  exact⟨mm,hn.sameBut hs (Ne.symm hne),λj y Y e1 e2 e3=>y1b (Z:=λy Y=>env.kindOf y=some .local->∃u,mm y=some u/\VR C.w D u Y) R.ok.nd h1 e1 e3 (λe2=>nomatch hc.symm.trans e2) (λ_ e3 e2=>hmm j y Y e1 e2 e3) e2⟩
 cl:=λj y c₂ e1 e2 e3=>by
  obtain⟨p1,⟨ov,p2,p3⟩,p4⟩:=R.cl j y c₂ e1 e2 e3
  by_cases hy:y=x
  ·subst hy
   obtain rfl:=Option.some.inj (hcc.symm.trans e3)
   exact⟨p1,⟨_,hn',λY e=>y1b (Z:=λ_ Y=>∃u,some v=some u/\VR C.w D u Y) R.ok.nd h1 e1 e ⟨v,rfl,hv⟩ λhne _=>absurd rfl hne⟩,p4⟩
  ·exact⟨p1,⟨ov,p2.sameBut hs λe=>hy (name_of_addr R.ok.ap (mem_of_lookup e3) (e▸mem_of_lookup hcc)),λY e=>y1b (Z:=λz Y=>z=y->∃u,ov=some u/\VR C.w D u Y) R.ok.nd h1 e1 e (λe=>absurd e.symm hy) (λ_ e _=>p3 Y e) rfl⟩,p4⟩
theorem RelF.store(R:RelF C env vars gl own G D m σ s){x:Str}{X:V}{v:Value}(hP:Put vars m x X m')(hv:VR C.w D v X)(hk:own=true∨env.kindOf x=some .local){K:Unit->Shared->Prop}
  (k:∀s',RelF C env vars gl own G D m' σ s'->K () s'):wpAny C.M A (storeName env x v) K (λ_ _=>False) s:=by
 obtain⟨i,h1,rfl⟩:=hP.get
 rcases(R.ok.vk x (List.mem_of_getElem? h1)).2 with hl|⟨hc,c,hcc⟩
 ·obtain⟨mm,hn,hmm⟩:=R.ns
  exact wpAny_storeName_local hl hn (λh' hn' hs'=>k _ (R.storeL (R.toRelC.keepBut _ [env.locals] (λa ha=>List.mem_singleton.mp ha▸R.offL) λb o hb e=>hs'.extBut b o (λq=>hb (List.mem_singleton.mpr q)) e) h1 hl hv hn' hmm hs')) (by rw[R.ok.fn];rfl)
 ·have hown:own=true:=hk.resolve_right (by rw[hc];exactλe=>nomatch e)
  subst hown
  obtain⟨q1,⟨ov,q2,q3⟩,q4⟩:=R.cl i x c h1 hc hcc
  exact wpAny_storeName_cell R.ok.fn hc hcc q2 λh' hc' hs'=>k _ (R.storeC (R.toRelC.keepBut s.toks [c] (λa ha=>List.mem_singleton.mp ha▸q4) λb o hb e=>hs'.extBut b o (λq=>hb (List.mem_singleton.mpr q)) e) h1 hc hcc hv q1 hc' hs')
inductive PostU(C:Cx)(env:Env)(vars:List Str)(gl:List (Str×V))(own:Bool)(G D:Gh)(K:Loc->Sto->Prop)(u:Unit)(s':Shared):Prop
 |mk (m':Loc) (D':Gh) (σ':Sto):DX G D D'->RelF C env vars gl own G D' m' σ' s'->K m' σ'->PostU C env vars gl own G D K u s'
noncomputable def AA(C:Cx)(env:Env)(vars:List Str)(gl:List (Str×V))(own:Bool)(d:Nat)(t:Value->Sem Unit)(x:V)(m:Loc)(σ:Sto)(K:Loc->Sto->Prop):Prop:=
 ∀A G D s v,AOk C A d->RelF C env vars gl own G D m σ s->VR C.w D v x->wpAny C.M A (t v) (PostU C env vars gl own G D K) (λ_ _=>False) s
variable {K:Loc->Sto->Prop}
theorem PostU.weak{u:Unit}{s':Shared}(h:DX G D D₁)(p:PostU C env vars gl own G D₁ K u s'):PostU C env vars gl own G D K u s':=
 by obtain⟨m',D',σ',a,c,e⟩:=p;exact⟨m',D',σ',h.trans a,c,e⟩
theorem z0w{x:Str}{p:Pos}{X:V}(hP:Put vars m x X m')(k:K m' σ)(hk:own=true∨env.kindOf x=some .local:=by exact .inl rfl):AA C env vars gl own d (assign (.Name x p) env) X m σ K:=λA G D s v hA R hv=>by
 show wpAny C.M A (do standAt p;bindName env x v) _ _ s
 exact wpAny_bind (wpAny_standAt (wpAny_bindName (R.store hP hv hk λs' R'=>⟨m',D,σ,DX.refl _ _,R',k⟩)))
inductive Fl where
 |next
 |brk
 |cont
 |ret (x:V)
noncomputable def FlR(w:World)(D:Gh):Flow->Fl->Prop
 | .next,.next=>True
 | .brk,.brk=>True
 | .cont,.cont=>True
 | .ret v,.ret x=>VR w D v x
 |_,_=>False
inductive PostS(C:Cx)(env:Env)(vars:List Str)(gl:List (Str×V))(own:Bool)(G D:Gh)(Q:Fl->Loc->Sto->Prop)(f:Flow)(s':Shared):Prop
 |mk (fl:Fl) (m':Loc) (D':Gh) (σ':Sto):DX G D D'->FlR C.w D' f fl->RelF C env vars gl own G D' m' σ' s'->Q fl m' σ'->PostS C env vars gl own G D Q f s'
noncomputable def AS(C:Cx)(env:Env)(vars:List Str)(gl:List (Str×V))(own:Bool)(d:Nat)(t:Sem Flow)(m:Loc)(σ:Sto)(Q:Fl->Loc->Sto->Prop):Prop:=
 ∀A G D s,AOk C A d->RelF C env vars gl own G D m σ s->wpAny C.M A t (PostS C env vars gl own G D Q) (λ_ _=>False) s
variable {Q:Fl->Loc->Sto->Prop}
theorem PostS.weak{u:Flow}{s':Shared}(h:DX G D D₁)(p:PostS C env vars gl own G D₁ Q u s'):PostS C env vars gl own G D Q u s':=
 by obtain⟨fl,m',D',σ',a,b,c,e⟩:=p;exact⟨fl,m',D',σ',h.trans a,b,c,e⟩
theorem z5y{t:Sem Flow}(h:DX G D D₁)(p:wpAny C.M A t (PostS C env vars gl own G D₁ Q) (λ_ _=>False) s):wpAny C.M A t (PostS C env vars gl own G D Q) (λ_ _=>False) s:=
 wpAny_mono p (λ_ _ q=>q.weak h) λ_ _ e=>e
theorem AS.run{t:Sem Flow}(h:AS C env vars gl own d t m σ Q)(hA:AOk C A d)(R:RelF C env vars gl own G D m σ s){K:Flow->Shared->Prop}
  (k:∀f s' fl m' D' σ',DX G D D'->FlR C.w D' f fl->RelF C env vars gl own G D' m' σ' s'->Q fl m' σ'->K f s'):wpAny C.M A t K (λ_ _=>False) s:=
 wpAny_mono (h A G D s hA R) (λv s' hpp=>by obtain⟨fl,m',D',σ',a,b,c,e⟩:=hpp;exact k v s' fl m' D' σ' a b c e) λ_ _ e=>e
theorem AS.mono{t:Sem Flow}{Q':Fl->Loc->Sto->Prop}(h:AS C env vars gl own d t m σ Q)(hQ:∀f m σ,Q f m σ->Q' f m σ):AS C env vars gl own d t m σ Q':=λA G D s hA R=>
 h.run hA R λf s' fl m' D' σ' a b c e=>⟨fl,m',D',σ',a,b,c,hQ _ _ _ e⟩
theorem z8c(q:Q .next m σ):AS C env vars gl own d (execs [] env) m σ Q:=λA G D s hA R=>wpAny_execs_nil ⟨.next,m,D,σ,DX.refl _ _,trivial,R,q⟩
noncomputable def y47(C:Cx)(env:Env)(vars:List Str)(gl:List (Str×V))(own:Bool)(d:Nat)(rest:List Stmt)(Q:Fl->Loc->Sto->Prop):Fl->Loc->Sto->Prop
 | .next,m,σ=>AS C env vars gl own d (execs rest env) m σ Q
 |f,m,σ=>Q f m σ
theorem z3d{st:Stmt}{rest:List Stmt}(h:AS C env vars gl own d (exec st env) m σ (y47 C env vars gl own d rest Q)):AS C env vars gl own d (execs (st::rest) env) m σ Q:=λA G D s hA R=>by
 refine wpAny_execs_cons (h.run hA R λf s' fl m' D' σ' a b c e=> ?_)
 cases f<;>cases fl<;>first|exact b.elim|skip
 ·exact z5y a (e A G D' s' hA c)
 ·exact⟨.brk,m',D',σ',a,b,c,e⟩
 ·exact⟨.cont,m',D',σ',a,b,c,e⟩
 ·exact⟨.ret _,m',D',σ',a,b,c,e⟩
theorem z1C{x:Str}{p' p:Pos}{e:Expr}(h:AT C env vars gl own d (eval e env) m σ λX σ₁=>∃m',Put vars m x X m'/\Q .next m' σ₁)
  (hk:autoParam (own=true) auR) (hs:autoParam (swapsWith e (some (.Name x p')) p.line env=pure false) auR):AS C env vars gl own d (exec (.Assign [.Name x p'] e p) env) m σ Q:=λA G D s hA R=>
 wpAny_Assign_Name (h.run hA R λv s₁ X D₁ σ₁ a b c hpp=>by obtain⟨m',hP,q⟩:=hpp;exact c.store hP b (.inl hk) λs' R'=>⟨.next,m',D₁,σ₁,a,trivial,R',q⟩) hs
theorem z5s{e:Expr}{p:Pos}(h:AT C env vars gl own d (eval e env) m σ λX σ₁=>Q (.ret X) m σ₁):AS C env vars gl own d (exec (.Return (some e) p) env) m σ Q:=λA G D s hA R=>
 wpAny_Return_some (h.run hA R λv s₁ X D₁ σ₁ a b c q=>⟨.ret X,m,D₁,σ₁,a,b,c,q⟩)
theorem y2K{t:Expr}{b o:List Stmt}{p:Pos}(h:AB C env vars gl own d (isTrue t env (eval t env)) m σ λc σ₁=>(c=true->AS C env vars gl own d (execs b env) m σ₁ Q)/\(c=false->AS C env vars gl own d (execs o env) m σ₁ Q)):
  AS C env vars gl own d (exec (.If t b o p) env) m σ Q:=λA G D s hA R=>
 wpAny_If (h.run hA R λb s₁ D₁ σ₁ a c e=>by
  cases b with
  |true=>exact z5y a (e.1 rfl A G D₁ s₁ hA c)
  |false=>exact z5y a (e.2 rfl A G D₁ s₁ hA c))
theorem y1T{e:Expr}{p:Pos}(h:AT C env vars gl own d (eval e env) m σ λ_ σ₁=>Q .next m σ₁)
  (hs:autoParam (swapsWith e none p.line env=pure false) auR):AS C env vars gl own d (exec (.Expr e p) env) m σ Q:=λA G D s hA R=>by
 have hi:interactive env=false:=by unfold interactive;rw[R.ok.fn];rfl
 rw[exec_Expr env e p hi hs]
 refine wpAny_bind (wpAny_standAt (wpAny_bind (h.run hA R λv s₁ X D₁ σ₁ a b c q=> ?_)))
 have fin:PostS C env vars gl own G D Q .next s₁:=⟨.next,m,D₁,σ₁,a,trivial,c,q⟩
 exact wpAny_dropValue fin
inductive PostL(C:Cx)(env:Env)(vars:List Str)(gl:List (Str×V))(own:Bool)(G D:Gh)(m:Loc)(Q:List V->Sto->Prop)(v:List Value)(s':Shared):Prop
 |mk (x:List V) (D':Gh) (σ':Sto):DX G D D'->VRs C.w D' v x->RelF C env vars gl own G D' m σ' s'->Q x σ'->PostL C env vars gl own G D m Q v s'
noncomputable def AL(C:Cx)(env:Env)(vars:List Str)(gl:List (Str×V))(own:Bool)(d:Nat)(t:Sem (List Value))(m:Loc)(σ:Sto)(Q:List V->Sto->Prop):Prop:=
 ∀A G D s,AOk C A d->RelF C env vars gl own G D m σ s->wpAny C.M A t (PostL C env vars gl own G D m Q) (λ_ _=>False) s
variable {L:List V->Sto->Prop}
theorem AL.run{t:Sem (List Value)}(h:AL C env vars gl own d t m σ L)(hA:AOk C A d)(R:RelF C env vars gl own G D m σ s){K:List Value->Shared->Prop}
  (k:∀v s' x D' σ',DX G D D'->VRs C.w D' v x->RelF C env vars gl own G D' m σ' s'->L x σ'->K v s'):wpAny C.M A t K (λ_ _=>False) s:=
 wpAny_mono (h A G D s hA R) (λv s' hpp=>by obtain⟨x,D',σ',a,b,c,e⟩:=hpp;exact k v s' x D' σ' a b c e) λ_ _ e=>e
theorem z0c{p:Pos}(q:L [] σ):AL C env vars gl own d (spliced (backTo p (starEach [] env))) m σ L:=λA G D s hA R=>wpAny_items_nil ⟨[],D,σ,DX.refl _ _,.nil,R,q⟩
theorem z0b{p:Pos}{e:Expr}{rest:List Expr}(h:AT C env vars gl own d (eval e env) m σ λX σ₁=>AL C env vars gl own d (spliced (backTo p (starEach rest env))) m σ₁ λXs σ₂=>L (X::Xs) σ₂)
  (he:autoParam (starEach (e::rest) env=(false,eval e env)::starEach rest env) auR):AL C env vars gl own d (spliced (backTo p (starEach (e::rest) env))) m σ L:=λA G D s hA R=>
 wpAny_items_cons (h.run hA R λv s₁ X D₁ σ₁ a b c e=>e.run hA c λvs s₂ Xs D₂ σ₂ a' b' c' q=>⟨X::Xs,D₂,σ₂,a.trans a',.cons (b.mono a'.sub) b',c',q⟩) he
variable {P:V->Sto->Prop}
theorem RelF.newF(R:RelF C env vars gl own G D m σ s)(o:Obj)(hf:autoParam (o.isFreed=false) auR):
  RelF C env vars gl own G (z2r D s.heap.objs.size o) m σ {s with heap:=s.heap.push o}/\DX G D (z2r D s.heap.objs.size o):=by
 obtain⟨a,b⟩:=R.lifted.newF o hf
 exact⟨R.back a b,R.dx b⟩
theorem z1a{es:List Expr}{k:Nat}{p:Pos}(h:AL C env vars gl own d (spliced (backTo p (starEach es env))) m σ λXs σ₁=>Xs.length<=sizeLine/\P (.tup Xs) σ₁):
  AT C env vars gl own d (eval (.Tuple es k p) env) m σ P:=λA G D s hA R=>
 wpAny_Tuple (h.run hA R λvs s₁ Xs D₁ σ₁ a b c hpp=>by obtain⟨hl,q⟩:=hpp;exact⟨by rw[b.length];exact hl,by
  obtain⟨R',dx⟩:=c.newF (y4N vs.toArray 0)
  exact⟨.tup Xs,_,σ₁,a.trans dx,.tup (z0O ..) rfl rfl (b.mono dx.sub),R',q⟩⟩)
theorem z0P{es:List Expr}{p:Pos}(h:AL C env vars gl own d (spliced (backTo p (starEach es env))) m σ λXs σ₁=>Xs.length<=sizeLine/\P (.lst Xs) σ₁):
  AT C env vars gl own d (eval (.List es p) env) m σ P:=λA G D s hA R=>
 wpAny_List (h.run hA R λvs s₁ Xs D₁ σ₁ a b c hpp=>by obtain⟨hl,q⟩:=hpp;exact⟨by rw[b.length];exact hl,by
  obtain⟨R',dx⟩:=c.newF (z0D vs.toArray 0)
  exact⟨.lst Xs,_,σ₁,a.trans dx,.lst (z0O ..) (b.mono dx.sub),R',q⟩⟩)
theorem RelF.newL(R:RelF C env vars gl own G D m σ s){vs:List Value}{xs:List V}(h:VRs C.w D vs xs):
  RelF C env vars gl own G D m ((s.heap.objs.size,z0D vs.toArray 0,.list xs)::σ) {s with heap:=s.heap.push (z0D vs.toArray 0)}:=
 R.back (R.lifted.newM (z0D vs.toArray 0) (.list xs) ⟨vs.toArray,0,rfl,by simpa using h⟩ rfl (λ_ _=>rfl)) (DX.refl _ _)
noncomputable def SubR(C:Cx)(d:Nat)(x i:V)(σ:Sto)(P:V->Sto->Prop):Prop:=
 ∀A G D s o v,AOk C A d->RelC C G D σ s->VR C.w D o x->VR C.w D v i->∃T id,s.TypeIs o T/\typeLookup (.type T) "__getitem__"=pure (some (.builtin id))/\wpAny C.M A (getItem o v) (PostC C G D P) (λ_ _=>False) s
set_option tactic.hygienic true in
theorem z5i(slice:Expr)(o i:Value):∃ops,subscripted slice false o i=operate ops (getItem o i):=by
 cases slice<;>first|exact⟨_,rfl⟩|(rename_i a b c p;cases c<;>exact⟨_,rfl⟩)
theorem z0C{e i:Expr}{p:Pos}(h:AT C env vars gl own d (eval e env) m σ λX σ₁=>AT C env vars gl own d (eval i env) m σ₁ λI σ₂=>SubR C d X I σ₂ P):
  AT C env vars gl own d (eval (.Subscript e i p) env) m σ P:=λA G D s hA R=>
 PyProof.Rows.Subscript_ (h.run hA R λv s₁ X D₁ σ₁ a b c e₁=>e₁.run hA c λu s₂ I D₂ σ₂ a' b' c' q=>by
  obtain⟨T,id,hT,hl,hw⟩:=q A _ D₂ s₂ v u hA c'.lifted (b.mono a'.sub) b'
  obtain⟨ops,ho⟩:=z5i i v u
  exact PyProof.Rows.tail_any hT hl (wpAny_mono hw (λ_ _ hpp=>by obtain⟨x,D',σ',a₂,b₂,c₂,q₂⟩:=hpp;exact⟨x,D',σ',(a.trans a').trans (c'.dx a₂),b₂,c'.back c₂ a₂,q₂⟩) λ_ _ x=>x) ho)
end
end
section
section
variable {C:Cx} {env:Env} {vars:List Str} {gl:List (Str×V)} {own:Bool} {d:Nat} {m m':Loc} {σ σ':Sto}
variable {A:Around} {G D D₁:Gh} {s:Shared} {P:V->Sto->Prop}
noncomputable def KW(C:Cx)(d:Nat)(f:V)(xs:List V)(σ:Sto)(P:V->Sto->Prop):Prop:=
 ∀A G D s v vs,AOk C A d->RelC C G D σ s->VR C.w D v f->VRs C.w D vs xs->wpAny C.M A (call v vs) (PostC C G D P) (λ_ _=>False) s
theorem KW.mono{P':V->Sto->Prop}{f:V}{xs:List V}(h:KW C d f xs σ P)(hp:∀x σ,P x σ->P' x σ):KW C d f xs σ P':=λA G D s v vs hA R hv hs=>
 wpAny_mono (h A G D s v vs hA R hv hs) (λ_ _ hpp=>by obtain⟨x,D',σ',a,b,c,e⟩:=hpp;exact⟨x,D',σ',a,b,c,hp _ _ e⟩) λ_ _ e=>e
theorem z7P{a:Addr}{xs:List V}(h:CW C d (.ref a) xs σ P):KW C d (.ref a) xs σ P:=λA G D s v vs hA R hv hs=>by
 apply VR.refE hv
 exact wpAny_call (codeAny_mono (h A G D s vs hA R hs) λr s' q=>by
  cases r with
  |error e=>exact q.elim
  |ok f=>cases f<;>exact q)
noncomputable def z0l(C:Cx):V->Prop
 | .bi _=>True
 | .type _=>True
 | .ref a=>∃o fd,C.base.get? a=some o/\o.data= .func fd
 |_=>False
theorem z1L{F:V}(hF:z0l C F){f:Value}{pos:Pos}{first:List Value}{args:List (Bool×Sem Value)}{K:Value->Shared->Prop}{E:Value->Shared->Prop}(hf:VR C.w D f F)(hplain:args.any (·.1)=false)
  (h:wpAny C.M A (evalArgs f true args []) (λx s₁=>(∀b o,C.base.get? b=some o->s₁.heap.get? b=some o)/\wpAny C.M A (call f (first++x.pos) x.kw) K E s₁) E s):
  wpAny C.M A (callWith pos f first args []) K E s:=by
 cases hf with
 |bi n=>exact Calls.callWith_builtin hplain (wpAny_mono h (λ_ _ x=>x.2) λ_ _ x=>x)
 |type n=>exact callWith_type hplain (wpAny_mono h (λ_ _ x=>x.2) λ_ _ x=>x)
 |ref a=>
  obtain⟨o,fd,ho,hd⟩:=hF
  exact Calls.callWith_function (wpAny_mono h (λ_ _ x=>⟨⟨x.1 _ _ ho,hd⟩,x.2⟩) λ_ _ x=>x)
 |_=>exact hF.elim
theorem RelC.baseIn(R:RelC C G D σ s):∀b o,C.base.get? b=some o->s.heap.get? b=some o:=R.bs
theorem KW.inF{f:V}{xs:List V}(h:KW C d f xs σ P){v:Value}{vs:List Value}(hA:AOk C A d)(R:RelF C env vars gl own G D m σ s)(hv:VR C.w D v f)(hs:VRs C.w D vs xs):
  wpAny C.M A (call v vs) (PostE C env vars gl own G D m P) (λ_ _=>False) s:=
 wpAny_mono (h A _ D s v vs hA R.lifted hv hs) (λ_ _ hpp=>by obtain⟨x,D',σ',a,b,c,e⟩:=hpp;exact⟨x,D',σ',R.dx a,b,R.back c a,e⟩) λ_ _ e=>e
theorem y1I{x:Str}{np p:Pos}(h:AT C env vars gl own d (eval (.Name x np) env) m σ λF σ₁=>z0l C F/\KW C d F [] σ₁ P):
  AT C env vars gl own d (eval (.Call (.Name x np) [] [] p) env) m σ P:=λA G D s hA R=>
 wpAny_Call_ofName (h.run hA R λv s₁ F D₁ σ₁ a b c hpp=>by obtain⟨hF,hk⟩:=hpp;exact z1L hF b rfl (evalArgs_none ⟨c.toRelC.baseIn,z0Z a (hk.inF hA c b .nil)⟩))
theorem z0i{x:Str}{np p:Pos}{e:Expr}{rest:List Expr}(h:AT C env vars gl own d (eval (.Name x np) env) m σ λF σ₁=>z0l C F/\AL C env vars gl own d (spliced (backTo p (starEach (e::rest) env))) m σ₁ λXs σ₂=>KW C d F Xs σ₂ P)
  (he:autoParam (starEach (e::rest) env=(false,eval e env)::starEach rest env) auR) (hplain:autoParam ((backTo p (starEach rest env)).any (·.1)=false) auR):
  AT C env vars gl own d (eval (.Call (.Name x np) (e::rest) [] p) env) m σ P:=λA G D s hA R=>
 wpAny_Call_ofName (h.run hA R λv s₁ F D₁ σ₁ a b c hpp=>by obtain⟨hF,hk⟩:=hpp;exact z1L hF b (by rw[he];exact hplain) (by
  rw[he] at hk⊢
  exact Calls.evalArgs_plain (AL.run hk hA c λvs s₂ Xs D₂ σ₂ a' b' c' q=>⟨c'.toRelC.baseIn,z0Z (a.trans a') (q.inF hA c' (b.mono a'.sub) b')⟩)))
noncomputable def y2t(Q:V->Sto->Prop):Fl->Loc->Sto->Prop
 | .ret x,_,σ=>Q x σ
 | .next,_,σ=>Q .none σ
 |_,_,_=>False
noncomputable def nodupB:List Str->Bool
 |[]=>true
 |x::r=> !r.contains x&&nodupB r
theorem nodupB_ok:∀{l:List Str},nodupB l=true->l.Nodup
 |[],_=> .nil
 |x::r,h=>by
  simp only[nodupB,Bool.and_eq_true,Bool.not_eq_true'] at h
  exact List.nodup_cons.mpr ⟨λhm=>by have:=List.contains_iff_mem.mpr hm;rw[this] at h;exact absurd h.1 (by decide),nodupB_ok h.2⟩
noncomputable def z34(sc:Scope)(vars:List Str)(gl:List Str):Bool:=
 sc.kind== .function&& !sc.isCoroutine&& !sc.isGenerator&&nodupB vars&&
 vars.all (λx=> !(x==("__debug__":Str))&&(sc.names.lookup x==some .local||sc.names.lookup x==some .cell))&&
 gl.all λx=> !(x==("__debug__":Str))&&sc.names.lookup x==some .globalImplicit
theorem z1O{x:Str}:∀(names:List (Str×NameKind)) (n:Nat) (acc:List (Str×Addr)),names.lookup x=some .cell∨(∃c,acc.lookup x=some c)->∃c,(cellsFrom n names acc).lookup x=some c
 |[],_,_,h=>h.elim (λe=>by cases e) id
 |(y,k)::r,n,acc,h=>by
  unfold cellsFrom
  by_cases hk:(k== .cell)=true
  ·rw[if_pos hk]
   refine z1O r (n+1) ((y,n)::acc) ?_
   by_cases hy:(x==y)=true
   ·exact .inr ⟨n,by rw[List.lookup_cons,hy]⟩
   ·refine h.imp (λe=> ?_) λ⟨c,e⟩=>⟨c,?_⟩
    ·rw[List.lookup_cons] at e;simpa only[hy] using e
    ·rw[List.lookup_cons];simpa only[hy] using e
  ·rw[if_neg hk]
   refine z1O r n acc ?_
   by_cases hy:(x==y)=true
   ·refine .inr (h.elim (λe=> ?_) id)
    rw[List.lookup_cons,hy] at e
    exact absurd (by rw[Option.some.inj e];rfl) hk
   ·refine h.imp (λe=> ?_) id
    rw[List.lookup_cons] at e;simpa only[hy] using e
theorem z6e{kf:Str->Option NameKind}{x:Str}:∀{b:List (Str×Value)} {mm:Str->Option Value},x∉b.map (·.1)->bindL kf b mm x=mm x
 |[],_,_=>rfl
 |(n,v)::r,mm,h=>by
  simp only[List.map_cons,List.mem_cons,not_or] at h
  unfold bindL
  rw[z6e h.2]
  split
  ·simp[h.1]
  ·rfl
theorem z56{kf:Str->Option NameKind}{x:Str}:∀{b:List (Str×Value)} {mm:Str->Option Value},x∉b.map (·.1)->bindC kf b mm x=mm x
 |[],_,_=>rfl
 |(n,v)::r,mm,h=>by
  simp only[List.map_cons,List.mem_cons,not_or] at h
  unfold bindC
  rw[z56 h.2]
  split
  ·rfl
  ·simp[h.1]
theorem z7N{kf:Str->Option NameKind}{x:Str}{v:Value}:∀{b:List (Str×Value)} {mm:Str->Option Value},(b.map (·.1)).Nodup->(x,v)∈b->kf x=some .local->bindL kf b mm x=some v
 |(n,u)::r,mm,hn,hm,hk=>by
  have hn':=List.nodup_cons.mp hn
  unfold bindL
  rcases List.mem_cons.mp hm with e|hm
  ·cases e
   rw[z6e hn'.1,if_pos hk];simp
  ·exact z7N hn'.2 hm hk
theorem z8j{kf:Str->Option NameKind}{x:Str}{v:Value}:∀{b:List (Str×Value)} {mm:Str->Option Value},(b.map (·.1)).Nodup->(x,v)∈b->kf x≠some .local->bindC kf b mm x=some v
 |(n,u)::r,mm,hn,hm,hk=>by
  have hn':=List.nodup_cons.mp hn
  unfold bindC
  rcases List.mem_cons.mp hm with e|hm
  ·cases e
   rw[z56 hn'.1,if_neg hk];simp
  ·exact z8j hn'.2 hm hk
theorem AOk.deeper{C:Cx}[NF C]{A:Around}{d:Nat}{env:Env}(h:AOk C A (d+1)):AOk C (A.deeper env) d:=
 ⟨h.h,λl e=>(nomatch (NF.h (C:=C)).symm.trans e),by have:=h.depth;show A.depth+1+d<1000;lia,by have:=h.units;show A.units+3+8*d<9000;lia⟩
structure FnIs(C:Cx)(a:Addr)(fd:FuncData)(body:List Stmt)(params:List Str):Prop where
 ob:∃o,C.base.get? a=some o/\o.data= .func fd
 body:fd.body= .stmts body
 clo:fd.closure=[]
 code:C.base.CodeRec fd.code fd.qualname
 gl:fd.globals=mainGlobals
 bi:fd.builtins=builtinsNs
 bind:∀vs:List Value,vs.length=params.length->bindArgs fd ⟨vs,[]⟩=pure (params.zip vs)
theorem z9B{α β:Type}:∀{l:List α} {r:List β} {i:Nat} {x:α} {y:β},l[i]? =some x->r[i]? =some y->(x,y)∈l.zip r
 |a::l,b::r,0,x,y,h1,h2=>by simp at h1 h2;subst h1 h2;simp
 |a::l,b::r,i+1,x,y,h1,h2=>by
  have:=z9B (l:=l) (r:=r) (i:=i) (by simpa using h1) (by simpa using h2)
  simp[this]
 |[],_,i,_,_,h1,_=>by simp at h1
 |_::_,[],i,_,_,_,h2=>by simp at h2
open Classical in
theorem y1Y{a:Addr}{fd:FuncData}{body:List Stmt}{params others:List Str}{gl:List (Str×V)}{xs:List V}{A:Around}{G D:Gh}{s:Shared}{vs:List Value}{RR:Result->Shared->Prop}(F:FnIs C a fd body params)(hlen:xs.length=params.length)
  (hst:z34 fd.scope (params++others) (gl.map (·.1))=true) (hgl:∀p∈gl,z0j C p.1 p.2) (hA:AOk C A (d+1)) (R:RelC C G D σ s) (hv:VRs C.w D vs xs)
  (h:∀(E:Env) (Gc:Gh) (s₁:Shared),E.scope=fd.scope->E.frame=some E.locals->s.heap.objs.size<=E.locals->(∀b o,G b=some o->frk o->Gc b=some o)->(∀b o,G b=some o->∃o',Gc b=some o'/\Eqs o o')->RelF C E (params++others) gl true Gc D (xs.map some++others.map λ_=>none) σ s₁->
   wpAny C.M (A.deeper E) (execs body E) (λf s'=>RR (.ok (.ret (match f with| .ret v=>v|_=> .none))) s') (λe s'=>wpAny C.M (A.deeper E) (leaving E e) (λ_ s''=>RR (.error e) s'') (λe' s''=>RR (.error e') s'') s') s₁):
  codeAny C.M A (.call (.ref a) ⟨vs,[]⟩) RR s:=by
 obtain⟨o,ho,hd⟩:=F.ob
 have hvl:vs.length=params.length:=hv.length.trans hlen
 have keepB:=R.baseIn
 simp only[z34,Bool.and_eq_true,Bool.not_eq_true',beq_iff_eq] at hst
 obtain⟨⟨⟨⟨⟨k1,k2⟩,k3⟩,k4⟩,k5⟩,k6⟩:=hst
 have nd:(params++others).Nodup:=nodupB_ok k4
 have vk:∀x∈params++others,(x==("__debug__":Str))=false/\(fd.scope.names.lookup x=some .local∨fd.scope.names.lookup x=some .cell):=λx hx=>by
  have:=List.all_eq_true.mp k5 x hx
  simp only[Bool.and_eq_true,Bool.not_eq_true',Bool.or_eq_true,beq_iff_eq] at this
  exact this
 have zn:(params.zip vs).map (·.1)=params:=by
  rw[List.map_fst_zip];lia
 refine codeAny_call_cells (fd:=fd) (by have:=hA.depth;show A.depth<1000;lia) (keepB _ _ ho) hd (C.lim.keeps keepB) (F.code.keeps keepB) F.body (F.bind vs hvl) F.clo (λx hx=> ?_) (λs₁ x=> ?_) k2 k3 k1
 ·have hm:x.1∈params:=zn▸List.mem_map_of_mem hx
  rcases(vk x.1 (List.mem_append_left _ hm)).2 with e|e
  ·exact .inl e
  ·obtain⟨c,hc⟩:=z1O (x:=x.1) fd.scope.names (s.heap.objs.size+1) [] (.inl e)
   exact .inr ⟨e,by rw[hc];rfl⟩
 ·generalize hE:callEnvC fd s.heap.objs.size a=E at x⊢
  have eL:E.locals=s.heap.objs.size:=by rw[<-hE];rfl
  have eK:∀y,E.kindOf y=fd.scope.names.lookup y:=λy=>by rw[<-hE];rfl
  have eC:E.cells=cellsFrom (s.heap.objs.size+1) fd.scope.names []:=by rw[<-hE];rfl
  obtain⟨h₁,tk,hs₁,kp⟩:=x.done
  let Gc:Gh:=λb=>if b∈foot σ then none else if∃o,G b=some o/\frk o then G b else s.heap.get? b
  have gcI:∀{b},b∈foot σ->Gc b=none:=λ{b} hb=>if_pos hb
  have gcF:∀b o,G b=some o->frk o->Gc b=some o:=λb o e n=>by
   show(if b∈foot σ then none else if∃o,G b=some o/\frk o then G b else s.heap.get? b)=some o
   rw[if_neg λhb=>(nomatch (R.offG b hb).symm.trans e),if_pos ⟨o,e,n⟩];exact e
  have gcH:∀b,b∉foot σ->(¬∃o,G b=some o/\frk o)->Gc b=s.heap.get? b:=λb hb hn=>by
   show(if b∈foot σ then none else if∃o,G b=some o/\frk o then G b else s.heap.get? b)=_
   rw[if_neg hb,if_neg hn]
  have gc1:∀b o,Gc b=some o->∃o',s.heap.get? b=some o'/\Eqs o o':=λb o e=>by
   by_cases hb:b∈foot σ
   ·exact nomatch (gcI hb).symm.trans e
   ·by_cases hn:∃o,G b=some o/\frk o
    ·obtain⟨o2,h1,h2⟩:=hn
     rw[gcF b o2 h1 h2] at e
     rw[<-Option.some.inj e];exact R.g b o2 h1
    ·rw[gcH b hb hn] at e;exact⟨o,e,.refl o⟩
  have gG:∀b o,G b=some o->∃o',Gc b=some o'/\Eqs o o':=λb o e=>by
   by_cases n:frk o
   ·exact⟨o,gcF b o e n,.refl o⟩
   ·obtain⟨o',h1,h2⟩:=R.g b o e
    refine⟨o',(gcH b (λhb=>nomatch (R.offG b hb).symm.trans e) λhn=> ?_).trans h1,h2⟩
    obtain⟨o2,k1,k2⟩:=hn
    rw[e] at k1;exact n (Option.some.inj k1▸k2)
  have new:∀c,s.heap.objs.size<=c->Gc c=none/\D c=none/\c∉foot σ:=λc hc=>⟨by
    cases e:Gc c with
    |none=>rfl
    |some o=>obtain⟨o',h',_⟩:=gc1 c o e;exact absurd (Heap.lt_size h') (Nat.not_lt.mpr hc),by
    cases e:D c with
    |none=>rfl
    |some o=>exact absurd (Heap.lt_size (R.d c o e)) (Nat.not_lt.mpr hc),λhf=>absurd (R.footLt hf) (Nat.not_lt.mpr hc)⟩
  have hkeep:∀b o,s.heap.get? b=some o->s₁.heap.get? b=some o:=by rw[hs₁];exact kp
  have RC:RelC C Gc D σ s₁:=by
   refine⟨?_,λb o e=>hkeep b o (R.bs b o e),(λb o e=>by obtain⟨o',h1,h2⟩:=gc1 b o e;exact⟨o',hkeep b o' h1,h2⟩),λb o e=>hkeep b o (R.d b o e),(λb o e=>by
    by_cases n:frk o
    ·exact gcF b o (R.base b o e) n
    ·refine(gcH b (λhb=>nomatch (R.offG b hb).symm.trans (R.base b o e)) λhn=> ?_).trans (R.bs b o e)
     obtain⟨o2,k1,k2⟩:=hn
     rw[R.base b o e] at k1;exact n (Option.some.inj k1▸k2)),R.nd,λb hb=> ?_,R.offD,λp hp=>(R.pl p hp).at λb _ ob e=>hkeep _ _ e,R.sto⟩
   ·obtain⟨h₂,t₂,e⟩:=R.same
    exact⟨h₁,tk,by rw[hs₁,e]⟩
   ·exact gcI hb
  have ndz:((params.zip vs).map (·.1)).Nodup:=by rw[zn];exact(List.nodup_append.mp nd).1
  have locs:∀(i:Nat) y X,(params++others)[i]? =some y->(xs.map some++others.map λ_=>none)[i]? =some (some X)->∃v,(y,v)∈params.zip vs/\VR C.w D v X:=by
   intro i y X e1 e2
   rw[List.getElem?_append] at e1 e2
   rw[List.length_map] at e2
   by_cases hi:i<xs.length
   ·rw[if_pos hi] at e2
    rw[if_pos (by lia)] at e1
    rw[List.getElem?_map] at e2
    obtain⟨Y,hY,e3⟩:=Option.map_eq_some_iff.mp e2
    cases e3
    obtain⟨u,hu,ru⟩:=hv.get hY
    exact⟨u,z9B e1 hu,ru⟩
   ·rw[if_neg hi] at e2
    rw[List.getElem?_map] at e2
    obtain⟨Y,hY,e3⟩:=Option.map_eq_some_iff.mp e2
    cases e3
  have RF:RelF C E (params++others) gl true Gc D (xs.map some++others.map λ_=>none) σ s₁:=
   {RC with
    ok:=⟨by rw[<-hE];exact k1,nd,λy hy=>⟨(vk y hy).1,(vk y hy).2.imp (λe=>by rw[eK];exact e) λe=>⟨by rw[eK];exact e,by rw[eC];exact z1O _ _ _ (.inl e)⟩⟩,x.apart,
     λp hp=>by
      have:=List.all_eq_true.mp k6 p.1 (List.mem_map_of_mem hp)
      simp only[Bool.and_eq_true,Bool.not_eq_true',beq_iff_eq] at this
      exact⟨this.1,by rw[eK];exact this.2,hgl p hp⟩,
     by rw[<-hE];exact F.gl,by rw[<-hE];exact F.bi⟩
    offL:=by rw[eL];exact new _ (Nat.le_refl _)
    ns:=⟨_,x.toInCall.ns,λi y X e1 e2 e3=>by
     obtain⟨v,hv1,hv2⟩:=locs i y X e1 e3
     exact⟨v,z7N ndz hv1 e2,hv2⟩⟩
    cl:=λi y c e1 e2 e3=>by
     have hab:=x.above y c (mem_of_lookup e3)
     rw[eL] at hab
     refine⟨by rw[eL];exact Nat.ne_of_gt hab,⟨_,x.cell y c e3,λX e4=> ?_⟩,new c (Nat.le_of_lt hab)⟩
     obtain⟨v,hv1,hv2⟩:=locs i y X e1 e4
     exact⟨v,z8j ndz hv1 (by rw[e2];intro q;cases q),hv2⟩}
  exact h E Gc s₁ (by rw[<-hE];rfl) (by rw[<-hE];rfl) (eL▸Nat.le_refl _) gcF gG RF
theorem y5e [NF C]{a:Addr}{fd:FuncData}{body:List Stmt}{params others:List Str}{gl:List (Str×V)}{xs:List V}(F:FnIs C a fd body params)(hlen:xs.length=params.length)
  (hst:z34 fd.scope (params++others) (gl.map (·.1))=true) (hgl:∀p∈gl,z0j C p.1 p.2)
  (h:∀env,env.scope=fd.scope->AS C env (params++others) gl true d (execs body env) (xs.map some++others.map λ_=>none) σ (y2t P)):CW C (d+1) (.ref a) xs σ P:=by
 intro A G D s vs hA R hv
 refine y1Y F hlen hst hgl hA R hv λE Gc s₁ hsc _ _ _ gG RF=> ?_
 refine wpAny_mono ((h E hsc).run hA.deeper RF λf s' fl m' D' σ' a b c q=> ?_) (λ_ _ e=>e) (λ_ _ e=>e.elim)
 have dx:DX G D D':=a.less λb hb=>by
  cases e:G b with
  |none=>exact absurd e hb
  |some o=>obtain⟨o',h1,_⟩:=gG b o e;rw[h1];exact nofun
 have RC':RelC C G D' σ' s':=⟨c.same,c.bs,(λb o e=>by
   obtain⟨o',h1,h2⟩:=gG b o e
   obtain⟨o2,h3,h4⟩:=c.g b o' h1
   exact⟨o2,h3,h2.trans h4⟩),c.d,R.base,c.nd,(λb hb=>by
   cases e:G b with
   |none=>rfl
   |some o=>obtain⟨o',h1,_⟩:=gG b o e;exact nomatch (c.offG b hb).symm.trans h1),c.offD,c.pl,c.sto⟩
 cases f<;>cases fl<;>first|exact b.elim|exact q.elim|skip
 ·exact⟨.none,D',σ',dx,.none,RC',q⟩
 ·exact⟨_,D',σ',dx,b,RC',q⟩
end
end
section
noncomputable def y3x(w:World)(D:Gh)(h h':Heap)(v:Value)(X:V):Prop:=
 VR w D v X∨∃T o vals n Xs,v= .ref T/\X= .tup Xs/\VRs w D vals Xs/\h.objs.size<=T/\h'.get? T=some o/\o.cls= .type "tuple"/\o.data= .seq vals.toArray n
noncomputable def z5b(wr:List Addr)(h h':Heap):Prop:=∀b o,b∉wr->h.get? b=some o->h'.get? b=some o
structure IW(C:Cx)(A:Around)(tgt:Expr)(I:Addr)(fp wr:List Addr)(D:Gh)(xs:List V)(St:Nat->Heap->Prop):Prop where
 live:∀i h,St i h->∀a∈wr,∃o,h.get? a=some o/\¬frk o
 sub:∀b∈wr,b∈fp
 old:∀b∈fp,b∉wr->∀h:Heap,St 0 h->h.get? b=none->False
 frame:∀i h h',St i h->(∀b∈fp,∀o,h.get? b=some o->h'.get? b=some o)->St i h'
 item:∀(i:Nat) X (s:Shared) (K:Option Value->Shared->Prop),xs[i]? =some X->St i s.heap->
  (∀v s₁,(∀Q':Unit->Shared->Prop,(∀h' tk,y3x C.w D s.heap h' v X->St (i+1) h'->z5b wr s.heap h'->Q' () {s with heap:=h',toks:=tk})->
   wpAny C.M A (letOwnedTupleGo tgt (.ref I) v) Q' (λ_ _=>False) s₁)->K (some v) s₁)->wpAny C.M A (pyNext (.ref I)) K (λ_ _=>False) s
 self:∀(i:Nat) (s:Shared) (K:Value->Shared->Prop),St i s.heap->K (.ref I) s->wpAny C.M A (pyIter (.ref I)) K (λ_ _=>False) s
 done:∀(s:Shared) (K:Option Value->Shared->Prop),St xs.length s.heap->(∀h' tk,z5b wr s.heap h'->K none {s with heap:=h',toks:=tk})->wpAny C.M A (pyNext (.ref I)) K (λ_ _=>False) s
section
variable {C:Cx} {env:Env} {vars:List Str} {gl:List (Str×V)} {own:Bool} {d:Nat} {m m':Loc} {σ σ':Sto}
variable {A:Around} {G D D₀ D₁:Gh} {s:Shared}
noncomputable def Off(env:Env)(vars:List Str)(G D:Gh)(σ:Sto)(wr:List Addr):Prop:=∀a∈wr,G a=none/\D a=none/\a∉foot σ/\¬z27 env vars a
theorem RelF.keepBut(R:RelF C env vars gl own G D m σ s){h':Heap}(t:Nat){wr:List Addr}(hw:Off env vars G D σ wr)(k:z5b wr s.heap h'):RelF C env vars gl own G D m σ {s with heap:=h',toks:=t}:=by
 have R':=R.lifted.keepBut (h':=h') t wr (λa ha=>⟨by rw[z1R (hw a ha).2.2.2];exact(hw a ha).1,(hw a ha).2.1,(hw a ha).2.2.1⟩) k
 exact R.back R' (DX.refl _ _)
theorem y2g{s':Shared}(R:RelF C env vars gl own G D m σ s)(R₁:RelF C env vars gl own G D m σ s'){T:Addr}{o:Obj}(nT:∀ob,s.heap.get? T≠some ob)(ho:s'.heap.get? T=some o):D T=none/\DX G D (z2r D T o)/\RelF C env vars gl own G (z2r D T o) m σ s':=by
 have no:∀{x:Option Obj},(∀ob,x=some ob->s.heap.get? T=some ob)->x=none:=λ{x} h=>Option.eq_none_iff_forall_not_mem.mpr λob e=>nT ob (h ob e)
 have hD:D T=none:=no (R.d T)
 have hf:∀b∈foot σ,b≠T:=λb h q=>by obtain⟨ob,e⟩:=R.toRelC.footLives h;exact nT ob (q▸e)
 have hl:z2l env vars G s' T=none:=by
  by_cases hm:z27 env vars T
  ·obtain⟨ob,e⟩:=R.mineLives hm;exact absurd e (nT ob)
  ·rw[z1R hm];exact R.noG nT
 have hsub:=z37 o hD
 have RC:=R₁.lifted
 have dx:DX (z2l env vars G s') D (z2r D T o):=⟨hsub,λb eb g=>by rw[z1j];exact eb;rintro rfl;exact g hl⟩
 refine⟨hD,R₁.dx dx,R₁.back {RC with d:=λb ob e=> ?_,offD:=λb hb=> ?_,sto:=λp hp=>(RC.sto p hp).mono hsub} dx⟩
 ·by_cases hb:b=T
  ·rw[hb,z0O] at e;rw[hb];exact ho.trans e
  ·rw[z1j o hb] at e;exact RC.d b ob e
 ·rw[z1j o (hf b hb)];exact RC.offD b hb
theorem z6K(R:RelF C env vars gl own G D m σ s)(hs:Sub D₀ D){h':Heap}{t:Nat}{wr:List Addr}(hw:Off env vars G D σ wr)(k:z5b wr s.heap h'){v:Value}{X:V}(hi:y3x C.w D₀ s.heap h' v X):
  ∃D',DX G D D'/\RelF C env vars gl own G D' m σ {s with heap:=h',toks:=t}/\VR C.w D' v X/\∀w2:List Addr,(∀a∈w2,∃o,s.heap.get? a=some o)->Off env vars G D σ w2->Off env vars G D' σ w2:=by
 have R₁:=R.keepBut t hw k
 rcases hi with hv|⟨T,o,vals,n,Xs,rfl,rfl,hvs,hT,ho,hc,hd⟩
 ·exact⟨D,DX.refl _ _,R₁,hv.mono hs,λ_ _ h=>h⟩
 ·have nT:∀ob,s.heap.get? T≠some ob:=λob e=>absurd (Heap.lt_size e) (Nat.not_lt.mpr hT)
  obtain⟨hD,dx,R₂⟩:=y2g R R₁ nT ho
  refine⟨z2r D T o,dx,R₂,.tup (z0O ..) hc hd ((hvs.mono hs).mono dx.sub),λw2 hl2 hw2 a ha=>⟨(hw2 a ha).1,?_,(hw2 a ha).2.2⟩⟩
  obtain⟨ob,e⟩:=hl2 a ha
  rw[z1j o (show a≠T fromλq=>nT ob (q▸e))];exact(hw2 a ha).2.1
noncomputable def z5X(C:Cx)(env:Env)(vars:List Str)(gl:List (Str×V))(own:Bool)(d:Nat)(tgt:Expr)(body:List Stmt)(P:Sto->Prop)(Q:Fl->Loc->Sto->Prop):List V->Loc->Sto->Prop
 |[],m,σ=>Q .next m σ
 |X::xs,m,σ=>AA C env vars gl own d (assign tgt env) X m σ λm₁ σ₁=>AS C env vars gl own d (execs body env) m₁ σ₁ λfl m₂ σ₂=>match fl with
  | .next=>P σ₂/\z5X C env vars gl own d tgt body P Q xs m₂ σ₂
  | .cont=>P σ₂/\z5X C env vars gl own d tgt body P Q xs m₂ σ₂
  | .brk=>Q .next m₂ σ₂
  | .ret v=>Q (.ret v) m₂ σ₂
noncomputable def y2m(C:Cx)(D:Gh)(P:Sto->Prop)(h:Heap)(fp wr:List Addr):Prop:=
 ∀G' D' σ' (s':Shared),RelC C G' D' σ' s'->Sub D D'->P σ'->∀b∈fp,b∉wr->∀o,h.get? b=some o->s'.heap.get? b=some o
inductive Ready(C:Cx)(A:Around)(env:Env)(vars:List Str)(gl:List (Str×V))(own:Bool)(tgt:Expr)(G D:Gh)(m:Loc)(σ:Sto)(it:Value)(s:Shared)(xs:List V)(P:Sto->Prop):Prop
 |mk (I:Addr) (fp wr:List Addr) (St:Nat->Heap->Prop):it= .ref I->IW C A tgt I fp wr D xs St->St 0 s.heap->RelF C env vars gl own G D m σ s->Off env vars G D σ wr->P σ->y2m C D P s.heap fp wr->Ready C A env vars gl own tgt G D m σ it s xs P
inductive PostI(C:Cx)(A:Around)(env:Env)(vars:List Str)(gl:List (Str×V))(own:Bool)(tgt:Expr)(G D:Gh)(m:Loc)(Q:List V->(Sto->Prop)->Sto->Prop)(it:Value)(s₂:Shared):Prop
 |mk (D':Gh) (σ':Sto) (xs:List V) (P:Sto->Prop):DX G D D'->Ready C A env vars gl own tgt G D' m σ' it s₂ xs P->Q xs P σ'->PostI C A env vars gl own tgt G D m Q it s₂
noncomputable def AI(C:Cx)(env:Env)(vars:List Str)(gl:List (Str×V))(own:Bool)(d:Nat)(iter tgt:Expr)(m:Loc)(σ:Sto)(Q:List V->(Sto->Prop)->Sto->Prop):Prop:=
 ∀A G D s,AOk C A d->RelF C env vars gl own G D m σ s->wpAny C.M A (eval iter env) (λx s₁=>wpAny C.M A (pyIter x) (PostI C A env vars gl own tgt G D m Q) (λ_ _=>False) s₁) (λ_ _=>False) s
open Classical in
noncomputable def z3e(G:Gh)(wr:List Addr)(h:Heap):Gh:=λa=>if a∈wr then h.get? a else G a
theorem z1x{wr:List Addr}{h:Heap}{a:Addr}(e:a∈wr):z3e G wr h a=h.get? a:=by unfold z3e;rw[if_pos e]
theorem z0U{wr:List Addr}{h:Heap}{a:Addr}(e:a∉wr):z3e G wr h a=G a:=by unfold z3e;rw[if_neg e]
theorem RelF.withW(R:RelF C env vars gl own G D m σ s){wr:List Addr}(hw:Off env vars G D σ wr):RelF C env vars gl own (z3e G wr s.heap) D m σ s where
 same:=R.same
 bs:=R.bs
 g:=λa o e=>by
  by_cases h:a∈wr
  ·rw[z1x h] at e;exact⟨o,e,.refl o⟩
  ·rw[z0U h] at e;exact R.g a o e
 d:=R.d
 base:=λa o e=>by
  by_cases h:a∈wr
  ·have:=R.base a o e;rw[(hw a h).1] at this;cases this
  ·rw[z0U h];exact R.base a o e
 nd:=R.nd
 offG:=λa ha=>by
  by_cases h:a∈wr
  ·exact absurd ha (hw a h).2.2.1
  ·rw[z0U h];exact R.offG a ha
 offD:=R.offD
 pl:=R.pl
 sto:=R.sto
 ok:=R.ok
 offL:=⟨by
  by_cases h:env.locals∈wr
  ·exact absurd (Or.inl rfl) (hw _ h).2.2.2
  ·rw[z0U h];exact R.offL.1,R.offL.2⟩
 ns:=R.ns
 cl:=λi x c h1 h2 h3=>by
  obtain⟨q1,q2,q3⟩:=R.cl i x c h1 h2 h3
  refine⟨q1,q2,?_⟩
  have hc:c∉wr:=λh=>(hw _ h).2.2.2 (Or.inr ⟨i,x,h1,h2,h3⟩)
  rw[z0U hc];exact q3
theorem RelF.lessW{wr:List Addr}{h:Heap}{σ₀:Sto}{D₀:Gh}(R:RelF C env vars gl own (Mine.z3e G wr h) D m σ s)(hw:Off env vars G D₀ σ₀ wr)(hb:∀a o,C.base.get? a=some o->G a=some o)(hdx:DX (Mine.z3e G wr h) D₀ D)
  (hlive:∀a∈wr,∃o,h.get? a=some o):RelF C env vars gl own G D m σ s/\DX G D₀ D/\Off env vars G D σ wr:=by
 have up:∀a o,G a=some o->Mine.z3e G wr h a=some o:=λa o e=>by
  by_cases h':a∈wr
  ·rw[(hw a h').1] at e;cases e
  ·rw[z0U h'];exact e
 have none_of:∀a,Mine.z3e G wr h a=none->G a=none:=λa e=>by
  cases q:G a with
  |none=>rfl
  |some o=>rw[up a o q] at e;cases e
 refine⟨⟨⟨R.same,R.bs,λa o e=>R.g a o (up a o e),R.d,hb,R.nd,λa ha=>none_of a (R.offG a ha),R.offD,R.pl,R.sto⟩,R.ok,⟨none_of _ R.offL.1,R.offL.2⟩,R.ns,λi x c h1 h2 h3=> ?_⟩,hdx.less λa g=> ?_,λa ha=> ?_⟩
 ·obtain⟨q1,q2,q3⟩:=R.cl i x c h1 h2 h3
  refine⟨q1,q2,?_⟩
  have hc:c∉wr:=λh=>(hw _ h).2.2.2 (Or.inr ⟨i,x,h1,h2,h3⟩)
  rw[z0U hc] at q3;exact q3
 ·cases q:G a with
  |none=>exact absurd q g
  |some o=>rw[up a o q];exact nofun
 ·obtain⟨o,ho⟩:=hlive a ha
  have hg:Mine.z3e G wr h a=some o:=by rw[z1x ha];exact ho
  refine⟨(hw a ha).1,hdx.off a (hw a ha).2.1 (by rw[hg];exact nofun),λhf=> ?_,(hw a ha).2.2.2⟩
  have:=R.offG a hf;rw[hg] at this;cases this
inductive LoopI(C:Cx)(env:Env)(vars:List Str)(gl:List (Str×V))(own:Bool)(d:Nat)(tgt:Expr)(body:List Stmt)(P:Sto->Prop)(Q:Fl->Loc->Sto->Prop)(G D₁:Gh)(St:Nat->Heap->Prop)(wr:List Addr)(xs:List V)(k:Nat)(s':Shared):Prop
 |mk (i:Nat) (m':Loc) (D':Gh) (σ':Sto):k=xs.length-i->i<=xs.length->DX G D₁ D'->St i s'.heap->RelF C env vars gl own G D' m' σ' s'->Off env vars G D' σ' wr->P σ'->z5X C env vars gl own d tgt body P Q (xs.drop i) m' σ'->LoopI C env vars gl own d tgt body P Q G D₁ St wr xs k s'
theorem IW.lives{tgt:Expr}{I:Addr}{fp wr:List Addr}{D₀:Gh}{xs:List V}{St:Nat->Heap->Prop}(W:IW C A tgt I fp wr D₀ xs St){i:Nat}{h:Heap}(st:St i h):∀a∈wr,∃o,h.get? a=some o:=λa ha=>by
 obtain⟨o,h,_⟩:=W.live i h st a ha
 exact⟨o,h⟩
theorem IW.nf{tgt:Expr}{I:Addr}{fp wr:List Addr}{D₀:Gh}{xs:List V}{St:Nat->Heap->Prop}(W:IW C A tgt I fp wr D₀ xs St){i:Nat}{h:Heap}(st:St i h){a:Addr}{o:Obj}(ha:a∈wr)(e:h.get? a=some o):¬frk o:=by
 obtain⟨o',h',n⟩:=W.live i h st a ha
 rw[e] at h'
 rw[Option.some.inj h'];exact n
theorem IW.go{tgt:Expr}{I:Addr}{fp wr:List Addr}{D₀:Gh}{xs:List V}{St:Nat->Heap->Prop}(W:IW C A tgt I fp wr D₀ xs St){i:Nat}{h₀:Heap}{s₂ s₄:Shared}{P:Sto->Prop}{G₂ D₂ G₄ D₄:Gh}{σ₂ σ₄:Sto}(st₂:St i s₂.heap)(st₀:St 0 h₀)(stay:y2m C D₀ P h₀ fp wr)(R₂:RelC C G₂ D₂ σ₂ s₂)(h₂:Sub D₀ D₂)(p₂:P σ₂)(R₄:RelC C G₄ D₄ σ₄ s₄)(h₄:Sub D₀ D₄)(p₄:P σ₄)(hw:∀b o,b∈wr->s₂.heap.get? b=some o->s₄.heap.get? b=some o):St i s₄.heap:=by
 refine W.frame _ _ _ st₂ λb hb o e=> ?_
 by_cases hbw:b∈wr
 ·exact hw b o hbw e
 ·cases q:h₀.get? b with
  |none=>exact(W.old b hb hbw _ st₀ q).elim
  |some o0=>exact stay _ _ _ _ R₄ h₄ p₄ b hb hbw o (q.trans ((stay _ _ _ _ R₂ h₂ p₂ b hb hbw o0 q).symm.trans e))
theorem z6w{tgt iter:Expr}{body:List Stmt}{p:Pos}{Q:Fl->Loc->Sto->Prop}(h:AI C env vars gl own d iter tgt m σ λxs P σ₁=>z5X C env vars gl own d tgt body P Q xs m σ₁)
  (hs:autoParam (∀x,foldedSetIterable iter env x=pure x) auF):AS C env vars gl own d (exec (.For tgt iter body [] p) env) m σ Q:=λA G D s hA R=>by
 refine wpAny_For (wpAny_mono (h A G D s hA R) (λx s₁ h₁=>wpAny_mono h₁ (λit s₂ h₂=> ?_) λ_ _ e=>e) λ_ _ e=>e) hs
 obtain⟨D₁,σ₁,xs,P,dx₁,⟨I,fp,wr,St,rfl,W,st₀,R₁,off₁,hP₁,stay⟩,hL⟩:=h₂
 have hb:=R.base
 refine codeAny_forLoop_any (LoopI C env vars gl own d tgt body P Q G D₁ St wr xs) ?_ (xs.length-0) ⟨0,m,D₁,σ₁,rfl,Nat.zero_le _,DX.refl _ _,st₀,R₁,off₁,hP₁,hL⟩
 rintro k s' ⟨i,m',D',σ',rfl,hi,dx',st',R',off',hP',hL'⟩
 by_cases hlt:i<xs.length
 ·have hX:xs[i]? =some xs[i]:=List.getElem?_eq_getElem hlt
  rw[List.drop_eq_getElem_cons hlt] at hL'
  refine wpAny_mono (W.item i _ s' _ hX st' λv s₁ hgo=> ?_) (λ_ _ e=>e) λ_ _ e=>e.elim
  refine wpAny_mono (hgo _ λh' tk hitem st₂ kept=> ?_) (λ_ _ e=>e) λ_ _ e=>e.elim
  obtain⟨D₂,dx₂,R₂,hv,offS⟩:=z6K (t:=tk) R' dx'.sub off' kept hitem
  have off₂:=offS wr (W.lives st') off'
  have R₃:=R₂.withW off₂
  refine wpAny_mono (hL' A _ D₂ _ v hA R₃ hv) (λ_ s₃ q₃=> ?_) λ_ _ e=>e.elim
  obtain⟨m₃,D₃,σ₃,dx₃,R₄,hbody⟩:=q₃
  refine wpAny_mono (hbody.run hA R₄ λf s₄ fl m₄ D₄ σ₄ dx₄ hfl R₅ q=> ?_) (λ_ _ e=>e) λ_ _ e=>e.elim
  obtain⟨R₆,dx₆,off₆⟩:=R₅.lessW off₂ hb (dx₃.trans dx₄) (W.lives st₂)
  have cont:(P σ₄/\z5X C env vars gl own d tgt body P Q (xs.drop (i+1)) m₄ σ₄)->∃k',k'<xs.length-i/\LoopI C env vars gl own d tgt body P Q G D₁ St wr xs k' s₄:=λh=>⟨xs.length-(i+1),Nat.sub_lt_sub_left hlt (Nat.lt_succ_self i),i+1,m₄,D₄,σ₄,rfl,hlt,(dx'.trans dx₂).trans dx₆,W.go st₂ st₀ stay R₂.toRelC (dx'.trans dx₂).sub hP' R₆.toRelC ((dx'.trans dx₂).trans dx₆).sub h.1 λb o hb e=>R₅.ge ((z1x hb).trans e) (W.nf st₂ hb e),R₆,off₆,h.1,h.2⟩
  cases f<;>cases fl<;>first|exact hfl.elim|skip
  ·exact cont q
  ·exact⟨.next,m₄,D₄,σ₄,((dx₁.trans dx').trans dx₂).trans dx₆,trivial,R₆,q⟩
  ·exact cont q
  ·exact⟨.ret _,m₄,D₄,σ₄,((dx₁.trans dx').trans dx₂).trans dx₆,hfl,R₆,q⟩
 ·have hie:i=xs.length:=Nat.le_antisymm hi (Nat.not_lt.mp hlt)
  subst hie
  rw[List.drop_length] at hL'
  refine wpAny_mono (W.done s' _ st' λh' tk kept=> ?_) (λ_ _ e=>e) λ_ _ e=>e.elim
  exact wpAny_execs_nil ⟨.next,m',D',σ',dx₁.trans dx',trivial,R'.keepBut tk off' kept,hL'⟩
end
end
section
noncomputable def ownerNames:List String:=["enumerate","zip","dict_itemiterator","dict_reverseitemiterator","odict_iterator","itertools.zip_longest","itertools.pairwise"]
theorem z5O{M:Model}{A:Around}{E:Value->Shared->Prop}{s:Shared}{tgt:Expr}{I:Addr}{v:Value}{o:Obj}{n:String}{Q:Unit->Shared->Prop}
  (ho:s.heap.get? I=some o) (hc:o.cls= .type n) (hn:ownerNames.contains n=false) (h:Q () s):wpAny M A (letOwnedTupleGo tgt (.ref I) v) Q E s:=by
 unfold letOwnedTupleGo
 have key:wpAny M A (match v with
   | .ref a=>(do
    let o <-load I
    match o.cls,o.data with
    | .type n,.fields vs=>
     if(ownerNames.contains n&&vs[0]? ==some (rawInt a))=true then do
      rule "for.unpacks-the-owned-tuple"
      updateField I 0 .none
     else pure ()
    |_,_=>pure ():Sem Unit)
   |_=>pure ()) Q E s:=by
  cases v with
  |ref a=>
   refine wpAny_bind (wpAny_load ho ?_)
   rw[hc]
   cases o.data<;>dsimp only<;>first|exact wpAny_pure h|(rw[hn];exact wpAny_pure h)
  |_=>exact wpAny_pure h
 cases tgt<;>first|exact wpAny_pure h|(cases v<;>first|exact wpAny_pure h|exact key)
section
variable {C:Cx} {env:Env} {vars:List Str} {gl:List (Str×V)} {own:Bool} {d:Nat} {m m':Loc} {σ σ':Sto}
variable {A:Around} {G D D₀ D₁:Gh} {s:Shared} {Q:List V->(Sto->Prop)->Sto->Prop}
theorem IW.ofWalks{tgt:Expr}{I:Addr}{fp wr:List Addr}{n:Nat}{Pw:Nat->Value->Prop}{St:Nat->Heap->Prop}{xs:List V}(W:Walks C.prog C.w A I fp wr n Pw St)(hn:n=xs.length)
  (hx:∀(i:Nat) v X,Pw i v->xs[i]? =some X->VR C.w D v X) (hl:∀i h,St i h->∀a∈wr,∃o,h.get? a=some o/\¬frk o)
  (hold:∀b∈fp,b∉wr->∀h:Heap,St 0 h->h.get? b=none->False)
  (hc:∀i h,St i h->∃o n,h.get? I=some o/\o.cls= .type n/\ownerNames.contains n=false):IW C A tgt I fp wr D xs St where
 live:=hl
 sub:=W.sub
 old:=hold
 frame:=W.frame
 item:=λi X s K hX st h=>W.item i s K _ (by rw[hn];exact(List.getElem?_eq_some_iff.mp hX).1) st λv h' tk hP st' hk=>h v _ λQ' q=>by
  obtain⟨o,nm,ho,hcl,hno⟩:=hc _ _ st'
  exact z5O ho hcl hno (q h' tk (.inl (hx i v X hP hX)) st' hk)
 self:=λi s K st h=>W.self i s K _ st h
 done:=λs K st h=>W.done s K _ (by rw[hn];exact st) λh' tk hk=>h h' tk hk
inductive Has(σ:Sto):V->AO->(Sto->Prop)->Prop
 |lst (xs:List V):Has σ (.lst xs) (.list xs) (λ_=>True)
 |dct (es:List (V×V)):Has σ (.dct es) (.dict es) (λ_=>True)
 |refL {a:Addr} {o:Obj} {xs:List V}:(a,o,AO.list xs)∈σ->Has σ (.ref a) (.list xs) (λσ'=>(a,o,AO.list xs)∈σ')
 |refD {a:Addr} {o:Obj} {es:List (V×V)}:(a,o,AO.dict es)∈σ->Has σ (.ref a) (.dict es) (λσ'=>(a,o,AO.dict es)∈σ')
theorem Has.run{x:V}{ao:AO}{P:Sto->Prop}(h:Has σ x ao P)(R:RelC C G D σ s){v:Value}(hv:VR C.w D v x):
  ∃a o,v= .ref a/\s.heap.get? a=some o/\HR C.w D o ao/\P σ/\∀G' D' σ' (s':Shared),RelC C G' D' σ' s'->Sub D D'->P σ'->s'.heap.get? a=some o:=by
 cases h with
 |lst xs=>obtain⟨_,_,_,rfl,e,r⟩:=VR.lstI hv;exact⟨_,_,rfl,R.d _ _ e,⟨_,_,rfl,by simpa using r⟩,trivial,λG' D' σ' s' R' hs _=>R'.d _ _ (hs _ _ e)⟩
 |dct xs=>obtain⟨_,_,_,rfl,e,r⟩:=VR.dctI hv;exact⟨_,_,rfl,R.d _ _ e,⟨_,_,rfl,by simpa using r⟩,trivial,λG' D' σ' s' R' hs _=>R'.d _ _ (hs _ _ e)⟩
 |refL hm=>apply VR.refE hv;exact⟨_,_,rfl,R.pl _ hm,R.sto _ hm,hm,λG' D' σ' s' R' hs hm'=>R'.pl _ hm'⟩
 |refD hm=>apply VR.refE hv;exact⟨_,_,rfl,R.pl _ hm,R.sto _ hm,hm,λG' D' σ' s' R' hs hm'=>R'.pl _ hm'⟩
theorem Has.isList{x:V}{xs:List V}{P:Sto->Prop}(h:Has σ x (.list xs) P)(R:RelC C G D σ s){v:Value}(hv:VR C.w D v x):
  ∃a vs n,v= .ref a/\s.heap.get? a=some (z0D vs n)/\VRs C.w D vs.toList xs:=by
 obtain⟨a,o,rfl,ho,⟨vs,n,rfl,hr⟩,_⟩:=h.run R hv
 exact⟨a,vs,n,rfl,ho,hr⟩
theorem Has.runLE{x:V}{xs:List V}{P:Sto->Prop}{Z:Value->Prop}(h:Has σ x (.list xs) P)(R:RelC C G D σ s){v:Value}(hv:VR C.w D v x)
  (k:∀a vs n,s.heap.get? a=some (z0D vs n)->VRs C.w D vs.toList xs->P σ->(∀G' D' σ' (s':Shared),RelC C G' D' σ' s'->Sub D D'->P σ'->s'.heap.get? a=some (z0D vs n))->Z (.ref a)):Z v:=by
 obtain⟨a,o,rfl,ho,⟨vs,n,rfl,hr⟩,hP,hst⟩:=h.run R hv
 exact k a vs n ho hr hP hst
theorem Has.isListE{x:V}{xs:List V}{P:Sto->Prop}{Z:Value->Prop}(h:Has σ x (.list xs) P)(R:RelC C G D σ s){v:Value}(hv:VR C.w D v x)(k:∀a vs n,s.heap.get? a=some (z0D vs n)->VRs C.w D vs.toList xs->Z (.ref a)):Z v:=by
 obtain⟨a,vs,n,rfl,ho,hr⟩:=h.isList R hv
 exact k a vs n ho hr
theorem Has.isDictE{x:V}{xs:List (V×V)}{P:Sto->Prop}{Z:Value->Prop}(h:Has σ x (.dict xs) P)(R:RelC C G D σ s){v:Value}(hv:VR C.w D v x)(k:∀a vs n,s.heap.get? a=some (z2m vs n)->Z (.ref a)):Z v:=by
 obtain⟨a,o,rfl,ho,⟨vs,n,rfl,hr⟩,_⟩:=h.run R hv
 exact k a vs n ho
theorem RelF.offNew(R:RelF C env vars gl own G D m σ s)(o:Obj):Off env vars G D σ [s.heap.objs.size]:=λa ha=>by
 simp at ha;subst ha
 refine⟨?_,R.toRelC.new_D,R.toRelC.new_notFoot,λhm=> ?_⟩
 ·exact R.toRelC.new_G
 ·obtain⟨o,e⟩:=R.mineLives hm;exact Nat.lt_irrefl _ (Heap.lt_size e)
theorem RelF.push(R:RelF C env vars gl own G D m σ s)(o:Obj):RelF C env vars gl own G D m σ {s with heap:=s.heap.push o}:=R.back (R.lifted.push o) (DX.refl _ _)
theorem IW.two{tgt:Expr}{I ax:Addr}{n:Nat}{Pw:Nat->Value->Prop}{St:Nat->Heap->Prop}{xs:List V}(W:Walks C.prog C.w A I [I,ax] [I] n Pw St)(hn:n=xs.length)(hx:∀(i:Nat) v X,Pw i v->xs[i]? =some X->VR C.w D v X)
  (hI:∀i h,St i h->∃o n,h.get? I=some o/\o.cls= .type n/\(ownerNames.contains n||n=="#frame")=false) (ha:∀h:Heap,St 0 h->∃o,h.get? ax=some o):IW C A tgt I [I,ax] [I] D xs St:=
 IW.ofWalks W hn hx (λi h st a ha=>by rw[List.mem_singleton.mp ha];obtain⟨o,n,ho,hc,hn⟩:=hI i h st;exact⟨o,ho,nfC (hc▸frN (Bool.or_eq_false_iff.mp hn).2)⟩) (λb hb hbw h st e=>by
  rcases List.mem_cons.mp hb with rfl|hb
  ·exact hbw (.head _)
  ·rw[List.mem_singleton.mp hb] at e;obtain⟨o,ho⟩:=ha h st;rw[ho] at e;cases e) λi h st=>by obtain⟨o,n,a,b,c⟩:=hI i h st;exact⟨o,n,a,b,(Bool.or_eq_false_iff.mp c).1⟩
theorem keep2{P:Sto->Prop}{ax I:Addr}{o x:Obj}(ho:s.heap.get? ax=some o)(hst:∀G' D' σ' (s':Shared),RelC C G' D' σ' s'->Sub D D'->P σ'->s'.heap.get? ax=some o):
  ∀G' D' σ' (s':Shared),RelC C G' D' σ' s'->Sub D D'->P σ'->∀b∈[I,ax],b∉[I]->∀o',(s.heap.push x).get? b=some o'->s'.heap.get? b=some o':=λG' D' σ' s' R' hs hP b hb hbw o' e=>by
 rcases List.mem_cons.mp hb with rfl|hb
 ·exact absurd (.head _) hbw
 ·rw[List.mem_singleton.mp hb] at e⊢
  rw[Heap.get?_push_of_some _ ho] at e;cases e;exact hst G' D' σ' s' R' hs hP
theorem z0W [HM C]{iter tgt:Expr}(h:AT C env vars gl own d (eval iter env) m σ λX σ₁=>∃xs P,Has σ₁ X (.list xs) P/\Q xs P σ₁):AI C env vars gl own d iter tgt m σ Q:=λA G D s hA R=>
 h.run hA R λv s₁ X D₁ σ₁ a b c hpp=>by
  obtain⟨xs,P,hH,q⟩:=hpp
  apply Has.runLE hH c.toRelC b;intro ax vs n ho hr hP hst
  have hl:s₁.heap.IsList ax vs:=⟨_,ho,rfl,n,rfl⟩
  have hne:ax≠s₁.heap.objs.size:=Nat.ne_of_lt (Heap.lt_size ho)
  refine wpAny_pyIter_list hl ⟨D₁,σ₁,xs,P,a,⟨s₁.heap.objs.size,_,_,_,rfl,IW.two (Walks.list hA.hh s₁.heap.objs.size ax hne vs) (by rw[<-hr.length];simp) ?_ (λi h st=>by obtain⟨⟨o,ho,hc,_⟩,_⟩:=st;exact⟨o,_,ho,hc,by decide⟩) (λh st=>by obtain⟨_,o,ho,_⟩:=st;exact⟨o,ho⟩),⟨⟨_,Heap.get?_push_size _ rfl,rfl,rfl⟩,hl.push _⟩,c.push _,c.offNew (z0D #[] 0),hP,keep2 ho hst⟩,q⟩
  ·intro i u X e hX
   obtain⟨u',e',r⟩:=hr.get hX
   rw[Array.getElem?_toList,e] at e';cases e';exact r
theorem z5e [HM C]{iter tgt:Expr}(h:AT C env vars gl own d (eval iter env) m σ λX σ₁=>∃xs,X= .tup xs/\Q xs (λ_=>True) σ₁):AI C env vars gl own d iter tgt m σ Q:=λA G D s hA R=>
 h.run hA R λv s₁ X D₁ σ₁ a b c hpp=>by
  obtain⟨xs,hX,q⟩:=hpp
  subst hX
  obtain⟨ax,o,vs,n,rfl,e,hc,hd,hr⟩:=VR.tupI b
  ·skip
   have ho:=c.d _ _ e
   have ht:s₁.heap.IsTuple ax vs.toArray:=⟨_,ho,hc,n,hd⟩
   have hne:ax≠s₁.heap.objs.size:=Nat.ne_of_lt (Heap.lt_size ho)
   refine wpAny_pyIter_tuple ht ⟨D₁,σ₁,xs,λ_=>True,a,⟨s₁.heap.objs.size,_,_,_,rfl,IW.two (Walks.tuple hA.hh s₁.heap.objs.size ax hne vs.toArray) (by rw[<-hr.length];simp) ?_ (λi h st=>by obtain⟨⟨o,ho,hc,_⟩,_⟩:=st;exact⟨o,_,ho,hc,by decide⟩) (λh st=>by obtain⟨_,o,ho,_⟩:=st;exact⟨o,ho⟩),⟨⟨_,Heap.get?_push_size _ rfl,rfl,rfl⟩,ht.at λo e=>Heap.get?_push_of_some _ e⟩,c.push _,c.offNew (z0D #[] 0),trivial,keep2 ho (λG' D' σ' s' R' hs _=>R'.d _ _ (hs _ _ e))⟩,q⟩
   ·intro i u X e hX
    obtain⟨u',e',r⟩:=hr.get hX
    have e2:vs[i]? =some u:=by simpa using e
    rw[e2] at e';cases e';exact r
noncomputable def z0R(a c:Int)(n:Nat):List V:=(List.range n).map λ(i:Nat)=>V.int (a+(i:Int)*c)
theorem z1u [HM C]{iter tgt:Expr}(h:AT C env vars gl own d (eval iter env) m σ λX σ₁=>∃(a b c:Int) (n:Nat),X= .rng a b c/\Builtin.Range.small a b c=true/\Builtin.Range.rangeSize a b c=(n:Int)/\Q (z0R a c n) (λ_=>True) σ₁):
  AI C env vars gl own d iter tgt m σ Q:=λA G D s hA R=>
 h.run hA R λv s₁ X D₁ σ₁ dx b c hpp=>by
  obtain⟨x,y,z,n,hX,hsm,hsz,q⟩:=hpp
  subst hX
  obtain⟨_,_,_,_,rfl,e⟩:=VR.rngI b
  ·skip
   have ho:=c.d _ _ e
   refine wpAny_pyIter_range ho hsm ⟨D₁,σ₁,_,λ_=>True,dx,⟨s₁.heap.objs.size,_,_,_,rfl,IW.ofWalks (Walks.range hA.hh s₁.heap.objs.size x z n) (by simp[z0R]) ?_ ?_ ?_ ?_,?_,c.push _,c.offNew (z0D #[] 0),trivial,?_⟩,q⟩
   ·rintro i u X ⟨t,rfl⟩ hX
    have hlt:i<n:=by simpa[z0R] using(List.getElem?_eq_some_iff.mp hX).1
    simp[z0R,hlt] at hX
    subst hX
    exact .int _ _
   ·rintro i h st a ha;simp at ha;subst ha;exact⟨_,st,nfC (frN (by decide))⟩
   ·rintro b hb hbw h _ e;exact hbw hb
   ·rintro i h st;exact⟨_,_,st,rfl,by decide⟩
   ·show IsRangeIter _ _ _ _ _
    rw[hsz];simpa using Heap.get?_push_size _ rfl
   ·intro G' D' σ' s' R' hs hP' b hb hbw o' e'
    exact absurd hb hbw
end
end
section
noncomputable def z3i(env:Env):List (Str×NameKind)->List (Str×Addr)->List (Str×Addr)
 |[],acc=>acc
 |(n,k)::r,acc=>if k== .free then(match env.cells.lookup n with
   |some c=>z3i env r ((n,c)::acc)
   |none=>z3i env r acc) else z3i env r acc
theorem z50{sc:Scope}{env:Env}(h:∀x∈sc.names,x.2= .free->∃c,env.cells.lookup x.1=some c):closureFor sc env=pure (z3i env sc.names []):=by
 have key:∀(names:List (Str×NameKind)) (acc:List (Str×Addr)) (f:Str×NameKind->List (Str×Addr)->Sem (ForInStep (List (Str×Addr)))),
   (∀n k a,f (n,k) a=if k== .free then(do let c <-cellOf env n;pure (.yield ((n,c)::a))) else pure (.yield a))->(∀x∈names,x.2= .free->∃c,env.cells.lookup x.1=some c)->
   forIn names acc f=pure (z3i env names acc):=by
  intro names
  induction names with
  |nil=>intro acc f _ _;rw[List.forIn_nil];rfl
  |cons p r ih=>
   obtain⟨n,k⟩:=p
   intro acc f hf hx
   rw[List.forIn_cons,hf]
   unfold z3i
   cases hk:(k==NameKind.free) with
   |false=>
    simp only[Bool.false_eq_true,if_false,pure_bind]
    exact ih acc f hf λx h=>hx x (.tail _ h)
   |true=>
    obtain⟨c,hc⟩:=hx (n,k) (.head _) (beq_iff_eq.mp hk)
    simp only[if_true,cellOf,hc,pure_bind]
    exact ih _ f hf λx h=>hx x (.tail _ h)
 unfold closureFor
 show(forIn sc.names ([]:List (Str×Addr)) _>>=λcs=>pure cs)=_
 rw[key sc.names [] _ (λn k a=>by cases hk:(k==NameKind.free)<;>simp[hk]) h]
 rfl
theorem z3G{env:Env}{n:Str}{c:Addr}:∀{names:List (Str×NameKind)} {acc:List (Str×Addr)},(n,c)∈z3i env names acc->(n,c)∈acc∨((n,NameKind.free)∈names/\env.cells.lookup n=some c)
 |[],_,h=> .inl h
 |(y,k)::r,acc,h=>by
  unfold z3i at h
  cases hk:(k==NameKind.free) with
  |false=>
   rw[hk] at h
   simp only[Bool.false_eq_true,if_false] at h
   exact(z3G h).imp id λq=>⟨.tail _ q.1,q.2⟩
  |true=>
   rw[hk] at h
   simp only[if_true] at h
   cases hc:env.cells.lookup y with
   |none=>rw[hc] at h;exact(z3G h).imp id λq=>⟨.tail _ q.1,q.2⟩
   |some c'=>
    rw[hc] at h
    rcases z3G h with q|q
    ·rcases List.mem_cons.mp q with e|q
     ·cases e;rw[<-beq_iff_eq.mp hk];exact .inr ⟨.head _,hc⟩
     ·exact .inl q
    ·exact .inr ⟨.tail _ q.1,q.2⟩
theorem z3n{env:Env}:∀{names:List (Str×NameKind)} {acc:List (Str×Addr)},(names.map (·.1)).Nodup->(acc.map (·.1)).Nodup->(∀n∈acc.map (·.1),n∉names.map (·.1))->((z3i env names acc).map (·.1)).Nodup
 |[],_,_,h,_=>h
 |(y,k)::r,acc,h1,h2,h3=>by
  have h1':=List.nodup_cons.mp h1
  have h3':∀n∈acc.map (·.1),n∉r.map (·.1):=λn hn q=>h3 n hn (.tail _ q)
  have hy:y∉acc.map (·.1):=λq=>h3 y q (.head _)
  unfold z3i
  split
  ·split
   ·refine z3n h1'.2 (List.nodup_cons.mpr ⟨hy,h2⟩) λn hn=> ?_
    rcases List.mem_cons.mp hn with rfl|hn
    ·exact h1'.1
    ·exact h3' n hn
   ·exact z3n h1'.2 h2 h3'
  ·exact z3n h1'.2 h2 h3'
theorem z4Y{l:List (Str×Addr)}(hn:(l.map (·.1)).Nodup){n:Str}{c:Addr}(h:(n,c)∈l):l.lookup n=some c:=by
 induction l with
 |nil=>cases h
 |cons p r ih=>
  obtain⟨y,b⟩:=p
  have hn':=List.nodup_cons.mp hn
  rcases List.mem_cons.mp h with e|h
  ·cases e;simp[List.lookup_cons]
  ·have hne:n≠y:=λe=>hn'.1 (e▸List.mem_map.mpr ⟨(n,c),h,rfl⟩)
   rw[List.lookup_cons]
   have hb:(n==y)=false:=beq_eq_false_iff_ne.mpr hne
   rw[hb];exact ih hn'.2 h
theorem z4i{env:Env}{n:Str}{c:Addr}:∀{names:List (Str×NameKind)} {acc:List (Str×Addr)},((n,NameKind.free)∈names/\env.cells.lookup n=some c)∨(n,c)∈acc->(n,c)∈z3i env names acc
 |[],_,h=>h.elim (λq=>by cases q.1) id
 |(y,k)::r,acc,h=>by
  unfold z3i
  cases hk:(k==NameKind.free) with
  |false=>
   simp only[Bool.false_eq_true,if_false]
   refine z4i (h.imp (λq=>⟨?_,q.2⟩) id)
   rcases List.mem_cons.mp q.1 with e|e
   ·cases e;exact absurd hk (by decide)
   ·exact e
  |true=>
   simp only[if_true]
   cases hc:env.cells.lookup y with
   |none=>
    refine z4i (h.imp (λq=>⟨?_,q.2⟩) id)
    rcases List.mem_cons.mp q.1 with e|e
    ·cases e;rw[hc] at q;cases q.2
    ·exact e
   |some c'=>
    refine z4i ?_
    rcases h with q|q
    ·rcases List.mem_cons.mp q.1 with e|e
     ·cases e;have q2:=q.2;rw[hc] at q2;cases q2;exact .inr (.head _)
     ·exact .inl ⟨e,q.2⟩
    ·exact .inr (.tail _ q)
theorem z2Y{env:Env}(hf:env.scope.kind= .function):∀{names:List (Str×NameKind)} {x:Str} {k:NameKind},names.lookup x=some k->
  (names.map λ(n,k)=>if(k==NameKind.free&&env.scope.kind== .function&&env.kindOf n==some .cell) then(n,NameKind.cell) else(n,k)).lookup x=some (if k== .free&&env.kindOf x==some .cell then .cell else k)
 |[],_,_,h=>by simp at h
 |(n,k')::r,x,k,h=>by
  rw[List.lookup_cons] at h
  show List.lookup x ((if(k'==NameKind.free&&env.scope.kind== .function&&env.kindOf n==some .cell)=true then(n,NameKind.cell) else(n,k'))::_)=_
  cases hx:x==n with
  |true=>
   rw[hx] at h;cases h
   have e:=beq_iff_eq.mp hx;subst e
   rw[hf]
   by_cases hc:(k'==NameKind.free&&env.kindOf x==some .cell)=true
   ·have hc':(k'==NameKind.free&&(ScopeKind.function==ScopeKind.function)&&env.kindOf x==some .cell)=true:=by simpa using hc
    rw[if_pos hc',if_pos hc];simp
   ·have hc':¬(k'==NameKind.free&&(ScopeKind.function==ScopeKind.function)&&env.kindOf x==some .cell)=true:=by simpa using hc
    rw[if_neg hc',if_neg hc];simp
  |false=>
   rw[hx] at h
   have ih:=z2Y hf h
   by_cases hc:(k'==NameKind.free&&env.scope.kind== .function&&env.kindOf n==some .cell)=true
   ·rw[if_pos hc,List.lookup_cons]
    show(match x==n with|true=>_|false=>_)=_
    rw[hx];exact ih
   ·rw[if_neg hc,List.lookup_cons]
    show(match x==n with|true=>_|false=>_)=_
    rw[hx];exact ih
noncomputable def z2c(sc osc:Scope)(vars locals caps gl:List Str):Bool:=
 sc.kind== .function&&nodupB (sc.names.map (·.1))&&nodupB (locals++caps)&&
 sc.names.all (λp=> !(p.2== .cell)&&(!(p.2== .free)||caps.contains p.1))&&
 locals.all (λx=> !(x==("__debug__":Str))&&sc.names.lookup x==some .local)&&
 caps.all (λx=> !(x==("__debug__":Str))&&sc.names.lookup x==some .free&&osc.names.lookup x==some .cell&&vars.contains x)&&
 gl.all λx=> !(x==("__debug__":Str))&&sc.names.lookup x==some .globalImplicit
inductive Caps:List Str->Loc->List Str->Loc->Prop
 |nil {vars:List Str} {m:Loc}:Caps vars m [] []
 |cons {vars:List Str} {m:Loc} {x:Str} {X:V} {cs:List Str} {ms:Loc}:Lk vars m x X->Caps vars m cs ms->Caps vars m (x::cs) (some X::ms)
 |skip {vars:List Str} {m:Loc} {x:Str} {cs:List Str} {ms:Loc}:Caps vars m cs ms->Caps vars m (x::cs) (none::ms)
theorem Caps.get{vars:List Str}{m:Loc}{cs:List Str}{ms:Loc}(h:Caps vars m cs ms):∀{i:Nat} {x:Str} {X:V},cs[i]? =some x->ms[i]? =some (some X)->Lk vars m x X:=by
 induction h with
 |nil=>intro i x X h;simp at h
 |cons hl _ ih=>
  intro i x X h1 h2
  cases i with
  |zero=>simp at h1 h2;subst h1 h2;exact hl
  |succ i=>exact ih (by simpa using h1) (by simpa using h2)
 |skip _ ih=>
  intro i x X h1 h2
  cases i with
  |zero=>simp at h2
  |succ i=>exact ih (by simpa using h1) (by simpa using h2)
section
variable {C:Cx} {env:Env} {vars:List Str} {gl gl':List (Str×V)} {own:Bool} {d:Nat} {m m':Loc} {σ σ':Sto}
variable {A:Around} {G D D₀ D₁:Gh} {s:Shared}
noncomputable def ATs(C:Cx)(env:Env)(vars:List Str)(gl:List (Str×V))(own:Bool)(d:Nat):List Expr->Loc->Sto->(Bool->Sto->Prop)->Prop
 |[],m,σ,K=>K true σ
 |[c],m,σ,K=>AB C env vars gl own d (isTrue c env (eval c env)) m σ K
 |_,_,_,_=>False
noncomputable def z04(C:Cx)(env:Env)(vars:List Str)(gl:List (Str×V))(d:Nat)(tgt elt:Expr)(ifs:List Expr)(P:Sto->Prop)(Q:List V->Sto->Prop):List V->List V->Loc->Sto->Prop
 |[],acc,m,σ=>Q acc σ
 |X::xs,acc,m,σ=>AA C env vars gl false d (assign tgt env) X m σ λm₁ σ₁=>ATs C env vars gl false d ifs m₁ σ₁ λb σ₂=>
  (b=true->AT C env vars gl false d (eval elt env) m₁ σ₂ λY σ₃=>P σ₃/\z04 C env vars gl d tgt elt ifs P Q xs (acc++[Y]) m₁ σ₃)/\
  (b=false->P σ₂/\z04 C env vars gl d tgt elt ifs P Q xs acc m₁ σ₂)
theorem ATs.run{ifs:List Expr}{K:Bool->Sto->Prop}(h:ATs C env vars gl own d ifs m σ K)(hA:AOk C A d)(R:RelF C env vars gl own G D m σ s):
  wpAny C.M A (forIn ifs true λc r=>if r=true then do let ok <-isTrue c env (eval c env);pure (ForInStep.yield ok) else pure (ForInStep.yield r)) (PostB C env vars gl own G D m K) (λ_ _=>False) s:=by
 match ifs,h with
 |[],h=>exact wpAny_tests_nil ⟨D,σ,DX.refl _ _,R,h⟩
 |[c],h=>exact wpAny_tests_one (h A G D s hA R)
 |_::_::_,h=>exact h.elim
inductive CompI(C:Cx)(env:Env)(vars:List Str)(gl:List (Str×V))(d:Nat)(tgt elt:Expr)(ifs:List Expr)(P:Sto->Prop)(Q:List V->Sto->Prop)(G D:Gh)(St:Nat->Heap->Prop)(acc:Addr)(wr:List Addr)(xs:List V)(k:Nat)(s':Shared):Prop
 |mk (i:Nat) (m':Loc) (D':Gh) (σ':Sto) (ys:List V) (vs:Array Value) (n:Nat):k=xs.length+1-i->i<=xs.length->ys.length<=i->DX G D D'->St i s'.heap->RelF C env vars gl false G D' m' σ' s'->Off env vars G D' σ' (acc::wr)->P σ'->
  s'.heap.get? acc=some (z0D vs n)->VRs C.w D' vs.toList ys->z04 C env vars gl d tgt elt ifs P Q (xs.drop i) ys m' σ'->CompI C env vars gl d tgt elt ifs P Q G D St acc wr xs k s'
theorem y0i{elt tgt iter:Expr}{ifs:List Expr}{scope:Scope}{pos:Pos}{I acc:Addr}{fp wr:List Addr}{xs:List V}{St:Nat->Heap->Prop}{P:Sto->Prop}{Q:List V->Sto->Prop}
  {R':Result->Shared->Prop} (W:IW C A tgt I fp wr D₀ xs St) (hA:AOk C A d) (hsz:xs.length<=sizeLine) (hst:St 0 s.heap) (R:RelF C env vars gl false G D m σ s) (hD:Sub D₀ D)
  (hoff:Off env vars G D σ (acc::wr)) (haw:acc∉wr) (haf:acc∉fp) (hacc:s.heap.get? acc=some (z0D #[] 0)) (hP:P σ) (hstay:y2m C D₀ P s.heap fp wr)
  (hL:z04 C env vars gl d tgt elt ifs P Q xs [] m σ)
  (hQ:∀s' D' σ' m' vs n ys,DX G D D'->RelF C env vars gl false G D' m' σ' s'->Off env vars G D' σ' [acc]->s'.heap.get? acc=some (z0D vs n)->VRs C.w D' vs.toList ys->Q ys σ'->R' (.ok .next) s'):
  codeAny C.M A (.compLoop (.ListComp elt [⟨tgt,iter,ifs,0⟩] scope pos) 0 (.ref I) (.ref acc) env) R' s:=by
 refine codeAny_loop rfl (CompI C env vars gl d tgt elt ifs P Q G D St acc wr xs) ?_ (xs.length+1-0)
  ⟨0,m,D,σ,[],#[],0,rfl,Nat.zero_le _,Nat.zero_le _,DX.refl _ _,hst,R,hoff,hP,hacc,.nil,hL⟩
 rintro k s' ⟨i,m',D',σ',ys,vs,n,rfl,hi,hys,dx',st',R₁,off',hP',hac',hvs',hL'⟩
 show wpAny _ A ((compTurn (.ListComp elt [⟨tgt,iter,ifs,0⟩] scope pos) 0 (.ref I) (.ref acc) env).onRaise (λx=>do noteFrame x env;theTreesLotGoes x)) _ _ s'
 refine wpAny_noted ?_
 rw[compTurn_list]
 refine wpAny_bind (wpAny_standAt (wpAny_bind ?_))
 have offw:Off env vars G D' σ' wr:=λa ha=>off' a (.tail _ ha)
 by_cases hlt:i<xs.length
 ·have hX:xs[i]? =some xs[i]:=List.getElem?_eq_getElem hlt
  rw[List.drop_eq_getElem_cons hlt] at hL'
  refine wpAny_mono (W.item i _ s' _ hX st' λv s₁ hgo=> ?_) (λ_ _ e=>e) λ_ _ e=>e.elim
  refine wpAny_bind (wpAny_mono (hgo _ λh' tk hitem st₂ kept=> ?_) (λ_ _ e=>e) λ_ _ e=>e.elim)
  obtain⟨D₂,dx₂,R₂,hv,offS⟩:=z6K (t:=tk) R₁ (hD.trans dx'.sub) offw kept hitem
  have hac₂:h'.get? acc=some (z0D vs n):=kept acc _ haw hac'
  have offa:Off env vars G D₂ σ' (acc::wr):=offS _ (λa ha=>by
   rcases List.mem_cons.mp ha with rfl|ha
   ·exact⟨_,hac'⟩
   ·exact W.lives st' a ha) off'
  have R₃:=R₂.withW offa
  have live₂:∀a∈acc::wr,∃o,h'.get? a=some o:=λa ha=>by
   rcases List.mem_cons.mp ha with rfl|ha
   ·exact⟨_,hac₂⟩
   ·exact W.lives st₂ a ha
  have stOk:∀{G₅ D₅ σ₅ m₅} {s₅:Shared},RelF C env vars gl false (z3e G (acc::wr) h') D₅ m₅ σ₅ s₅->Sub D₀ D₅->P σ₅->RelC C G₅ D₅ σ₅ s₅->St (i+1) s₅.heap:=λR₅ hs₅ hP₅ RC₅=>W.go st₂ hst hstay R₂.toRelC ((hD.trans dx'.sub).trans dx₂.sub) hP' RC₅ hs₅ hP₅ λb o hb e=>R₅.ge ((z1x (.tail _ hb)).trans e) (W.nf st₂ hb e)
  refine wpAny_bind (wpAny_mono (hL' A _ D₂ _ v hA R₃ hv) (λ_ s₃ q₃=> ?_) λ_ _ e=>e.elim)
  obtain⟨m₃,D₃,σ₃,dx₃,R₄,htests⟩:=q₃
  refine wpAny_bind (wpAny_mono (htests.run hA R₄) (λok s₄ q₄=> ?_) λ_ _ e=>e.elim)
  obtain⟨D₄,σ₄,dx₄,R₅,q₅⟩:=q₄
  cases ok with
  |false=>
   obtain⟨hP₅,hL₅⟩:=q₅.2 rfl
   obtain⟨R₆,dx₆,off₆⟩:=R₅.lessW offa R.base (dx₃.trans dx₄) live₂
   have hac₅:s₄.heap.get? acc=some (z0D vs n):=R₅.ge ((z1x (.head _)).trans hac₂) (nfC (frN (by decide)))
   have hsub:Sub D' D₄:=(dx₂.trans dx₆).sub
   exact wpAny_pure ⟨rfl,xs.length+1-(i+1),Nat.sub_lt_sub_left (Nat.lt_succ_of_lt hlt) (Nat.lt_succ_self i),i+1,m₃,D₄,σ₄,ys,vs,n,rfl,hlt,Nat.le_succ_of_le hys,(dx'.trans dx₂).trans dx₆,stOk R₅ ((hD.trans dx'.sub).trans hsub) hP₅ R₆.toRelC,R₆,off₆,hP₅,hac₅,hvs'.mono hsub,hL₅⟩
  |true=>
   refine wpAny_bind (wpAny_bind ((q₅.1 rfl).run hA R₅ λy s₅ Y D₅ σ₅ dx₅ hy R₆ q₆=> ?_) |> λh=>wpAny_mono h (λ_ _ e=>e) λ_ _ e=>e.elim)
   obtain⟨hP₆,hL₆⟩:=q₆
   obtain⟨R₇,dx₇,off₇⟩:=R₆.lessW offa R.base ((dx₃.trans dx₄).trans dx₅) live₂
   have hac₅:s₅.heap.get? acc=some (z0D vs n):=R₆.ge ((z1x (.head _)).trans hac₂) (nfC (frN (by decide)))
   have hsub:Sub D' D₅:=(dx₂.trans dx₇).sub
   have hvs₅:=hvs'.mono hsub
   have hvl:vs.size=ys.length:=by rw[<-hvs₅.length];simp
   refine wpAny_bind (wpAny_list_append_plain (hsz:=Nat.le_trans (Nat.le_of_eq hvl) (Nat.le_trans hys (Nat.le_trans hi hsz))) ⟨n,hac₅⟩ λh₆ hl₆ hs₆=> ?_)
   obtain⟨n₆,hl₆⟩:=hl₆
   have R₈:RelF C env vars gl false G D₅ m₃ σ₅ {s₅ with heap:=h₆}:=by
    have:=R₇.keepBut (h':=h₆) s₅.toks (wr:=[acc]) (λa ha=>by simp at ha;subst ha;exact off₇ a (.head _)) λb o hb e=>hs₆.extBut b o (by simpa using hb) e
    exact this
   have st₇:=stOk (s₅:=s₅) R₆ ((hD.trans dx'.sub).trans hsub) hP₆ R₇.toRelC
   refine wpAny_pure (wpAny_pure ⟨rfl,xs.length+1-(i+1),Nat.sub_lt_sub_left (Nat.lt_succ_of_lt hlt) (Nat.lt_succ_self i),i+1,m₃,D₅,σ₅,ys++[Y],vs.push y,n₆,rfl,hlt,by rw[List.length_append];exact Nat.succ_le_succ hys,(dx'.trans dx₂).trans dx₇,?_,R₈,off₇,hP₆,hl₆,?_,hL₆⟩)
   ·refine W.frame _ _ _ st₇ λb hb o e=>hs₆.extBut b o ?_ e
    rintro rfl
    exact haf hb
   ·rw[Array.toList_push]
    exact hvs₅.append (.cons hy .nil)
 ·have hie:i=xs.length:=Nat.le_antisymm hi (Nat.not_lt.mp hlt)
  subst hie
  rw[List.drop_length] at hL'
  refine wpAny_mono (W.done s' _ st' λh' tk kept=> ?_) (λ_ _ e=>e) λ_ _ e=>e.elim
  refine wpAny_pure (hQ _ D' σ' m' vs n ys dx' (R₁.keepBut tk offw kept) (λa ha=>off' a (by simp at ha;subst ha;exact .head _)) (kept acc _ haw hac') hvs' hL')
end
end
section
section
variable {C:Cx} {env:Env} {vars:List Str} {gl gl':List (Str×V)} {own:Bool} {d:Nat} {m m':Loc} {σ σ':Sto}
variable {A:Around} {G D D₀ D₁:Gh} {s:Shared}
theorem RelC.addL(R:RelC C G D σ s){a:Addr}{vs:Array Value}{n:Nat}{ys:List V}(h1:G a=none)(h2:D a=none)(h3:a∉foot σ)(ho:s.heap.get? a=some (z0D vs n))(hr:VRs C.w D vs.toList ys):
  RelC C G D ((a,z0D vs n,.list ys)::σ) s where
 same:=R.same
 bs:=R.bs
 g:=R.g
 d:=R.d
 base:=R.base
 nd:=List.nodup_cons.mpr ⟨h3,R.nd⟩
 offG:=λb hb=>by
  rcases List.mem_cons.mp hb with rfl|hb
  ·exact h1
  ·exact R.offG b hb
 offD:=λb hb=>by
  rcases List.mem_cons.mp hb with rfl|hb
  ·exact h2
  ·exact R.offD b hb
 pl:=λp hp=>by
  rcases List.mem_cons.mp hp with rfl|hp
  ·exact ho
  ·exact R.pl p hp
 sto:=λp hp=>by
  rcases List.mem_cons.mp hp with rfl|hp
  ·exact⟨vs,n,rfl,hr⟩
  ·exact R.sto p hp
inductive CompN(C:Cx)(env:Env)(vars:List Str)(gl':List (Str×V))(scope:Scope)(locals caps:List Str):Prop
 |mk:scope.kind= .function->(∀x∈scope.names,x.2≠ .cell)->closureFor scope env=pure (z3i env scope.names [])->(∀x∈scope.names,x.2= .local->scope.names.lookup x.1=some .local)->
  (∀E:Env,E.scope=relabel scope env->E.cells=z3i env scope.names []->E.globals=env.globals->E.builtins=env.builtins->(∀y k,scope.names.lookup y=some k->E.kindOf y=some (if k== .free&&env.kindOf y==some .cell then .cell else k))->
   FmOk C E (locals++caps) gl' false/\(∀x∈locals,E.kindOf x=some .local)/\(∀x∈caps,E.kindOf x=some .cell)/\∀x∈caps,∀c,E.cells.lookup x=some c->∃i:Nat,vars[i]? =some x/\env.kindOf x=some .cell/\env.cells.lookup x=some c)->CompN C env vars gl' scope locals caps
theorem z6l{α:Type}{x:Str×α}:∀{l:List (Str×α)},(l.map (·.1)).Nodup->x∈l->l.lookup x.1=some x.2
 |p::r,hn,hm=>by
  have hn':=List.nodup_cons.mp hn
  rcases List.mem_cons.mp hm with rfl|hm'
  ·rw[List.lookup_cons,beq_self_eq_true]
  ·rw[List.lookup_cons,beq_eq_false_iff_ne.mpr λq=>hn'.1 (List.mem_map.mpr ⟨x,hm',q⟩)];exact z6l hn'.2 hm'
theorem z8D{scope:Scope}{locals caps:List Str}(ok:FmOk C env vars gl own)(hok:z2c scope env.scope vars locals caps (gl'.map (·.1))=true)(hgl:∀p∈gl',z0j C p.1 p.2):CompN C env vars gl' scope locals caps:=by
 simp only[z2c,Bool.and_eq_true,Bool.not_eq_true',beq_iff_eq,Bool.or_eq_true] at hok
 obtain⟨⟨⟨⟨⟨⟨k1,k2⟩,k3⟩,k4⟩,k5⟩,k6⟩,k7⟩:=hok
 have ndN:(scope.names.map (·.1)).Nodup:=nodupB_ok k2
 have hloc:∀x∈locals,(x==("__debug__":Str))=false/\scope.names.lookup x=some .local:=λx hx=>by
  have:=List.all_eq_true.mp k5 x hx
  simpa only[Bool.and_eq_true,Bool.not_eq_true',beq_iff_eq] using this
 have hcap:∀x∈caps,((x==("__debug__":Str))=false/\scope.names.lookup x=some .free)/\env.kindOf x=some .cell/\∃i c,vars[i]? =some x/\env.cells.lookup x=some c:=λx hx=>by
  have:=List.all_eq_true.mp k6 x hx
  simp only[Bool.and_eq_true,Bool.not_eq_true',beq_iff_eq,List.contains_iff_mem] at this
  have h3:env.kindOf x=some .cell:=this.1.2
  obtain⟨i,hi⟩:=List.mem_iff_getElem?.mp this.2
  rcases(ok.vk x this.2).2 with e|⟨_,c,hc⟩
  ·exact nomatch h3.symm.trans e
  ·exact⟨this.1.1,h3,i,c,hi,hc⟩
 have clNd:((z3i env scope.names []).map (·.1)).Nodup:=z3n ndN .nil (λn hn=>by cases hn)
 have clM:∀x c,(x,c)∈z3i env scope.names []->env.cells.lookup x=some c:=λx c e=>((z3G e).resolve_left λq=>nomatch q).2
 refine⟨k1,λx hx e=> ?_,z50 λx hx e=> ?_,λx hx e=>by rw[z6l ndN hx,e],λE eS eC eG eB eK=> ?_⟩
 ·have:=List.all_eq_true.mp k4 x hx
  simp[e] at this
 ·have:=List.all_eq_true.mp k4 x hx
  obtain⟨_,_,_,c,_,hc⟩:=hcap x.1 (by simpa[e] using this)
  exact⟨c,hc⟩
 have nl:∀x∈locals,E.kindOf x=some .local:=λx hx=>by rw[eK x _ (hloc x hx).2];rfl
 have nc:∀x∈caps,E.kindOf x=some .cell:=λx hx=>by rw[eK x _ (hcap x hx).1.2,(hcap x hx).2.1];rfl
 refine⟨⟨eS▸k1,nodupB_ok k3,λx hx=> ?_,?_,λp hp=> ?_,eG.trans ok.gg,eB.trans ok.gb⟩,nl,nc,λx hx c hc=> ?_⟩
 ·rcases List.mem_append.mp hx with hx|hx
  ·exact⟨(hloc x hx).1,.inl (nl x hx)⟩
  ·obtain⟨h1,_,_,c,_,hc⟩:=hcap x hx
   exact⟨h1.1,.inr ⟨nc x hx,c,by rw[eC];exact z4Y clNd (z4i (.inl ⟨mem_of_lookup h1.2,hc⟩))⟩⟩
 ·rw[eC]
  exact(List.pairwise_map.mp clNd).imp_of_mem λ{x y} hx hy hne e=>hne (name_of_addr ok.ap (mem_of_lookup (clM _ _ hx)) (e▸mem_of_lookup (clM _ _ hy)))
 ·have:=List.all_eq_true.mp k7 p.1 (List.mem_map_of_mem hp)
  simp only[Bool.and_eq_true,Bool.not_eq_true',beq_iff_eq] at this
  exact⟨this.1,by rw[eK _ _ this.2];rfl,hgl p hp⟩
 ·obtain⟨_,h2,i,_,hi,_⟩:=hcap x hx
  exact⟨i,hi,h2,clM x c (mem_of_lookup (eC▸hc))⟩
section
variable {E:Env} {locals caps:List Str} {ms:Loc} {s₂ s':Shared}
theorem y0Y(hcaps:Caps vars m caps ms){i:Nat}{x:Str}{X:V}(e1:(locals++caps)[i]? =some x)(e3:((locals.map λ_=>(none:Option V))++ms)[i]? =some (some X)):x∈caps/\Lk vars m x X:=by
 rw[List.getElem?_append] at e1 e3
 rw[List.length_map] at e3
 by_cases hi:i<locals.length
 ·rw[if_pos hi,List.getElem?_map] at e3
  exact nomatch (Option.map_eq_some_iff.mp e3).choose_spec.2
 ·rw[if_neg hi] at e1 e3
  exact⟨List.mem_of_getElem? e1,hcaps.get e1 e3⟩
theorem y3L(nl:∀x∈locals,E.kindOf x=some .local){i:Nat}{x:Str}(e1:(locals++caps)[i]? =some x)(e2:E.kindOf x=some .cell):x∈caps:=
 (List.mem_append.mp (List.mem_of_getElem? e1)).resolve_left λh=>nomatch (nl x h).symm.trans e2
theorem RelF.dead(R:RelF C env vars gl own G D m σ s₂){b:Addr}(h:s₂.heap.get? b=none):z2l env vars G s₂ b=none/\D b=none/\b∉foot σ/\¬z27 env vars b:=
 have no:∀{x:Option Obj},(∀o,x=some o->s₂.heap.get? b=some o)->x=none:=λ{x} k=>Option.eq_none_iff_forall_not_mem.mpr λo e=>nomatch h.symm.trans (k o e)
 ⟨R.lifted.noG (λo e=>(nomatch h.symm.trans e)),no (R.d b),λhf=>by obtain⟨o,e⟩:=R.toRelC.footLives hf;exact(nomatch h.symm.trans e),λhm=>by obtain⟨o,e⟩:=R.mineLives hm;exact nomatch h.symm.trans e⟩
theorem y1E{mm:Str->Option Value}(R:RelF C env vars gl own G D m σ s₂)(ok:FmOk C E (locals++caps) gl' false)(hcaps:Caps vars m caps ms)(nl:∀x∈locals,E.kindOf x=some .local)(nc:∀x∈caps,E.kindOf x=some .cell)(ce:∀x∈caps,∀c,E.cells.lookup x=some c->∃i:Nat,vars[i]? =some x/\env.kindOf x=some .cell/\env.cells.lookup x=some c)
  (same:∃h tk,s'={C.s₀ with heap:=h,toks:=tk}) (kp:∀b o,s₂.heap.get? b=some o->s'.heap.get? b=some o) (dead:s₂.heap.get? E.locals=none) (hns:s'.heap.Ns E.locals mm):RelF C E (locals++caps) gl' false (z2l env vars G s₂) D ((locals.map λ_=>none)++ms) σ s' where
 toRelC:=⟨same,λb o e=>kp b o (R.bs b o e),λb o e=>R.lifted.g' e λ_=>kp b _,λb o e=>kp b o (R.d b o e),R.lifted.base,R.nd,R.lifted.offG,R.offD,λp hp=>(R.pl p hp).at λb _ ob e=>kp b ob e,R.sto⟩
 ok:=ok
 offL:=have h:=R.dead dead;⟨h.1,h.2.1,h.2.2.1⟩
 ns:=⟨mm,hns,λi x X e1 e2 e3=>nomatch (nc x (y0Y hcaps e1 e3).1).symm.trans e2⟩
 cl:=λi x c e1 e2 e3=>by
  obtain⟨i0,g1,g2,hc⟩:=ce x (y3L nl e1 e2) c e3
  obtain⟨q1,⟨ov,q2,q3⟩,q4⟩:=R.cl i0 x c g1 g2 hc
  obtain⟨oc,hoc,_⟩:=id q2
  exact⟨λe=>(nomatch dead.symm.trans (show s₂.heap.get? E.locals=some oc from e▸hoc)),⟨ov,q2.keeps kp,λX e4=>by obtain⟨j,hj1,hj2⟩:=(y0Y hcaps e1 e4).2.get;exact q3 X (z6q R.ok.nd hj1 g1▸hj2)⟩,oc,by rw[z1G (Or.inr ⟨i0,x,g1,g2,hc⟩) q1];exact hoc⟩
theorem y0z{acc:Addr}{wr:List Addr}(R:RelF C env vars gl own G D m σ s₂)(nl:∀x∈locals,E.kindOf x=some .local)(ce:∀x∈caps,∀c,E.cells.lookup x=some c->∃i:Nat,vars[i]? =some x/\env.kindOf x=some .cell/\env.cells.lookup x=some c)
  (hne:acc≠E.locals) (dead:s₂.heap.get? E.locals=none) (dead':s₂.heap.get? acc=none) (off:Off env vars G D σ wr) (live:∀a∈wr,∃o,s₂.heap.get? a=some o):Off E (locals++caps) (z2l env vars G s₂) D σ (acc::wr):=λa ha=>by
 have key:a≠E.locals->¬z27 env vars a->¬z27 E (locals++caps) a:=λh1 h2 h=>by
  rcases h with e|⟨i,x,e1,e2,e3⟩
  ·exact h1 e
  ·obtain⟨i0,g1,g2,hc⟩:=ce x (y3L nl e1 e2) a e3
   exact h2 (Or.inr ⟨i0,x,g1,g2,hc⟩)
 rcases List.mem_cons.mp ha with rfl|ha
 ·have h:=R.dead dead'
  exact⟨h.1,h.2.1,h.2.2.1,key hne h.2.2.2⟩
 ·have q:=off a ha
  refine⟨by rw[z1R q.2.2.2];exact q.1,q.2.1,q.2.2.1,key (λe=> ?_) q.2.2.2⟩
  obtain⟨o,h⟩:=live a ha
  exact nomatch dead.symm.trans (show s₂.heap.get? E.locals=some o from e▸h)
end
theorem y17{E:Env}{elt tgt iter:Expr}{ifs:List Expr}{scope:Scope}{pos:Pos}{locals caps:List Str}{ms:Loc}{use:Option (Value->Sem Unit)}{K:Value->Shared->Prop}{Q:List V->Sto->Prop}{acc I:Addr}{fp wr:List Addr}{St:Nat->Heap->Prop}{xs:List V}{P:Sto->Prop}{s₂ s':Shared}{mm:Str->Option Value}
  (hA:AOk C A d) (R:RelF C env vars gl own G D m σ s₂) (ok:FmOk C E (locals++caps) gl' false) (hcaps:Caps vars m caps ms) (nl:∀x∈locals,E.kindOf x=some .local) (nc:∀x∈caps,E.kindOf x=some .cell) (ce:∀x∈caps,∀c,E.cells.lookup x=some c->∃i:Nat,vars[i]? =some x/\env.kindOf x=some .cell/\env.cells.lookup x=some c)
  (same:∃h tk,s'={C.s₀ with heap:=h,toks:=tk}) (kp:∀b o,s₂.heap.get? b=some o->s'.heap.get? b=some o) (dead:s₂.heap.get? E.locals=none) (dead':s₂.heap.get? acc=none) (hne:acc≠E.locals) (hns:s'.heap.Ns E.locals mm) (hacc:s'.heap.get? acc=some (z0D #[] 0))
  (W:IW C A tgt I fp wr D xs St) (st₀:St 0 s₂.heap) (off:Off env vars G D σ wr) (hP:P σ) (stay:y2m C D P s₂.heap fp wr) (hsz:xs.length<=sizeLine) (hL:z04 C E (locals++caps) gl' d tgt elt ifs P Q xs [] ((locals.map λ_=>none)++ms) σ)
  (hK:∀s' D' σ' vs n ys mm,DX G D D'->RelF C env vars gl own G D' m ((acc,z0D vs n,.list ys)::σ') s'->Off env vars G D' ((acc,z0D vs n,.list ys)::σ') [E.locals]->s'.heap.Ns E.locals mm->Q ys σ'->compPost C.M A (λ_ _=>False) use K (.ref acc) E.locals (.ok .next) s'):
  codeAny C.M A (.compStart (.ListComp elt [⟨tgt,iter,ifs,0⟩] scope pos) 0 (.ref I) (.ref acc) E) (compPost C.M A (λ_ _=>False) use K (.ref acc) E.locals) s':=by
 have stA:St 0 s'.heap:=W.frame _ _ _ st₀ λb _ o e=>kp b o e
 have haw:acc∉wr:=λhw=>by obtain⟨o,e⟩:=W.lives st₀ acc hw;exact nomatch dead'.symm.trans e
 have loop:codeAny C.M A (.compLoop (.ListComp elt [⟨tgt,iter,ifs,0⟩] scope pos) 0 (.ref I) (.ref acc) E) (compPost C.M A (λ_ _=>False) use K (.ref acc) E.locals) s':=by
  refine y0i W hA hsz stA (y1E R ok hcaps nl nc ce same kp dead hns) (Sub.refl _) (y0z R nl ce hne dead dead' off (W.lives st₀)) haw (λhf=>W.old acc hf haw _ st₀ dead') hacc hP (λG' D' σ' s' R' hs' hP' b hb hbw o e=> ?_) hL λs' D' σ' m'' vs n ys dx' RF' off' ho' hvs' hq'=> ?_
  ·cases q:s₂.heap.get? b with
   |none=>exact(W.old b hb hbw _ st₀ q).elim
   |some o0=>exact stay G' D' σ' s' R' hs' hP' b hb hbw o (q.trans ((kp b o0 q).symm.trans e))
  ·have oa:=off' acc (.head _)
   have hl:=RF'.offL
   obtain⟨mm,hmm,_⟩:=RF'.ns
   refine hK s' D' σ' vs n ys mm (R.dx dx') (R.back (RF'.toRelC.addL oa.1 oa.2.1 oa.2.2.1 ho' hvs') dx') (λa ha=> ?_) hmm hq'
   rw[List.mem_singleton.mp ha]
   refine⟨R.overN hl.1,hl.2.1,λhf=> ?_,(R.dead dead).2.2.2⟩
   rcases List.mem_cons.mp hf with e|hf
   ·exact hne e.symm
   ·exact hl.2.2 hf
 exact codeAny_compStart_list loop (wpAny_mono (W.self 0 _ _ stA loop) (λ_ _ e=>e) λ_ _ e=>e.elim)
theorem z5k{elt tgt iter:Expr}{ifs:List Expr}{scope:Scope}{pos pos':Pos}{locals caps:List Str}{ms:Loc}{use:Option (Value->Sem Unit)}{K:Value->Shared->Prop}{Q:List V->Sto->Prop}
  (hA:AOk C A d) (R:RelF C env vars gl own G D m σ s) (hok:z2c scope env.scope vars locals caps (gl'.map (·.1))=true) (hgl:∀p∈gl',z0j C p.1 p.2) (hcaps:Caps vars m caps ms)
  (h:AI C env vars gl own d iter tgt m σ λxs P σ₁=>xs.length<=sizeLine/\∀env',env'.scope=relabel scope env->z04 C env' (locals++caps) gl' d tgt elt ifs P Q xs [] ((locals.map λ_=>none)++ms) σ₁)
  (hs:∀x,foldedSetIterable iter env x=pure x)
  (hK:∀s' D' σ' a vs n ys L mm,DX G D D'->RelF C env vars gl own G D' m ((a,z0D vs n,.list ys)::σ') s'->Off env vars G D' ((a,z0D vs n,.list ys)::σ') [L]->s'.heap.Ns L mm->Q ys σ'->compPost C.M A (λ_ _=>False) use K (.ref a) L (.ok .next) s'):
  wpAny C.M A (comprehension (.ListComp elt [⟨tgt,iter,ifs,0⟩] scope pos) scope env pos' (newList []) false (eval iter env) use) K (λ_ _=>False) s:=by
 obtain⟨k1,hnc,hclos,hlk,hE⟩:=z8D R.ok hok hgl
 refine wpAny_comprehension_free (g:=⟨tgt,iter,ifs,0⟩) (gs:=[]) rfl hs hclos k1 hlk (wpAny_mono (h A G D s hA R) (λx s₁ h₁=>wpAny_mono h₁ (λit s₂ h₂=> ?_) λ_ _ e=>e) λ_ _ e=>e)
 obtain⟨D₁,σ₁,xs,P,dx₁,⟨I,fp,wr,St,rfl,W,st₀,R₁,off₁,hP₁,stay⟩,hsz,hL⟩:=h₂
 refine wpAny_newList (items:=[]) (wpAny_newFunctionEnv hnc (λy hy=>nomatch hy) (λh₁ hns hsb=> ?_) k1) (Nat.zero_le _)
 obtain⟨ok,nl,nc,ce⟩:=hE {(newEnv scope (s₂.heap.push (z0D #[] 0)).objs.size env.globals (z3i env scope.names []) env.qual none .none (some env) builtinsNs) with scope:=relabel scope env} rfl rfl rfl (R.ok.gb.symm▸rfl) λy k e=>z2Y R.ok.fn e
 have hsz':(s₂.heap.push (z0D #[] 0)).objs.size=s₂.heap.objs.size+1:=Heap.size_push ..
 have dead:∀b,s₂.heap.objs.size<=b->s₂.heap.get? b=none:=λb hb=>Option.eq_none_iff_forall_not_mem.mpr λo e=>absurd (Heap.lt_size e) (Nat.not_lt.mpr hb)
 have kp:∀b o,b<=s₂.heap.objs.size->(s₂.heap.push (z0D #[] 0)).get? b=some o->h₁.get? b=some o:=λb o hb e=>hsb.extBut b o (show b≠(s₂.heap.push (z0D #[] 0)).objs.size from hsz'▸Nat.ne_of_lt (Nat.lt_succ_of_le hb)) (Heap.get?_push_of_some _ e)
 refine y17 hA R₁ ok hcaps nl nc ce (by obtain⟨h0,t0,e⟩:=R₁.same;exact⟨h₁,_,by rw[e]⟩) (λb o e=>kp b o (Nat.le_of_lt (Heap.lt_size e)) (Heap.get?_push_of_some _ e)) (dead _ (Nat.le_of_lt (hsz'▸Nat.lt_succ_self _))) (dead _ (Nat.le_refl _)) (show s₂.heap.objs.size≠(s₂.heap.push (z0D #[] 0)).objs.size from hsz'▸Nat.ne_of_lt (Nat.lt_succ_self _)) hns (kp _ _ (Nat.le_refl _) (Heap.get?_push_size _ rfl)) W st₀ off₁ hP₁ stay hsz (hL _ rfl) λs' D' σ' vs n ys mm dx RF off hn q=>hK s' D' σ' _ vs n ys _ mm (dx₁.trans dx) RF off hn q
end
end
section
section
variable {C:Cx} {env:Env} {vars:List Str} {gl gl':List (Str×V)} {own:Bool} {d:Nat} {m m':Loc} {σ σ':Sto}
variable {A:Around} {G D D₀ D₁:Gh} {s:Shared} {P:V->Sto->Prop}
theorem RelF.freeze{a:Addr}{o:Obj}{xs:List V}{u v:Sto}(R:RelF C env vars gl own G D m (u++(a,o,.list xs)::v) s):
  RelF C env vars gl own G (z2r D a o) m (u++v) s/\DX G D (z2r D a o)/\VR C.w (z2r D a o) (.ref a) (.lst xs):=by
 obtain⟨h1,h2,h3⟩:=R.lifted.freezeL rfl
 exact⟨R.back h1 h2,R.dx h2,h3⟩
theorem z8v{elt tgt iter:Expr}{ifs:List Expr}{scope:Scope}{pos:Pos}(locals caps:List Str)(gl':List (Str×V)){ms:Loc}
  (hok:z2c scope env.scope vars locals caps (gl'.map (·.1))=true) (hgl:∀p∈gl',z0j C p.1 p.2) (hcaps:Caps vars m caps ms)
  (h:AI C env vars gl own d iter tgt m σ λxs Pp σ₁=>xs.length<=sizeLine/\∀env',env'.scope=relabel scope env->
   z04 C env' (locals++caps) gl' d tgt elt ifs Pp (λys σ₂=>P (.lst ys) σ₂) xs [] ((locals.map λ_=>none)++ms) σ₁)
  (hs:autoParam (∀x,foldedSetIterable iter env x=pure x) auF):
  AT C env vars gl own d (eval (.ListComp elt [⟨tgt,iter,ifs,0⟩] scope pos) env) m σ P:=λA G D s hA R=>by
 rw[eval_ListComp]
 refine z5k hA R hok hgl hcaps h hs λs' D' σ' a vs n ys L mm dx RO off hns q=> ?_
 refine⟨mm,hns,λh' hs'=> ?_⟩
 have R1:RelF C env vars gl own G D' m ((a,z0D vs n,.list ys)::σ') {s' with heap:=h'}:=by
  have:=RO.keepBut (h':=h') s'.toks off λb o hb e=>hs'.extBut b o (by simpa using hb) e
  exact this
 obtain⟨R2,dx2,hv⟩:=RelF.freeze (u:=[]) R1
 exact⟨.lst ys,_,σ',dx.trans dx2,hv,R2,q⟩
variable {Q:Fl->Loc->Sto->Prop}
theorem z6i{elt tgt iter:Expr}{ifs:List Expr}{scope:Scope}{pos p' p:Pos}{x:Str}{locals caps:List Str}{gl':List (Str×V)}{ms:Loc}{Z:List V->Sto->Prop}
  (hA:AOk C A d) (R:RelF C env vars gl own G D m σ s) (hown:own=true)
  (hsw:swapsWith (.ListComp elt [⟨tgt,iter,ifs,0⟩] scope pos) (some (.Name x p')) p.line env=pure true)
  (hok:z2c scope env.scope vars locals caps (gl'.map (·.1))=true) (hgl:∀p∈gl',z0j C p.1 p.2) (hcaps:Caps vars m caps ms)
  (h:AI C env vars gl own d iter tgt m σ λxs Pp σ₁=>xs.length<=sizeLine/\∀env',env'.scope=relabel scope env->z04 C env' (locals++caps) gl' d tgt elt ifs Pp Z xs [] ((locals.map λ_=>none)++ms) σ₁)
  (hs:∀x,foldedSetIterable iter env x=pure x)
  (k:∀s' D' σ' a vs n ys,DX G D D'->RelF C env vars gl own G D' m ((a,z0D vs n,.list ys)::σ') s'->Z ys σ'->∃X m' D₂ σ₂,DX G D' D₂/\VR C.w D₂ (.ref a) X/\RelF C env vars gl own G D₂ m σ₂ s'/\Sub D' D₂/\(∀L,Off env vars G D' ((a,z0D vs n,.list ys)::σ') [L]->Off env vars G D₂ σ₂ [L])/\Put vars m x X m'/\Q .next m' σ₂):
  wpAny C.M A (exec (.Assign [.Name x p'] (.ListComp elt [⟨tgt,iter,ifs,0⟩] scope pos) p) env) (PostS C env vars gl own G D Q) (λ_ _=>False) s:=by
 rw[exec_Assign_Name_used _ _ _ _ hsw]
 refine wpAny_bind (wpAny_standAt (wpAny_bind ?_))
 show wpAny _ A (do let _ <-comprehension (.ListComp elt [⟨tgt,iter,ifs,0⟩] scope pos) scope env _ (newList []) false (eval iter env) (some (assign (.Name x p') env))) _ _ s
 refine wpAny_bind (wpAny_mono (z5k (K:=λ_ s'=>PostS C env vars gl own G D Q .next s') hA R hok hgl hcaps h hs λs' D' σ' a vs n ys L mm dx RO off hns q=> ?_) (λ_ s' hq=>wpAny_pure (wpAny_pure hq)) λ_ _ e=>e)
 obtain⟨X,m',D₂,σ₂,dx₂,hv,R₂,_,off₂,hP,q₂⟩:=k s' D' σ' a vs n ys dx RO q
 have offL:=off₂ L off
 have RW:=R₂.withW offL
 show wpAny C.M A (assign (.Name x p') env (.ref a)) _ _ s'
 refine wpAny_bind (wpAny_standAt (wpAny_bindName (RW.store hP hv (.inl hown) λs'' R''=> ?_)))
 obtain⟨oL,es,ep,hoL,hr⟩:=hns
 obtain⟨o',hL'',qL,_⟩:=R''.g L oL ((z1x (.head _)).trans hoL)
 obtain⟨R₃,_,off₃⟩:=R''.lessW offL R.base (DX.refl _ _) (λa ha=>by simp at ha;subst ha;exact⟨_,hoL⟩)
 refine⟨mm,⟨o',es,ep,hL'',qL.trans hr.1,hr.2⟩,λh' hs'=>⟨.next,m',D₂,σ₂,dx.trans dx₂,trivial,?_,q₂⟩⟩
 have:=R₃.keepBut (h':=h') s''.toks off₃ λb o hb e=>hs'.extBut b o (by simpa using hb) e
 exact this
theorem Off.freeze{a L:Addr}{o:Obj}{xs:List V}(h:Off env vars G D ((a,o,.list xs)::σ) [L]):Off env vars G (z2r D a o) σ [L]:=λb hb=>by
 have q:=h b hb
 have hne:b≠a:=λe=>q.2.2.1 (by rw[e];exact .head _)
 exact⟨q.1,by rw[z1j o hne];exact q.2.1,λhf=>q.2.2.1 (.tail _ hf),q.2.2.2⟩
theorem z5T{elt tgt iter:Expr}{ifs:List Expr}{scope:Scope}{pos p' p:Pos}{x:Str}(locals caps:List Str)(gl':List (Str×V)){ms:Loc}
  (hsw:swapsWith (.ListComp elt [⟨tgt,iter,ifs,0⟩] scope pos) (some (.Name x p')) p.line env=pure true)
  (hok:z2c scope env.scope vars locals caps (gl'.map (·.1))=true) (hgl:∀p∈gl',z0j C p.1 p.2) (hcaps:Caps vars m caps ms)
  (h:AI C env vars gl own d iter tgt m σ λxs Pp σ₁=>xs.length<=sizeLine/\∀env',env'.scope=relabel scope env->
   z04 C env' (locals++caps) gl' d tgt elt ifs Pp (λys σ₂=>∃m',Put vars m x (.lst ys) m'/\Q .next m' σ₂) xs [] ((locals.map λ_=>none)++ms) σ₁)
  (hown:autoParam (own=true) auR) (hs:autoParam (∀x,foldedSetIterable iter env x=pure x) auF):
  AS C env vars gl own d (exec (.Assign [.Name x p'] (.ListComp elt [⟨tgt,iter,ifs,0⟩] scope pos) p) env) m σ Q:=λA G D s hA R=>
 z6i hA R hown hsw hok hgl hcaps h hs λs' D' σ' a vs n ys dx RO hpp=>by
  obtain⟨m',hP,q⟩:=hpp
  obtain⟨R2,dx2,hv⟩:=RelF.freeze (u:=[]) RO
  exact⟨.lst ys,m',_,σ',dx2,hv,R2,dx2.sub,λL off=>off.freeze,hP,q⟩
theorem z5V{elt tgt iter:Expr}{ifs:List Expr}{scope:Scope}{pos p' p:Pos}{x:Str}(locals caps:List Str)(gl':List (Str×V)){ms:Loc}
  (hsw:swapsWith (.ListComp elt [⟨tgt,iter,ifs,0⟩] scope pos) (some (.Name x p')) p.line env=pure true)
  (hok:z2c scope env.scope vars locals caps (gl'.map (·.1))=true) (hgl:∀p∈gl',z0j C p.1 p.2) (hcaps:Caps vars m caps ms)
  (h:AI C env vars gl own d iter tgt m σ λxs Pp σ₁=>xs.length<=sizeLine/\∀env',env'.scope=relabel scope env->
   z04 C env' (locals++caps) gl' d tgt elt ifs Pp (λys σ₂=>∀a o,∃m',Put vars m x (.ref a) m'/\Q .next m' ((a,o,.list ys)::σ₂)) xs [] ((locals.map λ_=>none)++ms) σ₁)
  (hown:autoParam (own=true) auR) (hs:autoParam (∀x,foldedSetIterable iter env x=pure x) auF):
  AS C env vars gl own d (exec (.Assign [.Name x p'] (.ListComp elt [⟨tgt,iter,ifs,0⟩] scope pos) p) env) m σ Q:=λA G D s hA R=>
 z6i hA R hown hsw hok hgl hcaps h hs λs' D' σ' a vs n ys dx RO q=>by
  obtain⟨m',hP,q⟩:=q a (z0D vs n)
  exact⟨.ref a,m',D',_,DX.refl _ _,.ref a,RO,Sub.refl _,λL off=>off,hP,q⟩
end
end
section
section
variable {C:Cx} {d:Nat} {σ:Sto} {Q:V->Sto->Prop}
theorem z4Q{a b:Int}(q:Q (.int (a+b)) σ):AC2 C d (binaryOp .Add) (.int a) (.int b) σ Q:=λA G D s v u hA R hv hu=>by
 apply VR.intE hv;intro _;apply VR.intE hu;intro _;exact P.add_int (PostC.now (R.tok _) (.int _ _) q)
theorem y3t{a b:Int}(q:Q (.int (a-b)) σ):AC2 C d (binaryOp .Sub) (.int a) (.int b) σ Q:=λA G D s v u hA R hv hu=>by
 apply VR.intE hv;intro _;apply VR.intE hu;intro _;exact P.sub_int (PostC.now (R.tok _) (.int _ _) q)
theorem z3O{a b:Int}(q:Q (.int (a*b)) σ)(h:IntMulOk a b):AC2 C d (binaryOp .Mult) (.int a) (.int b) σ Q:=λA G D s v u hA R hv hu=>by
 apply VR.intE hv;intro _;apply VR.intE hu;intro _;exact P.mul_int (PostC.now (R.tok _) (.int _ _) q) h
theorem z2z{a b:Int}(q:Q (.int (a.fdiv b)) σ)(h:b≠0)(hs:b.natAbs<1073741824):AC2 C d (binaryOp .FloorDiv) (.int a) (.int b) σ Q:=λA G D s v u hA R hv hu=>by
 apply VR.intE hv;intro _;apply VR.intE hu;intro _;exact PyProof.Rows.floordiv_int h (PostC.now (R.tok _) (.int _ _) q) (.inl (PyProof.noPylong_small hs))
theorem z3b{a b:Int}(q:Q (.int (a.fmod b)) σ)(h:b≠0):AC2 C d (binaryOp .Mod) (.int a) (.int b) σ Q:=λA G D s v u hA R hv hu=>by
 apply VR.intE hv;intro _;apply VR.intE hu;intro _;exact PyProof.Rows.mod_int' h (PostC.now (R.tok _) (.int _ _) q)
theorem y1h{a:Int}(q:Q (.int (-a)) σ):AC1 C d (unaryOp .USub) (.int a) σ Q:=λA G D s v hA R hv=>by
 apply VR.intE hv;intro _;exact P.neg_int (PostC.now (R.tok _) (.int _ _) q)
theorem y40{a b:Int}(q:Q (.bool (decide (a<b))) σ):AC2 C d (compareOp .Lt) (.int a) (.int b) σ Q:=λA G D s v u hA R hv hu=>by
 apply VR.intE hv;intro _;apply VR.intE hu;intro _;exact P.lt_int (PostC.now R (.bool _) q)
theorem y5q{a b:Int}(q:Q (.bool (decide (a<=b))) σ):AC2 C d (compareOp .LtE) (.int a) (.int b) σ Q:=λA G D s v u hA R hv hu=>by
 apply VR.intE hv;intro _;apply VR.intE hu;intro _;exact P.le_int (PostC.now R (.bool _) q)
theorem y5i{a b:Int}(q:Q (.bool (decide (b<a))) σ):AC2 C d (compareOp .Gt) (.int a) (.int b) σ Q:=λA G D s v u hA R hv hu=>by
 apply VR.intE hv;intro _;apply VR.intE hu;intro _;exact P.gt_int (PostC.now R (.bool _) q)
theorem y5r{a b:Int}(q:Q (.bool (decide (b<=a))) σ):AC2 C d (compareOp .GtE) (.int a) (.int b) σ Q:=λA G D s v u hA R hv hu=>by
 apply VR.intE hv;intro _;apply VR.intE hu;intro _;exact P.ge_int (PostC.now R (.bool _) q)
theorem z8W{a b:Int}(q:Q (.bool (decide (a=b))) σ):AC2 C d (compareOp .Eq) (.int a) (.int b) σ Q:=λA G D s v u hA R hv hu=>by
 apply VR.intE hv;intro _;apply VR.intE hu;intro _
 refine P.eq_int (PostC.now R ?_ q)
 rw[show(a==b)=decide (a=b) from rfl];exact .bool _
theorem y3d{a b:Int}(q:Q (.bool (!decide (a=b))) σ):AC2 C d (compareOp .NotEq) (.int a) (.int b) σ Q:=λA G D s v u hA R hv hu=>by
 apply VR.intE hv;intro _;apply VR.intE hu;intro _
 refine P.ne_int (PostC.now R ?_ q)
 rw[show(a !=b)= !decide (a=b) from rfl];exact .bool _
theorem z2j{b:Bool}:TR C d (.bool b) σ b:=λA G D s v hA R hv K k=>by apply VR.boolE hv;exact wpAny_truthy_bool (k s.toks)
theorem z0h{b:Bool}{P:Bool->Sto->Prop}(p:P b σ):TRX C d (.bool b) σ P:=⟨b,z2j,p⟩
noncomputable def V.isNone:V->Bool
 | .none=>true
 |_=>false
theorem VR.isN{w:World}{D:Gh}{v:Value}{x:V}(hv:VR w D v x):(v==Value.none)=x.isNone:=
 hv.casesOn (motive_1:=λv x _=>(v==Value.none)=x.isNone) rfl (λ_=>rfl) (λ_ _=>rfl) (λ_ _=>rfl) (λ_=>rfl) (λ_=>rfl) (λ_=>rfl) (λ_ _ _ _=>rfl) (λ_ _=>rfl) (λ_=>rfl) (λ_ _ _ _=>rfl) (λ_ _=>rfl)
theorem y1q{x:V}(q:Q (.bool x.isNone) σ):AC2 C d (compareOp .Is) x .none σ Q:=λA G D s v u hA R hv hu=>by
 apply VR.noneE hu
 exact is_none (PostC.now R (hv.isN▸ .bool _) q)
theorem z7Q{x:V}(q:Q (.bool (!x.isNone)) σ):AC2 C d (compareOp .IsNot) x .none σ Q:=λA G D s v u hA R hv hu=>by
 apply VR.noneE hu
 exact isNot_none (PostC.now R (hv.isN▸ .bool _) q)
theorem z9y(a b:Bool):(Value.bool a==Value.bool b)=(a==b):=by cases b<;>cases a<;>rfl
theorem z8N{x y:Str}(q:Q (.str (x++y)) σ)(h:x.length+y.length<=sizeLine):AC2 C d (binaryOp .Add) (.str x) (.str y) σ Q:=λA G D s v u hA R hv hu=>by
 apply VR.strE hv;intro _;apply VR.strE hu;intro _;exact PyProof.Rows.add_str (λt' tk=>PostC.now (R.tok tk) (.str _ _) q) h
theorem y4T{x y:Str}(q:Q (.bool (x==y)) σ):AC2 C d (compareOp .Eq) (.str x) (.str y) σ Q:=λA G D s v u hA R hv hu=>by
 apply VR.strE hv;intro _;apply VR.strE hu;intro _;exact PyProof.Rows.eq_str (PostC.now R (.bool _) q)
theorem y4W{x y:Str}(q:Q (.bool (!(Builtin.Str.occurrences x y 0 x.length 1).isEmpty)) σ):AC2 C d (compareOp .In) (.str y) (.str x) σ Q:=λA G D s v u hA R hv hu=>by
 apply VR.strE hv;intro _;apply VR.strE hu;intro _;exact P.in_str (PostC.now R (.bool _) q)
end
end
section
noncomputable def NLq(P:V->Sto->Prop)(Xs:List V)(σ:Sto):Prop:=P (.lst Xs) σ∨∀a o,P (.ref a) ((a,o,.list Xs)::σ)
section
variable {C:Cx} {d:Nat} {σ:Sto} {Q:V->Sto->Prop} {G D:Gh} {s:Shared} {A:Around}
theorem RelC.mkL(R:RelC C G D σ s){vs:List Value}{Xs:List V}(h:VRs C.w D vs Xs)(q:NLq Q Xs σ):PostC C G D Q (.ref s.heap.objs.size) {s with heap:=s.heap.push (z0D vs.toArray 0)}:=by
 rcases q with q|q
 ·obtain⟨R',dx⟩:=R.newF (z0D vs.toArray 0)
  exact⟨.lst Xs,_,σ,dx,.lst (z0O ..) (h.mono dx.sub),R',q⟩
 ·exact⟨.ref _,D,_,DX.refl _ _,.ref _,R.newM (z0D vs.toArray 0) (.list Xs) ⟨vs.toArray,0,rfl,by simpa using h⟩ rfl (λ_ _=>rfl),q _ _⟩
mutual
inductive Dp(σ:Sto):V->PyData->Prop
 |none:Dp σ .none .none
 |bool (b:Bool):Dp σ (.bool b) (.bool b)
 |int (i:Int):Dp σ (.int i) (.int i)
 |str (x:Str):Dp σ (.str x) (.str x)
 |tup {xs:List V} {ds:List PyData}:Dps σ xs ds->Dp σ (.tup xs) (.tuple ds)
 |lst {xs:List V} {ds:List PyData}:Dps σ xs ds->Dp σ (.lst xs) (.list ds)
 |ref {a:Addr} {o:Obj} {xs:List V} {ds:List PyData}:(a,o,AO.list xs)∈σ->Dps σ xs ds->Dp σ (.ref a) (.list ds)
inductive Dps(σ:Sto):List V->List PyData->Prop
 |nil:Dps σ [] []
 |cons {x:V} {e:PyData} {xs:List V} {ds:List PyData}:Dp σ x e->Dps σ xs ds->Dps σ (x::xs) (e::ds)
end
theorem Dp.reads(R:RelC C G D σ s){x:V}{e:PyData}(p:Dp σ x e):∀{v:Value},VR C.w D v x->∃as,Reads s.heap v e as:=
 λ{v}=>Dp.rec (motive_1:=λx e _=>∀v,VR C.w D v x->∃as,Reads s.heap v e as) (motive_2:=λx e _=>∀v,VRs C.w D v x->∃as,ReadsAll s.heap v e as)
  (λv h=>by rw[h.noneI];exact⟨_,.none⟩) (λb v h=>by rw[h.boolI];exact⟨_,.bool b⟩) (λi v h=>by apply VR.intE h;intro _;exact⟨_,.int i _⟩) (λx v h=>by apply VR.strE h;intro _;exact⟨_,.str x _⟩)
  (λr ih v h=>by
   obtain⟨a,o,vs,n,rfl,e,hc,hd,hv⟩:=h.tupI
   obtain⟨as,q⟩:=ih vs hv
   exact⟨_,.tuple (R.d _ _ e) hc hd (by simpa using q)⟩)
  (λr ih v h=>by
   obtain⟨a,vs,n,rfl,e,hv⟩:=h.lstI
   obtain⟨as,q⟩:=ih vs hv
   exact⟨_,.list (R.d _ _ e) rfl rfl (by simpa using q)⟩)
  (λhm r ih v h=>by
   rw[h.refI]
   obtain⟨vs,n,e,hv⟩:=R.sto _ hm
   obtain⟨as,q⟩:=ih _ hv
   have e':=R.pl _ hm
   exact⟨_,.list e' (by rw[show _=z0D vs n from e]) (by rw[show _=z0D vs n from e]) q⟩)
  (λv h=>by rw[h.nilI];exact⟨_,.nil⟩)
  (λa b ia ib v h=>by
   apply VRs.consE h;intro _ _ h1 h2
   obtain⟨as,q⟩:=ia _ h1
   obtain⟨bs,q'⟩:=ib _ h2
   exact⟨_,.cons q q'⟩) p v
theorem AOk.line{A:Around}{d:Nat}(h:AOk C A d):A.units+64<cLine:=Nat.lt_of_le_of_lt (Nat.add_le_add_right (Nat.le_of_lt (Nat.lt_of_le_of_lt (Nat.le_add_right _ _) h.units)) 64) (show 9000+64<9900 by decide)
theorem y1r{x y:V}{e f:PyData}(hx:Dp σ x e)(hy:Dp σ y f)(he:SeqAt.shaped e=true)(hf:SeqAt.shaped f=true)(q:Q (.bool (PyData.eqv e f)) σ):AC2 C d (compareOp .Eq) x y σ Q:=λA G D s v u hA R hv hu=>by
 obtain⟨_,r1⟩:=hx.reads R hv
 obtain⟨_,r2⟩:=hy.reads R hu
 exact SeqAt.compareEq_shaped r1 r2 he hf hA.line (PostC.now R (.bool _) q)
theorem z9t{x y:V}{e f:PyData}(hx:Dp σ x e)(hy:Dp σ y f)(he:SeqAt.shaped e=true)(hf:SeqAt.shaped f=true)(q:Q (.bool (!PyData.eqv e f)) σ):AC2 C d (compareOp .NotEq) x y σ Q:=λA G D s v u hA R hv hu=>by
 obtain⟨_,r1⟩:=hx.reads R hv
 obtain⟨_,r2⟩:=hy.reads R hu
 exact SeqAt.compareNe_shaped r1 r2 he hf hA.line (PostC.now R (.bool _) q)
theorem Has.isL{x:V}{xs:List V}{P:Sto->Prop}(h:Has σ x (.list xs) P)(R:RelC C G D σ s){v:Value}(hv:VR C.w D v x):
  ∃a vs,v= .ref a/\s.heap.IsList a vs/\VRs C.w D vs.toList xs:=by
 obtain⟨a,vs,n,rfl,ho,hr⟩:=h.isList R hv
 exact⟨a,vs,rfl,⟨_,ho,rfl,n,rfl⟩,hr⟩
theorem VR.isT{xs:List V}(R:RelC C G D σ s){v:Value}(hv:VR C.w D v (.tup xs)):∃a vs,v= .ref a/\PyProof.Rows.IsTup s.heap a vs/\s.heap.IsTuple a vs/\VRs C.w D vs.toList xs:=by
 cases hv with
 |tup e hc hd hr=>exact⟨_,_,rfl,⟨_,R.d _ _ e,hc,_,hd⟩,⟨_,R.d _ _ e,hc,_,hd⟩,by simpa using hr⟩
theorem Has.isLE{x:V}{xs:List V}{P:Sto->Prop}{Z:Value->Prop}(h:Has σ x (.list xs) P)(R:RelC C G D σ s){v:Value}(hv:VR C.w D v x)(k:∀a vs,s.heap.IsList a vs->VRs C.w D vs.toList xs->Z (.ref a)):Z v:=by
 obtain⟨a,vs,rfl,ho,hr⟩:=h.isL R hv
 exact k a vs ho hr
theorem VR.isTE{xs:List V}{Z:Value->Prop}(R:RelC C G D σ s){v:Value}(hv:VR C.w D v (.tup xs))(k:∀a vs,PyProof.Rows.IsTup s.heap a vs->s.heap.IsTuple a vs->VRs C.w D vs.toList xs->Z (.ref a)):Z v:=by
 obtain⟨a,vs,rfl,h1,h2,hr⟩:=VR.isT R hv
 exact k a vs h1 h2 hr
theorem z7r{x:V}{xs:List V}{P:Sto->Prop}(h:Has σ x (.list xs) P)(hl:xs.length<=sizeLine)(q:Q (.int xs.length) σ):KW C d (.bi "len") [x] σ Q:=λA G D s v vs hA R hv hs=>by
 apply VR.biE hv
 apply VRs.consE hs;intro _ _ h1 h2
 ·skip
  apply VRs.nilE h2
  apply Has.isLE h R h1;intro a ws hL hr
  have e:ws.size=xs.length:=by rw[<-hr.length];simp
  refine Calls.call_len_list hL (by rw[e];have:xs.length<=16777216:=hl;lia) ?_
  rw[e];exact PostC.now (R.tok _) (.int _ _) q
theorem y1D{xs:List V}(hl:xs.length<=sizeLine)(q:Q (.int xs.length) σ):KW C d (.bi "len") [.tup xs] σ Q:=λA G D s v vs hA R hv hs=>by
 apply VR.biE hv
 apply VRs.consE hs;intro _ _ h1 h2
 ·skip
  apply VRs.nilE h2
  apply VR.isTE R h1;intro a ws hT _ hr
  have e:ws.size=xs.length:=by rw[<-hr.length];simp
  refine PyProof.Rows.len_tuple hT (by rw[e];have:xs.length<=16777216:=hl;lia) ?_
  rw[e];exact PostC.now (R.tok _) (.int _ _) q
theorem y1o{x:Str}(hl:x.length<=sizeLine)(q:Q (.int x.length) σ):KW C d (.bi "len") [.str x] σ Q:=λA G D s v vs hA R hv hs=>by
 apply VR.biE hv
 apply VRs.consE hs;intro _ _ h1 h2
 ·skip
  apply VRs.nilE h2;apply VR.strE h1;intro _
  exact PyProof.Rows.len_str (by have:x.length<=16777216:=hl;lia) (PostC.now (R.tok _) (.int _ _) q)
theorem z5r{x:V}{xs:List V}{P:Sto->Prop}{k:Int}{X:V}(h:Has σ x (.list xs) P)(h0:0<=k)(hf:k<2^63)(hx:xs[k.toNat]? =some X)(q:Q X σ):SubR C d x (.int k) σ Q:=λA G D s o v hA R ho hv=>by
 apply VR.intE hv;intro _
 apply Has.isLE h R ho;intro a ws hL hr
 obtain⟨u,hu,ru⟩:=hr.get hx
 exact⟨"list",_,hL.typeIs,slot_list_getitem.lookup,wpAny_getItem_list hL h0 hf (by rw[<-Array.getElem?_toList];exact hu) (PostC.now R ru q)⟩
theorem y2I{x:V}{xs:List V}{P:Sto->Prop}{k:Int}{X:V}(h:Has σ x (.list xs) P)(h0:k<0)(h1: -(xs.length:Int)<=k)(hf: -(2^63)<=k)(hx:xs[(k+xs.length).toNat]? =some X)(q:Q X σ):SubR C d x (.int k) σ Q:=λA G D s o v hA R ho hv=>by
 apply VR.intE hv;intro _
 apply Has.isLE h R ho;intro a ws hL hr
 obtain⟨u,hu,ru⟩:=hr.get hx
 have e:ws.size=xs.length:=by rw[<-hr.length];simp
 exact⟨"list",_,hL.typeIs,slot_list_getitem.lookup,wpAny_getItem_list_neg hL h0 (by rw[e];exact h1) hf (by rw[<-Array.getElem?_toList,e];exact hu) (PostC.now R ru q)⟩
theorem z3Q{xs:List V}{k:Int}{X:V}(h0:0<=k)(hf:k<2^63)(hx:xs[k.toNat]? =some X)(q:Q X σ):SubR C d (.tup xs) (.int k) σ Q:=λA G D s o v hA R ho hv=>by
 apply VR.intE hv;intro _
 apply VR.isTE R ho;intro a ws hT _ hr
 obtain⟨u,hu,ru⟩:=hr.get hx
 have e:ws.size=xs.length:=by rw[<-hr.length];simp
 have hk:k.toNat<xs.length:=(List.getElem?_eq_some_iff.mp hx).1
 have hj:seqIndex? k ws.size=some k.toNat:=by
  unfold seqIndex?
  rw[e]
  have h1:(k:Int)<(xs.length:Int):=by lia
  simp[show¬k<0 by lia,h0,h1]
 exact⟨"tuple",_,hT.typeIs,PyProof.Rows.slot_tuple_getitem.lookup,PyProof.Rows.getItem_tuple hT (by lia) hf hj (by rw[<-Array.getElem?_toList];exact hu) (PostC.now R ru q)⟩
theorem y4Y{x:Str}{k:Int}{c:Nat}(h0:0<=k)(hf:k<2^63)(hx:x.cps[k.toNat]? =some c)(q:Q (.str ⟨#[c]⟩) σ):SubR C d (.str x) (.int k) σ Q:=λA G D s o v hA R ho hv=>by
 apply VR.intE hv;intro _;cases ho
 have hk:k.toNat<x.cps.size:=by
  rcases Nat.lt_or_ge k.toNat x.cps.size with h|h
  ·exact h
  ·rw[Array.getElem?_eq_none h] at hx;cases hx
 have hj:seqIndex? k x.length=some k.toNat:=by
  unfold seqIndex? Str.length
  have h1:(k:Int)<(x.cps.size:Int):=by lia
  simp[show¬k<0 by lia,h0,h1]
 refine⟨"str",_,typeIs_str _ _ _,F.slot_str_getitem.lookup,PyProof.Rows.getItem_str (c:=c) (by simp;lia) (by rw[hj];exact hx) (PostC.now (R.tok _) (.str _ _) q)⟩
end
end
section
section
variable {C:Cx} {d:Nat} {σ:Sto} {Q:V->Sto->Prop} {G D:Gh} {s:Shared} {A:Around}
theorem z8O{x:V}{t:String}(h:∀A G D s v,RelC C G D σ s->VR C.w D v x->wpAny C.M A (call (.builtin "isinstance") [v,.type t]) (PostC C G D Q) (λ_ _=>False) s):KW C d (.bi "isinstance") [x,.type t] σ Q:=λA G D s v vs hA R hv hs=>by
 apply VR.biE hv;apply VRs.consE hs;intro _ _ h1 h2;apply VRs.consE h2;intro _ _ h3 h4;apply VRs.nilE h4;apply VR.typeE h3;exact h A G D s _ R h1
inductive PartV:V->Option Int->Prop
 |none:PartV .none none
 |int (i:Int):PartV (.int i) (some i)
theorem PartV.is{w:World}{x:V}{o:Option Int}(h:PartV x o){v:Value}(hv:VR w D v x):IsPart v o:=by
 cases h with
 |none=>rw[VR.noneI hv];exact .none
 |int i=>apply VR.intE hv;intro _;exact .int _ _
noncomputable def slL(xs:List V)(lo hi st:Option Int):List V:=
 (sliceRange (sliceBounds lo hi st xs.length).1 (sliceBounds lo hi st xs.length).2.1 (sliceBounds lo hi st xs.length).2.2).filterMap (xs[·]?)
theorem VRs.pick{w:World}{vs:List Value}{xs:List V}(h:VRs w D vs xs)(is:List Nat):VRs w D (is.filterMap (vs[·]?)) (is.filterMap (xs[·]?)):=by
 induction is with
 |nil=>exact .nil
 |cons i r ih=>
  cases e:xs[i]? with
  |some X=>
   obtain⟨u,hu,ru⟩:=h.get e
   rw[List.filterMap_cons_some hu,List.filterMap_cons_some e]
   exact .cons ru ih
  |none=>
   have e':vs[i]? =none:=by
    rw[List.getElem?_eq_none_iff] at e⊢;rw[h.length];exact e
   rw[List.filterMap_cons_none e',List.filterMap_cons_none e]
   exact ih
theorem z1N{x L U S:V}{xs:List V}{P:Sto->Prop}{lo hi st:Option Int}(h:Has σ x (.list xs) P)(hL:PartV L lo)(hU:PartV U hi)(hS:PartV S st)(h0:st≠some 0)(hl:xs.length<=sizeLine)
  (q:NLq Q (slL xs lo hi st) σ):SubR C d x (.slc L U S) σ Q:=λA G D s o v hA R ho hv=>by
 obtain⟨_,_,_,_,rfl,e,h1,h2,h3⟩:=VR.slcI hv
 ·skip
  apply Has.isLE h R ho;intro a ws hIs hr
  have es:ws.size=xs.length:=by rw[<-hr.length];simp
  refine⟨"list",_,hIs.typeIs,slot_list_getitem.lookup,wpAny_getItem_list_slice hIs ⟨_,R.d _ _ e,rfl,rfl⟩ (hL.is h1) (hU.is h2) (hS.is h3) h0 ?_ (by rw[es];exact hl)⟩
  have ep:slicePick ws lo hi st=((sliceRange (sliceBounds lo hi st xs.length).1 (sliceBounds lo hi st xs.length).2.1 (sliceBounds lo hi st xs.length).2.2).filterMap (ws.toList[·]?)).toArray:=by
   unfold slicePick;rw[es];congr 1
   simp
  rw[ep]
  exact R.mkL (hr.pick _) q
theorem z1M{x y:V}{xs ys:List V}{P P':Sto->Prop}(h:Has σ x (.list xs) P)(h':Has σ y (.list ys) P')(hl:xs.length+ys.length<=sizeLine)(q:NLq Q (xs++ys) σ):AC2 C d (binaryOp .Add) x y σ Q:=λA G D s v u hA R hv hu=>by
 apply Has.isListE h R hv;intro a ws n ho hr
 apply Has.isListE h' R hu;intro b zs n' ho' hr'
 have e1:ws.size=xs.length:=by rw[<-hr.length];simp
 have e2:zs.size=ys.length:=by rw[<-hr'.length];simp
 refine concat_meets ⟨_,ho,rfl⟩ ⟨_,ho',rfl⟩ noFill_list_add seq_list_add F.slot_list_add F.entry_list_add (F.args_list_add_2 _ _) (PyProof.Rows.list_addW a b ws zs n n' none none #[] #[] (by lia)) ⟨ho,ho',?_⟩
 have e:ws++zs=(ws.toList++zs.toList).toArray:=by simp
 rw[e]
 exact R.mkL (hr.append hr') q
theorem all_range:∀bs:List Bool,(List.range bs.length).all (λi=>bs.getD i false)=bs.all id
 |[]=>rfl
 |b::r=>by
  rw[List.length_cons,List.range_succ_eq_map,List.all_cons,List.all_map]
  exact congrArg (b&&·) (all_range r)
theorem z59 [HM C]{x:V}{bs:List Bool}{P:Sto->Prop}(h:Has σ x (.list (bs.map V.bool)) P)(q:Q (.bool (bs.all id)) σ):KW C d (.bi "all") [x] σ Q:=λA G D s v vs hA R hv hs=>by
 apply VR.biE hv
 apply VRs.consE hs;intro _ _ h1 h2
 apply VRs.nilE h2
 apply Has.isLE h R h1;intro a ws hL hr
 have hne:a≠s.heap.objs.size:=Nat.ne_of_lt (let⟨_,e,_⟩:=hL;Heap.lt_size e)
 refine call_all_walk (wpAny_pyIter_list hL ⟨s.heap.objs.size,_,_,ws.size,_,_,λi=>bs.getD i false,rfl,Walks.list (A:=A.in1) hA.hh s.heap.objs.size a hne ws,⟨⟨_,Heap.get?_push_size _ rfl,rfl,rfl⟩,hL.push _⟩,?_,λh' tk hk=> ?_⟩)
 ·intro i u s' K E' hu hK
  obtain⟨X,hX,rX⟩:=hr.get' (show ws.toList[i]? =some u by rw[Array.getElem?_toList];exact hu)
  rw[List.getElem?_map] at hX
  revert rX
  apply z0X hX;intro b hb rX
  apply VR.boolE rX
  refine wpAny_truthy_bool ?_
  have hK:K (bs.getD i false) s':=hK
  rw[List.getD_eq_getElem?_getD,hb] at hK
  exact hK
 ·rw[show ws.size=bs.length from(Array.length_toList.symm.trans hr.length).trans (List.length_map ..),all_range]
  exact PostC.now ((R.push _).keepBut (h':=h') tk [s.heap.objs.size] (λc hc=>by rw[List.mem_singleton.mp hc];exact⟨R.new_G,R.new_D,R.new_notFoot⟩) hk) (.bool _) q
theorem y0T [HM C]{a b:Int}(q:Q (.int (max a b)) σ):KW C d (.bi "max") [.int a,.int b] σ Q:=λA G D s v vs hA R hv hs=>by
 apply VR.biE hv;cases hs with
 |cons h1 h2=>
  apply VRs.consE h2;intro _ _ h3 h4
  ·skip
   apply VRs.nilE h4;apply VR.intE h3;intro _;apply VR.intE h1;intro _
   refine max_two_ints hA.hh λh' tk hk=> ?_
   have R':=R.keep (h':=h') tk hk
   by_cases hc:b>a
   ·rw[if_pos hc];rw[show max a b=b by lia] at q;exact PostC.now R' (.int _ _) q
   ·rw[if_neg hc];rw[show max a b=a by lia] at q;exact PostC.now R' (.int _ _) q
theorem y4n [HM C]{a b:Int}(q:Q (.int (min a b)) σ):KW C d (.bi "min") [.int a,.int b] σ Q:=λA G D s v vs hA R hv hs=>by
 apply VR.biE hv;cases hs with
 |cons h1 h2=>
  apply VRs.consE h2;intro _ _ h3 h4
  ·skip
   apply VRs.nilE h4;apply VR.intE h3;intro _;apply VR.intE h1;intro _
   refine min_two_ints hA.hh λh' tk hk=> ?_
   have R':=R.keep (h':=h') tk hk
   by_cases hc:b<a
   ·rw[if_pos hc];rw[show min a b=b by lia] at q;exact PostC.now R' (.int _ _) q
   ·rw[if_neg hc];rw[show min a b=a by lia] at q;exact PostC.now R' (.int _ _) q
theorem z1D{n:Int}(q:Q (.rng 0 n 1) σ):KW C d (.type "range") [.int n] σ Q:=λA G D s v vs hA R hv hs=>by
 apply VR.typeE hv;cases hs with
 |cons h1 h2=>
  apply VRs.nilE h2;apply VR.intE h1;intro _
  refine call_range_1 ?_
  obtain⟨R',dx⟩:=(R.tok (s.toks+1+1)).newF {cls:= .type "range",data:= .fields #[.int 0 s.toks,.int n _,.int 1 (s.toks+1)]}
  exact⟨_,_,σ,dx,.rng (z0O ..),R',q⟩
theorem y0M{a b:Int}(q:Q (.rng a b 1) σ):KW C d (.type "range") [.int a,.int b] σ Q:=λA G D s v vs hA R hv hs=>by
 apply VR.typeE hv;cases hs with
 |cons h1 h2=>
  apply VRs.consE h2;intro _ _ h3 h4
  ·skip
   apply VRs.nilE h4;apply VR.intE h3;intro _;apply VR.intE h1;intro _
   refine call_range_2 ?_
   obtain⟨R',dx⟩:=(R.tok (s.toks+1)).newF {cls:= .type "range",data:= .fields #[.int a _,.int b _,.int 1 s.toks]}
   exact⟨_,_,σ,dx,.rng (z0O ..),R',q⟩
theorem y36{a:Int}(ha:a.natAbs.log2<1920)(q:Q (.str (toString a)) σ):KW C d (.type "str") [.int a] σ Q:=λA G D s v vs hA R hv hs=>by
 apply VR.typeE hv;cases hs with
 |cons h1 h2=>apply VRs.nilE h2;apply VR.intE h1;intro _;exact P.str_of_int ha (PostC.now (R.tok _) (.str _ _) q)
end
end
section
section
variable {C:Cx} {env:Env} {vars:List Str} {gl:List (Str×V)} {own:Bool} {d:Nat} {m m':Loc} {σ σ':Sto}
variable {A:Around} {G D D₀ D₁:Gh} {s:Shared} {P:V->Sto->Prop}
noncomputable def APart(C:Cx)(env:Env)(vars:List Str)(gl:List (Str×V))(own:Bool)(d:Nat):Option Expr->Loc->Sto->(V->Sto->Prop)->Prop
 |none,m,σ,K=>K .none σ
 |some e,m,σ,K=>AT C env vars gl own d (eval e env) m σ K
theorem APart.run{e:Option Expr}{K:V->Sto->Prop}(h:APart C env vars gl own d e m σ K)(hA:AOk C A d)(R:RelF C env vars gl own G D m σ s){Z:Value->Shared->Prop}
  (k:∀v s' x D' σ',DX G D D'->VR C.w D' v x->RelF C env vars gl own G D' m σ' s'->K x σ'->Z v s'):wpAny C.M A (evalPart e env) Z (λ_ _=>False) s:=by
 cases e with
 |none=>rw[evalPart_none];exact wpAny_pure (k _ _ _ _ _ (DX.refl _ _) .none R h)
 |some e=>rw[evalPart_some];exact AT.run h hA R k
theorem z20{l u st:Option Expr}{p:Pos}(h:APart C env vars gl own d l m σ λL σ₁=>APart C env vars gl own d u m σ₁ λU σ₂=>APart C env vars gl own d st m σ₂ λS σ₃=>P (.slc L U S) σ₃):
  AT C env vars gl own d (eval (.Slice l u st p) env) m σ P:=λA G D s hA R=>
 wpAny_Slice (h.run hA R λv₁ s₁ L D₁ σ₁ a₁ b₁ c₁ e₁=>e₁.run hA c₁ λv₂ s₂ U D₂ σ₂ a₂ b₂ c₂ e₂=>e₂.run hA c₂ λv₃ s₃ S D₃ σ₃ a₃ b₃ c₃ e₃=>by
  obtain⟨R',dx⟩:=c₃.newF {cls:= .type "slice",data:= .fields #[v₁,v₂,v₃]}
  exact⟨.slc L U S,_,σ₃,((a₁.trans a₂).trans a₃).trans dx,.slc (z0O ..) (b₁.mono ((a₂.trans a₃).trans dx).sub) (b₂.mono (a₃.trans dx).sub) (b₃.mono dx.sub),R',e₃⟩)
structure MethIs(T:String)(name:Str)(id:String):Prop where
 pa:PlainAttrs T
 slot:Slot T name id
 ty:typeOf (.builtin id)=pure (.type "method_descriptor")
noncomputable def TyR(C:Cx)(x:V)(σ:Sto)(T:String):Prop:=
 ∀G D s v,RelC C G D σ s->VR C.w D v x->s.TypeIs v T/\∀a,v= .ref a->∃ob,s.heap.get? a=some ob/\ob.dict=none
theorem y3r{x:Str}:TyR C (.str x) σ "str":=λG D s v R hv=>by apply VR.strE hv;intro _;exact⟨typeIs_str _ _ _,λa e=>by cases e⟩
theorem y1m{x:V}{xs:List V}{P:Sto->Prop}(h:Has σ x (.list xs) P):TyR C x σ "list":=λG D s v R hv=>by
 apply Has.isListE h R hv;intro a vs n ho hr
 exact⟨⟨_,ho,rfl⟩,λb e=>by cases e;exact⟨_,ho,rfl⟩⟩
theorem y1Q{x:V}{es:List (V×V)}{P:Sto->Prop}(h:Has σ x (.dict es) P):TyR C x σ "dict":=λG D s v R hv=>by
 obtain⟨a,o,rfl,ho,⟨es,n,rfl,hr⟩,_⟩:=h.run R hv
 exact⟨⟨_,ho,rfl⟩,λb e=>by cases e;exact⟨_,ho,rfl⟩⟩
theorem y0S{T id:String}{o:Expr}{name:Str}{ap p:Pos}(hM:MethIs T name id)(h:AT C env vars gl own d (eval o env) m σ λX σ₁=>TyR C X σ₁ T/\KW C d (.bi id) [X] σ₁ P)
  (hbase:autoParam (attributeBase o name env (eval o env)=eval o env) auR) (hline:autoParam ((ap.endLine==p.line)=true) auR):
  AT C env vars gl own d (eval (.Call (.Attribute o name ap) [] [] p) env) m σ P:=λA G D s hA R=>
 wpAny_Call_method_lateS hbase rfl hline (h.run hA R λv s₁ X D₁ σ₁ a b c hpp=>by obtain⟨hT,hk⟩:=hpp;exact⟨T,id,hM.pa,hM.slot,hM.ty,(hT _ _ _ _ c.toRelC b).1,(hT _ _ _ _ c.toRelC b).2,
  Calls.callWith_builtin rfl (evalArgs_none (z0Z a (hk.inF hA c (.bi id) (.cons b .nil))))⟩)
theorem y2V{T id:String}{o e:Expr}{rest:List Expr}{name:Str}{ap p:Pos}(hM:MethIs T name id)
  (h:AT C env vars gl own d (eval o env) m σ λX σ₁=>TyR C X σ₁ T/\AL C env vars gl own d (spliced (backTo p (starEach (e::rest) env))) m σ₁ λXs σ₂=>KW C d (.bi id) (X::Xs) σ₂ P)
  (hbase:autoParam (attributeBase o name env (eval o env)=eval o env) auR) (hline:autoParam ((ap.endLine==p.line)=true) auR)
  (he:autoParam (starEach (e::rest) env=(false,eval e env)::starEach rest env) auR) (hplain:autoParam ((backTo p (starEach rest env)).any (·.1)=false) auR)
  (hfew:autoParam (((backTo p (starEach (e::rest) env)).all (λx=> !x.1)&&(backToKw p (keywordEach [] env)).all (λx=>x.1.isSome)&&decide ((e::rest).length+([]:List Keyword).length+(if([]:List Keyword).isEmpty then 0 else 1)<30))=true) auR):
  AT C env vars gl own d (eval (.Call (.Attribute o name ap) (e::rest) [] p) env) m σ P:=λA G D s hA R=>
 wpAny_Call_method_lateS hbase hfew hline (h.run hA R λv s₁ X D₁ σ₁ a b c hpp=>by obtain⟨hT,hk⟩:=hpp;exact⟨T,id,hM.pa,hM.slot,hM.ty,(hT _ _ _ _ c.toRelC b).1,(hT _ _ _ _ c.toRelC b).2,by
  rw[he] at hk⊢
  exact Calls.callWith_builtin hplain (Calls.evalArgs_plain (AL.run hk hA c λvs s₂ Xs D₂ σ₂ a' b' c' q=>z0Z (a.trans a') (q.inF hA c' (.bi id) (.cons (b.mono a'.sub) b'))))⟩)
theorem M_join:MethIs "str" "join" "str.join":=⟨F.plainAttrs_str,F.slot_str_join,F.type_str_join⟩
theorem y29{l r r2:Expr}{op op2:CmpOp}{p:Pos}(h:AT C env vars gl own d (eval l env) m σ λX σ₁=>AT C env vars gl own d (eval r env) m σ₁ λY σ₂=>AC2 C d (compareOp op) X Y σ₂ λZ σ₃=>
   ∃b,TR C d Z σ₃ b/\(b=false->P Z σ₃)/\(b=true->AT C env vars gl own d (eval r2 env) m σ₃ λW σ₄=>AC2 C d (compareOp op2) Y W σ₄ P))
  (hm2:autoParam (behindInMarks op2 r2=false) auR):
  AT C env vars gl own d (eval (.Compare l [op,op2] [r,r2] p) env) m σ P:=λA G D s hA R=>by
 rw[arm_eval_Compare]
 have e0:markedEach [op,op2] [r,r2] (evalEach [r,r2] env)=[eval r env,markedBehindIn op2 r2 (eval r2 env)]:=rfl
 rw[e0,markedBehindIn_of_false hm2]
 refine wpAny_bind (h.run hA R λv s₁ X D₁ σ₁ a b c e=> ?_)
 show wpAny C.M A (do
  let rv <-holding [v] (eval r env)
  standAt p
  let c <-holding [v,rv] (compareOp op v rv)
  release [v,rv] [c]
  if<-holding [c,rv] (truthy c) then compareChain p rv [op2] [eval r2 env] else pure c) _ _ s₁
 refine wpAny_bind (wpAny_holding (e.run hA c λu s₂ Y D₂ σ₂ a' b' c' e'=>wpAny_bind (wpAny_standAt (wpAny_bind (wpAny_holding ?_)))))
 refine wpAny_mono (e'.inF hA c' (b.mono a'.sub) b') (λz s₃ hpp=> ?_) λ_ _ x=>x
 obtain⟨Z,D₃,σ₃,a₃,b₃,c₃,t,ht,h1,h2⟩:=hpp
 refine wpAny_bind (PyProof.Rows.wpAny_release' (wpAny_bind (wpAny_holding (ht.inF hA c₃ b₃ λtk=> ?_))))
 have dx3:=(a.trans a').trans a₃
 cases t with
 |false=>exact wpAny_pure ⟨Z,D₃,σ₃,dx3,b₃,c₃.tok tk,h1 rfl⟩
 |true=>
  show wpAny C.M A (do
   let rv <-holding [u] (eval r2 env)
   standAt p
   operate [u,rv] (compareOp op2 u rv)) _ _ _
  refine wpAny_bind (wpAny_holding ((h2 rfl).run hA (c₃.tok tk) λu2 s₄ W D₄ σ₄ a₄ b₄ c₄ e₄=>wpAny_bind (wpAny_standAt (wpAny_operating ?_))))
  exact z0Z (dx3.trans a₄) (e₄.inF hA c₄ (b'.mono (a₃.trans a₄).sub) b₄)
variable {K:Bool->Sto->Prop}
theorem y2S{l r r2:Expr}{op op2:CmpOp}{p:Pos}{whole:Sem Value}(h:AT C env vars gl own d (eval l env) m σ λX σ₁=>AT C env vars gl own d (eval r env) m σ₁ λY σ₂=>AC2 C d (compareOp op) X Y σ₂ λZ σ₃=>
   ∃b,TR C d Z σ₃ b/\(b=false->K false σ₃)/\(b=true->AT C env vars gl own d (eval r2 env) m σ₃ λW σ₄=>AC2 C d (compareOp op2) Y W σ₄ λZ2 σ₅=>TRX C d Z2 σ₅ K))
  (hm2:autoParam (behindInMarks op2 r2=false) auR):
  AB C env vars gl own d (isTrue (.Compare l [op,op2] [r,r2] p) env whole) m σ K:=λA G D s hA R=>by
 rw[arm_isTrue_Compare]
 have e0:markedEach [op,op2] [r,r2] (evalEach [r,r2] env)=[eval r env,markedBehindIn op2 r2 (eval r2 env)]:=rfl
 rw[e0,markedBehindIn_of_false hm2]
 refine wpAny_bind (h.run hA R λv s₁ X D₁ σ₁ a b c e=> ?_)
 show wpAny C.M A (do
  let rv <-holding [v] (eval r env)
  standAt p
  let c <-holding [v,rv] (compareOp op v rv)
  release [v,rv] [c]
  if<-holding [c,rv] (truthy c) then testChain p rv [op2] [eval r2 env] else pure false) _ _ s₁
 refine wpAny_bind (wpAny_holding (e.run hA c λu s₂ Y D₂ σ₂ a' b' c' e'=>wpAny_bind (wpAny_standAt (wpAny_bind (wpAny_holding ?_)))))
 refine wpAny_mono (e'.inF hA c' (b.mono a'.sub) b') (λz s₃ hpp=> ?_) λ_ _ x=>x
 obtain⟨Z,D₃,σ₃,a₃,b₃,c₃,t,ht,h1,h2⟩:=hpp
 refine wpAny_bind (PyProof.Rows.wpAny_release' (wpAny_bind (wpAny_holding (ht.inF hA c₃ b₃ λtk=> ?_))))
 have dx3:=(a.trans a').trans a₃
 cases t with
 |false=>exact wpAny_pure ⟨D₃,σ₃,dx3,c₃.tok tk,h1 rfl⟩
 |true=>
  show wpAny C.M A (do
   let rv <-holding [u] (eval r2 env)
   standAt p
   let c <-operate [u,rv] (compareOp op2 u rv)
   holding [c] (truthy c)) _ _ _
  refine wpAny_bind (wpAny_holding ((h2 rfl).run hA (c₃.tok tk) λu2 s₄ W D₄ σ₄ a₄ b₄ c₄ e₄=>wpAny_bind (wpAny_standAt (wpAny_bind (wpAny_operating ?_)))))
  refine wpAny_mono (e₄.inF hA c₄ (b'.mono (a₃.trans a₄).sub) b₄) (λz s₅ hpp=> ?_) λ_ _ x=>x
  obtain⟨Z2,D₅,σ₅,a₅,b₅,c₅,t2,ht2,hk⟩:=hpp
  refine wpAny_holding (ht2.inF hA c₅ b₅ λtk2=> ?_)
  exact⟨D₅,σ₅,(dx3.trans a₄).trans a₅,c₅.tok tk2,hk⟩
noncomputable def z1y(x:Str):List V:=x.cps.toList.map λc=>V.str ⟨#[c]⟩
variable {Q:List V->(Sto->Prop)->Sto->Prop}
theorem y3R [HM C]{iter tgt:Expr}(h:AT C env vars gl own d (eval iter env) m σ λX σ₁=>∃x,X= .str x/\Q (z1y x) (λ_=>True) σ₁):AI C env vars gl own d iter tgt m σ Q:=λA G D s hA R=>
 h.run hA R λv s₁ X D₁ σ₁ dx b c hpp=>by
  obtain⟨x,hX,q⟩:=hpp
  subst hX
  cases b with
  |str x t=>
   have rel:∀(i:Nat) v X,SignAt x i v->(z1y x)[i]? =some X->VR C.w D₁ v X:=by
    rintro i v X ⟨ch,u,hc,rfl⟩ hX
    have hc':x.cps.toList[i]? =some ch:=by simpa using hc
    simp only[z1y,List.getElem?_map,hc',Option.map_some,Option.some.injEq] at hX
    subst hX;exact .str _ _
   have len:x.cps.size=(z1y x).length:=by simp[z1y]
   have stay:∀h:Heap,y2m C D₁ (λ_=>True) h [s₁.heap.objs.size] [s₁.heap.objs.size]:=λh G' D' σ' s' R' hs hP' b hb hbw o' e'=>absurd hb hbw
   cases ha:x.cps.all (·<128)
   ·refine wpAny_pyIter_wide ha ⟨D₁,σ₁,_,λ_=>True,dx,⟨s₁.heap.objs.size,_,_,_,rfl,IW.ofWalks (Walks.strWide hA.hh s₁.heap.objs.size x t) len rel ?_ ?_ ?_,⟨_,Heap.get?_push_size _ rfl,rfl,rfl⟩,c.push _,c.offNew (z0D #[] 0),trivial,stay _⟩,q⟩
    ·rintro i h ⟨o,ho,hc,_⟩ a ha;simp at ha;subst ha;exact⟨_,ho,nfC (by rw[hc];exact frN (by decide))⟩
    ·rintro b hb hbw h _ e;exact hbw hb
    ·rintro i h ⟨o,ho,hc,_⟩;exact⟨_,_,ho,hc,by decide⟩
   ·refine wpAny_pyIter_ascii ha ⟨D₁,σ₁,_,λ_=>True,dx,⟨s₁.heap.objs.size,_,_,_,rfl,IW.ofWalks (Walks.strAscii hA.hh s₁.heap.objs.size x t) len rel ?_ ?_ ?_,⟨_,Heap.get?_push_size _ rfl,rfl,rfl⟩,c.push _,c.offNew (z0D #[] 0),trivial,stay _⟩,q⟩
    ·rintro i h ⟨o,ho,hc,_⟩ a ha;simp at ha;subst ha;exact⟨_,ho,nfC (by rw[hc];exact frN (by decide))⟩
    ·rintro b hb hbw h _ e;exact hbw hb
    ·rintro i h ⟨o,ho,hc,_⟩;exact⟨_,_,ho,hc,by decide⟩
end
end
section
class LkC (ns:List Str) (m:Loc) (x:Str) (X:outParam V):Prop where
 lk:Lk ns m x X
instance LkC.head {x:Str} {ns:List Str} {X:V} {m:Loc}:LkC (x::ns) (some X::m) x X:=⟨.head⟩
instance (priority:=low) LkC.tail {x y:Str} {ns:List Str} {X:V} {o:Option V} {m:Loc} [h:LkC ns m x X]:LkC (y::ns) (o::m) x X:=⟨.tail h.lk⟩
class PutC (ns:List Str) (m:Loc) (x:Str) (X:V) (m':outParam Loc):Prop where
 put:Put ns m x X m'
instance PutC.head {x:Str} {ns:List Str} {X:V} {o:Option V} {m:Loc}:PutC (x::ns) (o::m) x X (some X::m):=⟨.head⟩
instance (priority:=low) PutC.tail {x y:Str} {ns:List Str} {X:V} {o:Option V} {m m':Loc} [h:PutC ns m x X m']:PutC (y::ns) (o::m) x X (o::m'):=⟨.tail h.put⟩
class GInC (gl:List (Str×V)) (x:Str) (X:outParam V):Prop where
 mem:(x,X)∈gl
instance GInC.head {x:Str} {X:V} {r:List (Str×V)}:GInC ((x,X)::r) x X:=⟨List.mem_cons_self⟩
instance (priority:=low) GInC.tail {x:Str} {X:V} {p:Str×V} {r:List (Str×V)} [h:GInC r x X]:GInC (p::r) x X:=⟨List.mem_cons_of_mem _ h.mem⟩
section
variable {C:Cx} {env:Env} {vars:List Str} {gl:List (Str×V)} {own:Bool} {d:Nat} {m m':Loc} {σ σ':Sto}
variable {A:Around} {G D D₀ D₁:Gh} {s:Shared} {Q:V->Sto->Prop}
theorem PartV.is2{w:World}{x:V}{o:Option Int}(h:PartV x o){v:Value}(hv:VR w D v x):∃l:Option (Int×Tok),v=partValue l/\l.map (·.1)=o:=by
 cases h with
 |none=>rw[VR.noneI hv];exact⟨Option.none,rfl,rfl⟩
 |int i=>apply VR.intE hv;intro _;exact⟨Option.some (_,_),rfl,rfl⟩
theorem z44{x:Str}{L U:V}{lo hi:Option Int}(hL:PartV L lo)(hU:PartV U hi)(hl:x.length<=sizeLine)(q:Q (.str (Txt.slice x lo hi)) σ):SubR C d (.str x) (.slc L U .none) σ Q:=λA G D s o v hA R ho hv=>by
 obtain⟨_,rfl⟩:=VR.strI ho
 obtain⟨_,_,_,_,rfl,e,h1,h2,h3⟩:=VR.slcI hv
 ·skip
  obtain rfl:=VR.noneI h3
  obtain⟨l,rfl,rfl⟩:=hL.is2 h1
  obtain⟨u,rfl,rfl⟩:=hU.is2 h2
  refine⟨"str",_,typeIs_str _ _ _,F.slot_str_getitem.lookup,wpAny_getItem_str_slice (l:=l) (u:=u) (st:=none) ⟨_,R.d _ _ e,rfl,rfl⟩ rfl (post_val_or_str ⟨?_,λt' k=> ?_⟩)⟩
  ·exact Nat.le_trans (Txt.slice_le x _ _) hl
  ·exact PostC.now (R.tok k) (.str _ _) q
theorem y5a{w:World}{vs:List Value}{xs:List Str}(h:VRs w D vs (xs.map V.str)):∃l:List (Str×Tok),vs=strValues l/\l.map (·.1)=xs:=by
 induction xs generalizing vs with
 |nil=>rw[VRs.nilI h];exact⟨[],rfl,rfl⟩
 |cons x xs ih=>
  apply VRs.consE h;intro _ _ h1 h2
  apply VR.strE h1;intro t
  obtain⟨l,rfl,e⟩:=ih h2
  exact⟨(x,t)::l,rfl,by rw[List.map_cons,e]⟩
theorem y4x{x:V}{sep:Str}{xs:List Str}{P:Sto->Prop}(h:Has σ x (.list (xs.map V.str)) P)(hok:JoinOk sep xs=true)(q:Q (.str (Txt.join sep xs)) σ):KW C d (.bi "str.join") [.str sep,x] σ Q:=λA G D s v vs hA R hv hs=>by
 apply VR.biE hv
 apply VRs.consE hs;intro _ _ h1 h2
 ·skip
  apply VRs.consE h2;intro _ _ h3 h4
  ·skip
   apply VRs.nilE h4;apply VR.strE h1;intro _
   apply Has.isLE h R h3;intro a ws hL hr
   obtain⟨l,e,e2⟩:=y5a hr
   have:ws=(strValues l).toArray:=by rw[<-e]
   rw[this] at hL
   exact SC.join hL e2 hok λt' k=>PostC.now (R.tok k) (.str _ _) q
theorem z0d{x:Str}{p:Pos}{X:V}[h:LkC vars m x X](q:Q X σ):AT C env vars gl own d (eval (.Name x p) env) m σ Q:=z78 h.lk q
theorem z0s{x:Str}{p:Pos}{X:V}[h:GInC gl x X](q:Q X σ):AT C env vars gl own d (eval (.Name x p) env) m σ Q:=z1A h.mem q
theorem z2A{x:Str}{X:V}{m':Loc}{K:Loc->Prop}[h:PutC vars m x X m'](k:K m'):∃m',Put vars m x X m'/\K m':=⟨m',h.put,k⟩
theorem y2N{x y:Expr}{r:List Expr}{p:Pos}(h:AT C env vars gl own d (eval x env) m σ λX σ₁=>∃b,TR C d X σ₁ b/\(b=true->AT C env vars gl own d (boolOp p .And (evalEach (y::r) env)) m σ₁ Q)/\(b=false->Q X σ₁)):
  AT C env vars gl own d (boolOp p .And (evalEach (x::y::r) env)) m σ Q:=y4h h
theorem y4E{x y:Expr}{r:List Expr}{p:Pos}(h:AT C env vars gl own d (eval x env) m σ λX σ₁=>∃b,TR C d X σ₁ b/\(b=true->Q X σ₁)/\(b=false->AT C env vars gl own d (boolOp p .Or (evalEach (y::r) env)) m σ₁ Q)):
  AT C env vars gl own d (boolOp p .Or (evalEach (x::y::r) env)) m σ Q:=y42 h
theorem y1R{x:Expr}{p:Pos}(h:AT C env vars gl own d (eval x env) m σ Q):AT C env vars gl own d (boolOp p .And (evalEach [x] env)) m σ Q:=h
theorem y2T{x:Expr}{p:Pos}(h:AT C env vars gl own d (eval x env) m σ Q):AT C env vars gl own d (boolOp p .Or (evalEach [x] env)) m σ Q:=h
variable {QS:Fl->Loc->Sto->Prop} {rest:List Stmt} {X:V}
theorem z1m{K:V->Sto->Prop}(q:K .none σ):APart C env vars gl own d none m σ K:=q
theorem z17{e:Expr}{K:V->Sto->Prop}(q:AT C env vars gl own d (eval e env) m σ K):APart C env vars gl own d (some e) m σ K:=q
theorem GL_nil:∀p∈([]:List (Str×V)),z0j C p.1 p.2:=λp h=>by cases h
theorem z0a{x:Str}{X:V}{r:List (Str×V)}(h:z0j C x X)(t:∀p∈r,z0j C p.1 p.2):∀p∈(x,X)::r,z0j C p.1 p.2:=λp hp=>by
 rcases List.mem_cons.mp hp with rfl|hp
 ·exact h
 ·exact t p hp
theorem z0q{n:String}:z0l C (.bi n):=trivial
theorem z0u{n:String}:z0l C (.type n):=trivial
theorem z0e{K:W.Frag}(H:K.In C.base){a:Addr}{o:Obj}{fd:FuncData}(e1:K.lookup a=some o)(e2:o.data= .func fd):z0l C (.ref a):=⟨o,fd,H a o e1,e2⟩
theorem fnc{a:Addr}{xs:List V}(h:CW C d (.ref a) xs σ Q):KW C d (.ref a) xs σ Q:=z7P h
theorem z0r{sc:Scope}{env env':Env}{x:Str}(hsc:env'.scope=relabel sc env)(h:sc.names.lookup x=some .local):env'.kindOf x=some .local:=by
 show env'.scope.names.lookup x=some .local
 rw[hsc];exact lookup_relabel_local h
section
variable {x:Str} {pp:Pos} {caps:List Str} {elt c:Expr} {ms:Loc} {P:Sto->Prop} {Z:List V->Sto->Prop}
theorem z0K{f:V->V}(hk:env.kindOf x=some .local)(hP:P σ)(xs:List V):
  ∀(acc:List V) (o:Option V),(∀X∈xs,∀K:V->Sto->Prop,K (f X) σ->AT C env (x::caps) gl false d (eval elt env) (some X::ms) σ K)->Z (acc++xs.map f) σ->
   z04 C env (x::caps) gl d (.Name x pp) elt [] P Z xs acc (o::ms) σ:=by
 induction xs with
 |nil=>intro acc o _ q;simpa[z04] using q
 |cons X xs ih=>
  intro acc o h q
  refine z0w Put.head ?_ (.inr hk)
  refine⟨λ_=>h X (.head _) _ ⟨hP,ih (acc++[f X]) (some X) (λY hY=>h Y (.tail _ hY)) (by simpa using q)⟩,λe=>by cases e⟩
theorem z2J{f:V->V}{t:V->Bool}(hk:env.kindOf x=some .local)(hP:P σ)(xs:List V):
  ∀(acc:List V) (o:Option V),(∀X∈xs,∀K:Bool->Sto->Prop,K (t X) σ->AB C env (x::caps) gl false d (isTrue c env (eval c env)) (some X::ms) σ K)->
   (∀X∈xs,t X=true->∀K:V->Sto->Prop,K (f X) σ->AT C env (x::caps) gl false d (eval elt env) (some X::ms) σ K)->Z (acc++(xs.filter t).map f) σ->
   z04 C env (x::caps) gl d (.Name x pp) elt [c] P Z xs acc (o::ms) σ:=by
 induction xs with
 |nil=>intro acc o _ _ q;simpa[z04] using q
 |cons X xs ih=>
  intro acc o ht h q
  refine z0w Put.head ?_ (.inr hk)
  refine ht X (.head _) _ ⟨λe=>h X (.head _) e _ ⟨hP,ih (acc++[f X]) (some X) (λY hY=>ht Y (.tail _ hY)) (λY hY=>h Y (.tail _ hY)) ?_⟩,λe=>⟨hP,ih acc (some X) (λY hY=>ht Y (.tail _ hY)) (λY hY=>h Y (.tail _ hY)) ?_⟩⟩
  ·simpa[List.filter_cons,e] using q
  ·simpa[List.filter_cons,e] using q
theorem z83{R:V->V->Prop}(hk:env.kindOf x=some .local)(hP:P σ)(xs:List V):
  ∀(acc:List V) (o:Option V),(∀X∈xs,∀K:V->Sto->Prop,(∀Y,R X Y->K Y σ)->AT C env (x::caps) gl false d (eval elt env) (some X::ms) σ K)->
   (∀ys:List V,ys.length=xs.length->(∀y∈ys,∃X∈xs,R X y)->Z (acc++ys) σ)->z04 C env (x::caps) gl d (.Name x pp) elt [] P Z xs acc (o::ms) σ:=by
 induction xs with
 |nil=>intro acc o _ q;simpa[z04] using q [] rfl (λy hy=>by cases hy)
 |cons X xs ih=>
  intro acc o h q
  refine z0w Put.head ?_ (.inr hk)
  refine⟨λ_=>h X (.head _) _ λY hY=>⟨hP,ih (acc++[Y]) (some X) (λY hY=>h Y (.tail _ hY)) λys hl hys=> ?_⟩,λe=>by cases e⟩
  have:=q (Y::ys) (by simp[hl]) (λy hy=>by
   rcases List.mem_cons.mp hy with rfl|hy
   ·exact⟨X,.head _,hY⟩
   ·obtain⟨Z,h1,h2⟩:=hys y hy;exact⟨Z,.tail _ h1,h2⟩)
  simpa using this
end
section
variable {elt tgt iter:Expr} {ifs:List Expr} {scope:Scope} {pos p' p:Pos} {y:Str} {ms:Loc} {QS:Fl->Loc->Sto->Prop}
theorem z0H(x:Str)(caps:List Str)(gl':List (Str×V))
  (hok:z2c scope env.scope vars [x] caps (gl'.map (·.1))=true) (hgl:∀p∈gl',z0j C p.1 p.2) (hcaps:Caps vars m caps ms)
  (h:AI C env vars gl own d iter tgt m σ λxs Pp σ₁=>xs.length<=sizeLine/\∀env',env'.scope=relabel scope env->
   z04 C env' (x::caps) gl' d tgt elt ifs Pp (λys σ₂=>Q (.lst ys) σ₂) xs [] (none::ms) σ₁)
  (hs:autoParam (∀x,foldedSetIterable iter env x=pure x) auF):
  AT C env vars gl own d (eval (.ListComp elt [⟨tgt,iter,ifs,0⟩] scope pos) env) m σ Q:=z8v [x] caps gl' hok hgl hcaps h hs
theorem z1v(x:Str)(caps:List Str)(gl':List (Str×V))
  (hsw:swapsWith (.ListComp elt [⟨tgt,iter,ifs,0⟩] scope pos) (some (.Name y p')) p.line env=pure true)
  (hok:z2c scope env.scope vars [x] caps (gl'.map (·.1))=true) (hgl:∀p∈gl',z0j C p.1 p.2) (hcaps:Caps vars m caps ms)
  (h:AI C env vars gl own d iter tgt m σ λxs Pp σ₁=>xs.length<=sizeLine/\∀env',env'.scope=relabel scope env->
   z04 C env' (x::caps) gl' d tgt elt ifs Pp (λys σ₂=>∃m',Put vars m y (.lst ys) m'/\QS .next m' σ₂) xs [] (none::ms) σ₁)
  (hown:autoParam (own=true) auR) (hs:autoParam (∀x,foldedSetIterable iter env x=pure x) auF):
  AS C env vars gl own d (exec (.Assign [.Name y p'] (.ListComp elt [⟨tgt,iter,ifs,0⟩] scope pos) p) env) m σ QS:=z5T [x] caps gl' hsw hok hgl hcaps h hown hs
theorem z5w(x:Str)(caps:List Str)(gl':List (Str×V))
  (hsw:swapsWith (.ListComp elt [⟨tgt,iter,ifs,0⟩] scope pos) (some (.Name y p')) p.line env=pure true)
  (hok:z2c scope env.scope vars [x] caps (gl'.map (·.1))=true) (hgl:∀p∈gl',z0j C p.1 p.2) (hcaps:Caps vars m caps ms)
  (h:AI C env vars gl own d iter tgt m σ λxs Pp σ₁=>xs.length<=sizeLine/\∀env',env'.scope=relabel scope env->
   z04 C env' (x::caps) gl' d tgt elt ifs Pp (λys σ₂=>∀a o,∃m',Put vars m y (.ref a) m'/\QS .next m' ((a,o,.list ys)::σ₂)) xs [] (none::ms) σ₁)
  (hown:autoParam (own=true) auR) (hs:autoParam (∀x,foldedSetIterable iter env x=pure x) auF):
  AS C env vars gl own d (exec (.Assign [.Name y p'] (.ListComp elt [⟨tgt,iter,ifs,0⟩] scope pos) p) env) m σ QS:=z5V [x] caps gl' hsw hok hgl hcaps h hown hs
end
theorem z2d{Xs:List V}(q:Q (.lst Xs) σ):NLq Q Xs σ:=Or.inl q
theorem y5j{Xs:List V}(q:∀a o,Q (.ref a) ((a,o,.list Xs)::σ)):NLq Q Xs σ:=Or.inr q
theorem z8P{n:Int}(h:n.natAbs<2^64):n.natAbs.log2<1920:=by
 by_cases h0:n.natAbs=0
 ·rw[h0];decide
 ·exact Nat.lt_of_lt_of_le ((Nat.log2_lt h0).mpr h) (by decide)
theorem y3V{a b:Bool}(q:Q (.bool (a==b)) σ):AC2 C d (compareOp .Is) (.bool a) (.bool b) σ Q:=λA G D s v u hA R hv hu=>by
 apply VR.boolE hv;apply VR.boolE hu
 exact wpAny_bind (m:=isSame (.bool a) (.bool b)) (wpAny_pure (wpAny_pure (PostC.now R (z9y a b▸ .bool _) q)))
theorem y0h{a b:Bool}(q:Q (.bool (!(a==b))) σ):AC2 C d (compareOp .IsNot) (.bool a) (.bool b) σ Q:=λA G D s v u hA R hv hu=>by
 apply VR.boolE hv;apply VR.boolE hu
 exact wpAny_bind (m:=isSame (.bool a) (.bool b)) (wpAny_pure (wpAny_pure (PostC.now R (z9y a b▸ .bool _) q)))
theorem z0y{n:Nat}(h:n<=100000):n<=sizeLine:=Nat.le_trans h (by decide)
theorem qB{a b:Bool}(q:Q (.bool a) σ)(e:a=b):Q (.bool b) σ:=e▸q
theorem z9e{xs:List V}{lo hi st:Option Int}:∀x∈slL xs lo hi st,x∈xs:=λx h=>by
 unfold slL at h
 obtain⟨i,_,e⟩:=List.mem_filterMap.mp h
 exact List.mem_of_getElem? e
theorem y31{a b:Int}{n:Nat}(h0:0<=a)(h1:b<=n):(sliceRange a b 1).length<=n:=by
 unfold sliceRange
 rw[List.length_map,List.length_range,if_pos (by decide)]
 split
 ·rw[Int.ediv_one];lia
 ·exact Nat.zero_le _
theorem y4P(l u:Option Int)(n:Nat):(sliceRange (sliceBounds l u none n).1 (sliceBounds l u none n).2.1 (sliceBounds l u none n).2.2).length<=n:=by
 refine y31 ?_ ?_
 ·cases l with
  |none=>exact Int.le_refl 0
  |some i=>exact Int.le_max_left 0 _
 ·cases u with
  |none=>exact Int.le_refl _
  |some i=>exact Int.max_le.mpr ⟨Int.natCast_nonneg n,Int.min_le_right _ _⟩
theorem y3W{xs:List V}{lo hi:Option Int}:(slL xs lo hi none).length<=xs.length:=by
 unfold slL
 exact Nat.le_trans (List.length_filterMap_le _ _) (y4P _ _ _)
end
end
section
structure KK(prog:Program)(w:World)(K:Type)[DecidableEq K] where
 knd:KeyKind prog w K
 v:K->V
 isOf:∀{D:Gh} {x:Value} {k:K},VR w D x (v k)->knd.is k x=true
 ofIs:∀{D:Gh} {x:Value} {k:K},knd.is k x=true->VR w D x (v k)
 hashOf:∀{k:K} {h:Int},KH w (v k) h->h=knd.hash k
 ofHash:∀{k:K},KH w (v k) (knd.hash k)
 part:∀{D:Gh} {x:Value} {k:K},VR w D x (v k)->(keyPart x).isSome=true
noncomputable def KK.int(prog:Program)(w:World):KK prog w Int where
 knd:=intKind prog w
 v:=V.int
 isOf:=λh=>by apply VR.intE h;intro _;exact beq_self_eq_true _
 ofIs:=λ{D x k} h=>by obtain⟨t,rfl⟩:=Value.isInt_shape (show Value.isInt k x=true from h);exact .int _ _
 hashOf:=λh=>h
 ofHash:=rfl
 part:=λh=>by apply VR.intE h;intro _;rfl
noncomputable def KK.str(prog:Program)(w:World):KK prog w Str where
 knd:=strKind prog w
 v:=V.str
 isOf:=λh=>by apply VR.strE h;intro _;exact beq_self_eq_true _
 ofIs:=λ{D x k} h=>by obtain⟨t,rfl⟩:=Value.isStrOf_shape (show Value.isStrOf k x=true from h);exact .str _ _
 hashOf:=λh=>h
 ofHash:=rfl
 part:=λh=>by apply VR.strE h;intro _;rfl
section
variable {C:Cx} {d:Nat} {σ:Sto} {Q:V->Sto->Prop} {G D:Gh} {s:Shared} {A:Around} {K:Type} [DecidableEq K]
noncomputable def z06(kk:KK C.prog C.w K)(kvs:List (K×V)):List (V×V):=kvs.map λp=>(kk.v p.1,p.2)
inductive KR(w:World)(D:Gh):List (K×Value)->List (K×V)->Prop
 |nil:KR w D [] []
 |cons {k:K} {v:Value} {x:V} {l:List (K×Value)} {r:List (K×V)}:VR w D v x->KR w D l r->KR w D ((k,v)::l) ((k,x)::r)
theorem KR.keys{w:World}{l:List (K×Value)}{r:List (K×V)}(h:KR w D l r):l.map (·.1)=r.map (·.1):=by
 induction h with
 |nil=>rfl
 |cons _ _ ih=>simp[ih]
theorem KR.length{w:World}{l:List (K×Value)}{r:List (K×V)}(h:KR w D l r):l.length=r.length:=by
 induction h with
 |nil=>rfl
 |cons _ _ ih=>simp[ih]
theorem VRd.pairs(kk:KK C.prog C.w K){es:List DictEntry}{kvs:List (K×V)}(h:VRd C.w D es (z06 kk kvs)):
  ∃cvs,Pairs kk.knd es cvs/\KR C.w D cvs kvs/\∀e∈es,∃k,kk.knd.is k e.key=true/\e.hash=kk.knd.hash k:=by
 induction kvs generalizing es with
 |nil=>rw[VRd.nilI h];exact⟨[],.nil,.nil,λ_ h=>by cases h⟩
 |cons p kvs ih=>
  obtain⟨e,r,rfl,h1,h2,h3,h4⟩:=VRd.consI h
  obtain⟨cvs,p1,q,r⟩:=ih h4
  refine⟨(p.1,e.val)::cvs,.cons (kk.isOf h2) rfl p1,.cons h3 q,λe' he=> ?_⟩
  rcases List.mem_cons.mp he with rfl|he
  ·exact⟨_,kk.isOf h2,kk.hashOf h1⟩
  ·exact r e' he
theorem VRd.ofPairs(kk:KK C.prog C.w K){es:List DictEntry}{cvs:List (K×Value)}{kvs:List (K×V)}(p:Pairs kk.knd es cvs)(q:KR C.w D cvs kvs)(r:∀e∈es,∃k,kk.knd.is k e.key=true/\e.hash=kk.knd.hash k):
  VRd C.w D es (z06 kk kvs):=by
 induction q generalizing es with
 |nil=>cases p;exact .nil
 |cons h1 _ ih=>
  cases p with
  | @cons e _ es _ p1 p2 p3=>
   obtain⟨k',i1,i2⟩:=r e (.head _)
   have ek:=kk.knd.inj _ _ _ i1 p1
   subst ek
   exact .cons (by rw[i2];exact kk.ofHash) (kk.ofIs p1) (by rw[p2];exact h1) (ih p3 λe he=>r e (.tail _ he))
theorem Has.isD(kk:KK C.prog C.w K){x:V}{kvs:List (K×V)}{P:Sto->Prop}(h:Has σ x (.dict (z06 kk kvs)) P)(hn:(kvs.map (·.1)).Nodup)(R:RelC C G D σ s){v:Value}(hv:VR C.w D v x):
  ∃a cvs,v= .ref a/\s.heap.DictOf kk.knd a cvs/\KR C.w D cvs kvs:=by
 obtain⟨a,o,rfl,ho,⟨es,n,rfl,hr⟩,_⟩:=h.run R hv
 obtain⟨cvs,p,q,r⟩:=VRd.pairs kk hr
 exact⟨a,cvs,rfl,⟨_,es,n,ho,⟨rfl,rfl,rfl⟩,rfl,λe he=>r e (by simpa using he),p,by rw[q.keys];exact hn⟩,q⟩
inductive DcH(C:Cx)(kk:KK C.prog C.w K)(D:Gh)(s:Shared)(a:Addr)(kvs:List (K×V)):Prop
 |mk (cvs:List (K×Value)):s.heap.DictOf kk.knd a cvs->KR C.w D cvs kvs->DcH C kk D s a kvs
theorem RelC.dcH(R:RelC C G D σ s)(kk:KK C.prog C.w K){kvs:List (K×V)}{a:Addr}{o:Obj}(hm:(a,o,AO.dict (z06 kk kvs))∈σ)(hn:(kvs.map (·.1)).Nodup):DcH C kk D s a kvs:=by
 obtain⟨b,cvs,e,hD,hk⟩:=(Has.refD hm).isD kk hn R (.ref a)
 cases e
 exact⟨cvs,hD,hk⟩
noncomputable def vAt(kvs:List (K×V))(k:K):Option V:=(kvs.find? λp=>p.1=k).map (·.2)
theorem KR.at{w:World}{l:List (K×Value)}{r:List (K×V)}(h:KR w D l r)(k:K):
  (valueAt l k=none/\vAt r k=none)∨∃v x,valueAt l k=some v/\vAt r k=some x/\VR w D v x:=by
 induction h with
 |nil=>exact .inl ⟨rfl,rfl⟩
 | @cons k' v x l r hv _ ih=>
  by_cases e:k'=k
  ·exact .inr ⟨v,x,by simp[valueAt,e],by simp[vAt,e],hv⟩
  ·have e1:valueAt ((k',v)::l) k=valueAt l k:=by simp[valueAt,List.find?_cons,e]
   have e2:vAt ((k',x)::r) k=vAt r k:=by simp[vAt,List.find?_cons,e]
   rw[e1,e2];exact ih
theorem y2j(kk:KK C.prog C.w K){x X:V}{kvs:List (K×V)}{k:K}{P:Sto->Prop}(h:Has σ x (.dict (z06 kk kvs)) P)(hn:(kvs.map (·.1)).Nodup)(hx:vAt kvs k=some X)(q:Q X σ):SubR C d x (kk.v k) σ Q:=λA G D s o v hA R ho hv=>by
 obtain⟨a,cvs,rfl,hD,hk⟩:=h.isD kk hn R ho
 rcases hk.at k with⟨_,e⟩|⟨u,Y,e1,e2,hu⟩
 ·rw[hx] at e;cases e
 ·rw[hx] at e2;cases e2
  exact⟨"dict",_,hD.typeIs,slot_dict_getitem.lookup,wpAny_getItem_of (kk.isOf hv) hD.mapOf e1 (PostC.now (R.tok _) hu q)⟩
noncomputable def z0N(C:Cx):Prop:=∃o,C.base.get? sysModules=some o
theorem RelC.notSys(R:RelC C G D σ s)(hs:z0N C){a:Addr}{o:Obj}{x:AO}(hm:(a,o,x)∈σ):(a==sysModules)=false:=by
 obtain⟨ob,hb⟩:=hs
 cases e:a==sysModules with
 |false=>rfl
 |true=>
  have:a=sysModules:=by simpa using e
  have h1:=R.offG a (z4m hm)
  rw[this,R.base _ _ hb] at h1;cases h1
theorem y3H(kk:KK C.prog C.w K){a:Addr}{o:Obj}{kvs:List (K×V)}{k:K}(hs:z0N C)(hm:(a,o,AO.dict (z06 kk kvs))∈σ)(hn:(kvs.map (·.1)).Nodup)(q:Q (.bool (vAt kvs k).isSome) σ):
  AC2 C d (compareOp .In) (kk.v k) (.ref a) σ Q:=λA G D s v u hA R hv hu=>by
 obtain⟨b,cvs,e,hD,hk⟩:=(Has.refD hm).isD kk hn R hu
 obtain rfl:=VR.refI hu;cases e
 refine wpAny_in_of (kk.isOf hv) (R.notSys hs hm) hD.mapOf ?_
 have:(valueAt cvs k).isSome=(vAt kvs k).isSome:=by
  rcases hk.at k with⟨e1,e2⟩|⟨_,_,e1,e2,_⟩<;>rw[e1,e2]<;>rfl
 rw[this]
 exact PostC.now (R.tok _) (.bool _) q
end
end
section
section
variable {C:Cx} {env:Env} {vars:List Str} {gl:List (Str×V)} {own:Bool} {d:Nat} {m m':Loc} {σ:Sto} {σ':Obj->Sto} {Q:V->Sto->Prop} {G D:Gh} {s:Shared} {A:Around} {K:Type} [DecidableEq K]
set_option tactic.hygienic true in
theorem z5f{a:Addr}{o:Obj}{xs:List V}{X:V}(U:∀o',Upd a o (.list xs) o' (.list (xs++[X])) σ (σ' o'))(hl:xs.length<=sizeLine)(q:∀o',Q .none (σ' o')):
  KW C d (.bi "list.append") [.ref a,X] σ Q:=λA G D s v vs hA R hv hs=>by
 obtain rfl:=VR.biI hv
 obtain⟨_,_,rfl,h1,h2⟩:=VRs.consI hs
 ·skip
  obtain⟨_,_,rfl,h3,h4⟩:=VRs.consI h2
  ·skip
   obtain rfl:=VRs.nilI h4;obtain rfl:=VR.refI h1
   have hm:(a,o,AO.list xs)∈σ:=by obtain⟨u,w,e,_⟩:=(U o).split;rw[e];simp
   obtain⟨ws,n,rfl,hr⟩:=R.sto _ hm
   have ho:s.heap.get? a=some (z0D ws n):=R.pl _ hm
   have hz0:True:=trivial
   have hz:ws.size=xs.length:=by rw[<-hr.length];simp
   refine PyProof.Rows.append_at (its:=ws) (n:=n) ho (λh' hs' ho'=> ?_) (by rw[hz];exact hl)
   rename_i y
   refine⟨.none,D,σ' (z0D (ws.push y) (n+1)),DX.refl _ _,.none,?_,q _⟩
   have:=R.upd (U (z0D (ws.push y) (n+1))) s.toks (z1b _ _) hs' rfl ho' ⟨_,_,rfl,by simpa using hr.append (.cons h3 .nil)⟩
   exact this
noncomputable def z1w(kvs:List (K×V))(k:K)(x:V):List (K×V):=if kvs.any (λkv=>kv.1=k) then kvs.map (λkv=>if kv.1=k then(kv.1,x) else kv) else kvs++[(k,x)]
theorem KR.append{w:World}{l l':List (K×Value)}{r r':List (K×V)}(h:KR w D l r)(h':KR w D l' r'):KR w D (l++l') (r++r'):=by
 induction h with
 |nil=>exact h'
 |cons hv _ ih=>exact .cons hv ih
theorem KR.map{w:World}{l:List (K×Value)}{r:List (K×V)}(h:KR w D l r){k:K}{v:Value}{x:V}(hv:VR w D v x):
  KR w D (l.map λkv=>if kv.1=k then(kv.1,v) else kv) (r.map λkv=>if kv.1=k then(kv.1,x) else kv):=by
 induction h with
 |nil=>exact .nil
 | @cons k' u y l r hu _ ih=>
  simp only[List.map_cons]
  by_cases e:k'=k
  ·rw[if_pos e,if_pos e];exact .cons hv ih
  ·rw[if_neg e,if_neg e];exact .cons hu ih
theorem KR.any{w:World}{l:List (K×Value)}{r:List (K×V)}(h:KR w D l r)(k:K):(l.any λkv=>kv.1=k)=(r.any λkv=>kv.1=k):=by
 induction h with
 |nil=>rfl
 |cons _ _ ih=>simp only[List.any_cons,ih]
theorem KR.stored{w:World}{l:List (K×Value)}{r:List (K×V)}(h:KR w D l r){k:K}{v:Value}{x:V}(hv:VR w D v x):KR w D (PySem.stored l k v) (z1w r k x):=by
 unfold PySem.stored z1w
 rw[h.any k]
 split
 ·exact h.map hv
 ·exact h.append (.cons hv .nil)
theorem HR.ofDict(kk:KK C.prog C.w K){h:Heap}{a:Addr}{cvs:List (K×Value)}{kvs:List (K×V)}(hD:h.DictOf kk.knd a cvs)(hk:KR C.w D cvs kvs):
  ∃o,h.get? a=some o/\HR C.w D o (.dict (z06 kk kvs)):=by
 obtain⟨o,es,ep,ho,⟨hc,hd,hsl⟩,hdat,hks,hp,_⟩:=hD
 have eo:o=z2m es ep:=by cases o;simp_all
 exact⟨o,ho,es,ep,eo,VRd.ofPairs kk hp hk λe he=>hks e (by simpa using he)⟩
theorem z7q(kk:KK C.prog C.w K){a:Addr}{o:Obj}{kvs:List (K×V)}{k:K}{X:V}{key v:Value}{Z:Unit->Shared->Prop}{E:Value->Shared->Prop}(U:∀o',Upd a o (.dict (z06 kk kvs)) o' (.dict (z06 kk (z1w kvs k X))) σ (σ' o'))(hn:(kvs.map (·.1)).Nodup)(hl:kvs.length<=sizeLine)
  (R:RelC C G D σ s) (hkey:VR C.w D key (kk.v k)) (hv:VR C.w D v X) (q:∀o' s',RelC C G D (σ' o') s'->Z () s'):wpAny C.M A (setItem (.ref a) key v) Z E s:=by
 have hm:(a,o,AO.dict (z06 kk kvs))∈σ:=by obtain⟨u,w,e,_⟩:=(U o).split;rw[e];simp
 obtain⟨cvs,hD,hk⟩:=RelC.dcH R kk hm hn
 refine wpAny_setItem_pairs (kk.isOf hkey) hD (λh' hD' hs'=> ?_) (by rw[hk.length];exact hl)
 obtain⟨o',ho',hr'⟩:=HR.ofDict kk hD' (hk.stored hv)
 exact q o' _ (R.upd (U o') (s.toks+1) (z1b _ _) hs' rfl ho' hr')
end
end
section
section
variable {C:Cx} {env:Env} {vars:List Str} {gl:List (Str×V)} {own:Bool} {d:Nat} {m m':Loc} {σ:Sto} {σ':Obj->Sto} {Q:V->Sto->Prop} {G D:Gh} {s:Shared} {A:Around} {K:Type} [DecidableEq K]
theorem y4c(kk:KK C.prog C.w K){a:Addr}{o:Obj}{kvs:List (K×V)}{k:K}{X:V}(hs:z0N C)(hm:(a,o,AO.dict (z06 kk kvs))∈σ)(hn:(kvs.map (·.1)).Nodup)(q:Q ((vAt kvs k).getD X) σ):
  KW C d (.bi "dict.get") [.ref a,kk.v k,X] σ Q:=λA G D s v vs hA R hv hss=>by
 apply VR.biE hv
 apply VRs.consE hss;intro _ _ h1 h2
 ·skip
  apply VRs.consE h2;intro _ _ h3 h4
  ·skip
   cases h4 with
   |cons h5 h6=>
    cases h6;apply VR.refE h1
    obtain⟨cvs,hD,hk⟩:=RelC.dcH R kk hm hn
    refine call_meetsIn F.slot_dict_get hD.typeIs F.entry_dict_get (F.args_dict_get_3 _ _ _) (meets_dict_get_default kk.knd a (kk.isOf h3) (R.notSys hs hm) _) ⟨_,hD.mapOf,?_⟩
    rcases hk.at k with⟨e1,e2⟩|⟨_,_,e1,e2,hu⟩
    ·rw[e1];rw[e2] at q;exact PostC.now (R.tok _) h5 q
    ·rw[e1];rw[e2] at q;exact PostC.now (R.tok _) hu q
noncomputable def z5P(kvs:List (K×V))(k:K):List (K×V):=kvs.filter λkv=>decide (kv.1≠k)
theorem KR.without{w:World}{l:List (K×Value)}{r:List (K×V)}(h:KR w D l r)(k:K):KR w D (PySem.without l k) (z5P r k):=by
 unfold PySem.without z5P
 induction h with
 |nil=>exact .nil
 | @cons k' u y l r hu _ ih=>
  by_cases e:k'=k
  ·simpa[List.filter_cons,e] using ih
  ·simpa[List.filter_cons,e] using KR.cons hu ih
noncomputable def SetR(C:Cx)(d:Nat)(x i v:V)(σ:Sto)(P:Sto->Prop):Prop:=
 ∀A G D s o k u,AOk C A d->RelC C G D σ s->VR C.w D o x->VR C.w D k i->VR C.w D u v->wpAny C.M A (setItem o k u) (λ_ s'=>∃D' σ',DX G D D'/\RelC C G D' σ' s'/\P σ') (λ_ _=>False) s
theorem z5K(kk:KK C.prog C.w K){a:Addr}{o:Obj}{kvs:List (K×V)}{k:K}{X:V}{P:Sto->Prop}(U:∀o',Upd a o (.dict (z06 kk kvs)) o' (.dict (z06 kk (z1w kvs k X))) σ (σ' o'))(hn:(kvs.map (·.1)).Nodup)(hl:kvs.length<=sizeLine)(q:∀o',P (σ' o')):
  SetR C d (.ref a) (kk.v k) X σ P:=λA G D s o k' u hA R ho hk hu=>by
 cases ho
 exact z7q kk U hn hl R hk hu λo' s' R'=>⟨D,_,DX.refl _ _,R',q o'⟩
variable {QS:Fl->Loc->Sto->Prop}
theorem z8u{o i value:Expr}{p' p:Pos}(h:AT C env vars gl own d (eval value env) m σ λX σ₁=>AT C env vars gl own d (eval o env) m σ₁ λY σ₂=>AT C env vars gl own d (eval i env) m σ₂ λI σ₃=>SetR C d Y I X σ₃ λσ₄=>QS .next m σ₄)
  (hs:autoParam (swapsWith value (some (.Subscript o i p')) p.line env=pure false) auR):AS C env vars gl own d (exec (.Assign [.Subscript o i p'] value p) env) m σ QS:=λA G D s hA R=>
 wpAny_Assign_Subscript (h.run hA R λv s₁ X D₁ σ₁ a b c e=>e.run hA c λu s₂ Y D₂ σ₂ a' b' c' e'=>e'.run hA c' λw s₃ I D₃ σ₃ a₃ b₃ c₃ e₃=>
  wpAny_mono (e₃ A _ D₃ s₃ u w v hA c₃.lifted (b'.mono a₃.sub) b₃ (b.mono (a'.trans a₃).sub)) (λ_ s₄ hpp=>by obtain⟨D₄,σ₄,dx,R₄,q⟩:=hpp;exact⟨.next,m,D₄,σ₄,((a.trans a').trans a₃).trans (c₃.dx dx),trivial,c₃.back R₄ dx,q⟩) λ_ _ e=>e) hs
end
end
section
section
variable {C:Cx} {env:Env} {vars:List Str} {gl:List (Str×V)} {own:Bool} {d:Nat} {m m':Loc} {σ:Sto} {QS:Fl->Loc->Sto->Prop}
theorem y2Z{test:Expr}{body:List Stmt}{p:Pos}(I:Nat->Loc->Sto->Prop)
  (turn:∀n m σ,I n m σ->AB C env vars gl own d (isTrue test env (eval test env)) m σ λb σ₁=>
   (b=true->AS C env vars gl own d (execs body env) m σ₁ λfl m₂ σ₂=>match fl with
    | .next=>∃k,k<n/\I k m₂ σ₂
    | .cont=>∃k,k<n/\I k m₂ σ₂
    | .brk=>QS .next m₂ σ₂
    | .ret v=>QS (.ret v) m₂ σ₂)/\(b=false->QS .next m σ₁))
  (n:Nat) (h:I n m σ):AS C env vars gl own d (exec (.While test body [] p) env) m σ QS:=λA G D s hA R=>by
 refine wpAny_While (codeAny_whileLoop (λn s'=>∃m' D' σ',DX G D D'/\RelF C env vars gl own G D' m' σ' s'/\I n m' σ') ?_ n ⟨m,D,σ,DX.refl _ _,R,h⟩)
 rintro n s' ⟨m',D',σ',dx,R',hI⟩
 refine wpAny_mono ((turn n m' σ' hI).run hA R' λb s₁ D₁ σ₁ a c e=> ?_) (λ_ _ e=>e) λ_ _ e=>e.elim
 cases b with
 |true=>
  rw[if_pos rfl]
  refine wpAny_mono ((e.1 rfl).run hA c λf s₂ fl m₂ D₂ σ₂ a₂ hfl R₂ q=> ?_) (λ_ _ e=>e) λ_ _ e=>e.elim
  have dx2:=(dx.trans a).trans a₂
  cases f<;>cases fl<;>first|exact hfl.elim|skip
  ·obtain⟨k,hk,hI'⟩:=q;exact⟨k,hk,m₂,D₂,σ₂,dx2,R₂,hI'⟩
  ·exact⟨.next,m₂,D₂,σ₂,dx2,trivial,R₂,q⟩
  ·obtain⟨k,hk,hI'⟩:=q;exact⟨k,hk,m₂,D₂,σ₂,dx2,R₂,hI'⟩
  ·exact⟨.ret _,m₂,D₂,σ₂,dx2,hfl,R₂,q⟩
 |false=>
  rw[if_neg (by decide)]
  exact wpAny_execs_nil ⟨.next,m',D₁,σ₁,dx.trans a,trivial,c,e.2 rfl⟩
theorem z8i{test:Expr}{body:List Stmt}{p:Pos}(I:Nat->Loc->Sto->Prop)
  (turn:∀n m σ,I n m σ->∀QB:Fl->Loc->Sto->Prop,(∀k m σ,k<n->I k m σ->QB .next m σ)->AB C env vars gl own d (isTrue test env (eval test env)) m σ λb σ₁=>
   (b=true->AS C env vars gl own d (execs body env) m σ₁ QB)/\(b=false->QS .next m σ₁))
  (n:Nat) (h:I n m σ):AS C env vars gl own d (exec (.While test body [] p) env) m σ QS:=
 y2Z I (λn m σ hI=>turn n m σ hI _ λk m σ hk hI=>⟨k,hk,hI⟩) n h
end
end
section
theorem M_append:MethIs "list" "append" "list.append":=⟨F.plainAttrs_list,F.slot_list_append,F.type_list_append⟩
theorem M_lpop:MethIs "list" "pop" "list.pop":=⟨F.plainAttrs_list,F.slot_list_pop,F.type_list_pop⟩
theorem M_lclear:MethIs "list" "clear" "list.clear":=⟨F.plainAttrs_list,F.slot_list_clear,F.type_list_clear⟩
theorem M_get:MethIs "dict" "get" "dict.get":=⟨F.plainAttrs_dict,F.slot_dict_get,F.type_dict_get⟩
theorem M_pop:MethIs "dict" "pop" "dict.pop":=⟨F.plainAttrs_dict,F.slot_dict_pop,F.type_dict_pop⟩
theorem M_setdefault:MethIs "dict" "setdefault" "dict.setdefault":=⟨F.plainAttrs_dict,F.slot_dict_setdefault,F.type_dict_setdefault⟩
theorem M_update:MethIs "dict" "update" "dict.update":=⟨F.plainAttrs_dict,F.slot_dict_update,F.type_dict_update⟩
theorem M_clear:MethIs "dict" "clear" "dict.clear":=⟨F.plainAttrs_dict,F.slot_dict_clear,F.type_dict_clear⟩
section
variable {C:Cx} {env:Env} {vars:List Str} {gl:List (Str×V)} {own:Bool} {d:Nat} {m m':Loc} {σ:Sto} {σ':Obj->Sto} {Q:V->Sto->Prop} {G D:Gh} {s:Shared} {A:Around} {K:Type} [DecidableEq K]
theorem y4o(kk:KK C.prog C.w K){a:Addr}{o:Obj}{kvs:List (K×V)}{k:K}{X:V}(U:∀o',Upd a o (.dict (z06 kk kvs)) o' (.dict (z06 kk (z5P kvs k))) σ (σ' o'))(hn:(kvs.map (·.1)).Nodup)(hl:kvs.length<=sizeLine)(hx:vAt kvs k=some X)(q:∀o',Q X (σ' o')):
  KW C d (.bi "dict.pop") [.ref a,kk.v k] σ Q:=λA G D s v vs hA R hv hss=>by
 apply VR.biE hv
 apply VRs.consE hss;intro _ _ h1 h2
 ·skip
  apply VRs.consE h2;intro _ _ h3 h4
  ·skip
   apply VRs.nilE h4;apply VR.refE h1
   have hm:(a,o,AO.dict (z06 kk kvs))∈σ:=by obtain⟨u,w,e,_⟩:=(U o).split;rw[e];simp
   obtain⟨cvs,hD,hk⟩:=RelC.dcH R kk hm hn
   rcases hk.at k with⟨_,e2⟩|⟨u,Y,e1,e2,hu⟩
   ·rw[hx] at e2;cases e2
   ·rw[hx] at e2;cases e2
    refine call_meetsIn F.slot_dict_pop hD.typeIs F.entry_dict_pop (F.args_dict_pop_2 _ _) (meets_dict_pop_there kk.knd a (kk.isOf h3) [] (.inl rfl) (kk.part h3)) ⟨cvs,u,hD,by rw[hk.length];exact hl,e1,λh' hD' hs'=> ?_⟩
    obtain⟨o',ho',hr'⟩:=HR.ofDict kk hD' (hk.without k)
    exact⟨X,D,σ' o',DX.refl _ _,hu,R.upd (U o') (s.toks+1) (z1b _ _) hs' rfl ho' hr',q o'⟩
end
end
section
section
variable {C:Cx} {env:Env} {vars:List Str} {gl:List (Str×V)} {own:Bool} {d:Nat} {m m':Loc} {σ:Sto} {σ':Obj->Sto} {Q:V->Sto->Prop} {G D:Gh} {s:Shared} {A:Around} {K:Type} [DecidableEq K]
variable {QI:List V->(Sto->Prop)->Sto->Prop}
theorem z6G [HM C](kk:KK C.prog C.w K){iter tgt:Expr}(hsys:z0N C)(h:AT C env vars gl own d (eval iter env) m σ λX σ₁=>∃a o kvs,X= .ref a/\(a,o,AO.dict (z06 kk kvs))∈σ₁/\(kvs.map (·.1)).Nodup/\QI (kvs.map λp=>kk.v p.1) (λσ'=>(a,o,AO.dict (z06 kk kvs))∈σ') σ₁):
  AI C env vars gl own d iter tgt m σ QI:=λA G D s hA R=>
 h.run hA R λv s₁ X D₁ σ₁ dx b c hpp=>by
  obtain⟨ax,o,kvs,hX,hm,hn,q⟩:=hpp
  subst hX
  obtain⟨_,ob,e,ho,⟨es,n,rfl,hr⟩,hP,hst⟩:=(Has.refD hm).run c.toRelC b
  obtain rfl:=VR.refI b;cases e
  obtain⟨cvs,p,kr,r⟩:=VRd.pairs kk hr
  have hD:s₁.heap.DictAt kk.knd ax cvs n:=⟨_,es,ho,⟨rfl,rfl,rfl⟩,rfl,λe he=>r e (by simpa using he),p,by rw[kr.keys];exact hn⟩
  have hne:ax≠s₁.heap.objs.size:=Nat.ne_of_lt (Heap.lt_size ho)
  refine wpAny_pyIter_dict (c.toRelC.notSys hsys hm) hD ⟨D₁,σ₁,_,_,dx,⟨s₁.heap.objs.size,_,_,_,rfl,IW.two (Walks.dictKeys (knd:=kk.knd) hA.hh s₁.heap.objs.size ax hne cvs n) (by rw[kr.length];simp) ?_ (λi h st=>by obtain⟨⟨o,ho,hc,_⟩,_⟩:=st;exact⟨o,_,ho,hc,by decide⟩) (λh st=>by obtain⟨_,o,_,ho,_⟩:=st;exact⟨o,ho⟩),⟨⟨_,Heap.get?_push_size _ rfl,rfl,rfl⟩,hD.push _⟩,c.push _,c.offNew (z0D #[] 0),hP,keep2 ho hst⟩,q⟩
  ·rintro i u X ⟨k,x,hx,hk⟩ hX
   have e1:(cvs.map (·.1))[i]? =some k:=by rw[List.getElem?_map,hx];rfl
   rw[kr.keys,List.getElem?_map] at e1
   rw[List.getElem?_map] at hX
   cases e3:kvs[i]? with
   |none=>rw[e3] at e1;cases e1
   |some p=>
    rw[e3] at e1 hX
    simp only[Option.map_some,Option.some.injEq] at e1 hX
    subst hX;rw[e1];exact kk.ofIs hk
theorem y16(kk:KK C.prog C.w K){a:Addr}{o:Obj}{kvs:List (K×V)}(hs:z0N C)(hm:(a,o,AO.dict (z06 kk kvs))∈σ)(hn:(kvs.map (·.1)).Nodup)(hl:kvs.length<=sizeLine)(q:Q (.int kvs.length) σ):
  KW C d (.bi "len") [.ref a] σ Q:=λA G D s v vs hA R hv hss=>by
 apply VR.biE hv
 apply VRs.consE hss;intro _ _ h1 h2
 ·skip
  apply VRs.nilE h2;apply VR.refE h1
  obtain⟨cvs,hD,hk⟩:=RelC.dcH R kk hm hn
  refine call_len_dict (R.notSys hs hm) hD (by rw[hk.length];have:kvs.length<=16777216:=hl;lia) ?_
  rw[hk.length];exact PostC.now (R.tok _) (.int _ _) q
end
end
section
section
variable {C:Cx} {env:Env} {vars:List Str} {gl:List (Str×V)} {own:Bool} {d:Nat} {m m':Loc} {σ:Sto} {KA:Loc->Sto->Prop}
noncomputable def AAs(C:Cx)(env:Env)(vars:List Str)(gl:List (Str×V))(own:Bool)(d:Nat)(ts:List (Value->Sem Unit))(xs:List V)(m:Loc)(σ:Sto)(KA:Loc->Sto->Prop):Prop:=
 ∀A G D s vs,AOk C A d->RelF C env vars gl own G D m σ s->VRs C.w D vs xs->wpAny C.M A (assignInOrder ts vs) (PostU C env vars gl own G D KA) (λ_ _=>False) s
theorem z6L(k:KA m σ):AAs C env vars gl own d [] [] m σ KA:=λA G D s vs hA R hv=>by
 apply VRs.nilE hv
 show wpAny C.M A (assignInOrder [] []) _ _ s
 exact wpAny_pure ⟨m,D,σ,DX.refl _ _,R,k⟩
set_option tactic.hygienic true in
theorem z1t{t:Value->Sem Unit}{ts:List (Value->Sem Unit)}{x:V}{xs:List V}(h:AA C env vars gl own d t x m σ λm₁ σ₁=>AAs C env vars gl own d ts xs m₁ σ₁ KA):AAs C env vars gl own d (t::ts) (x::xs) m σ KA:=λA G D s vs hA R hv=>by
 cases hv with
 |cons h1 h2=>
  rename_i v vs
  have key:wpAny C.M A (t v) (λ_ s'=>wpAny C.M A (assignInOrder ts vs) (PostU C env vars gl own G D KA) (λ_ _=>False) s') (λ_ _=>False) s:=
   wpAny_mono (h A G D s v hA R h1) (λ_ s' hpp=>by obtain⟨m₁,D₁,σ₁,dx,R₁,q⟩:=hpp;exact wpAny_mono (q A G D₁ s' vs hA R₁ (h2.mono dx.sub)) (λ_ _ p=>p.weak dx) λ_ _ e=>e) λ_ _ e=>e
  exact wpAny_bind (wpAny_holding key)
theorem z85 [HM C]{elts:List Expr}{k:Nat}{p:Pos}{xs:List V}(hn:(assignEach elts env).length=xs.length)(hstar:(assignEach elts env).findIdx? (·.1)=none)(h:AAs C env vars gl own d ((assignEach elts env).map (·.2)) xs m σ KA):
  AA C env vars gl own d (assign (.Tuple elts k p) env) (.tup xs) m σ KA:=λA G D s v hA R hv=>by
 apply VR.isTE R.toRelC hv;intro a ws _ hT hr
 refine wpAny_assign_Tuple hA.hh hT (by rw[hn,<-hr.length];simp) hstar λh' he=> ?_
 have R':RelF C env vars gl own G D m σ {s with heap:=h'}:=by
  have:=R.keepBut (h':=h') s.toks (R.offNew (z0D #[] 0)) λb o hb e=>he b o (by simpa using hb) e
  exact this
 exact h A G D _ _ hA R' hr
variable {QS:Fl->Loc->Sto->Prop}
theorem y5c [HM C]{x y:Expr}{X Y:V}(h:AA C env vars gl own d (assign x env) X m σ λm₁ σ₁=>AA C env vars gl own d (assign y env) Y m₁ σ₁ KA){k:Nat}{p:Pos}
  (hn:autoParam ((assignEach [x,y] env).map (·.2)=[assign x env,assign y env]) auR) (hstar:autoParam ((assignEach [x,y] env).findIdx? (·.1)=none) auR):
  AA C env vars gl own d (assign (.Tuple [x,y] k p) env) (.tup [X,Y]) m σ KA:=by
 refine z85 (by have:=congrArg List.length hn;simpa using this) hstar ?_
 rw[hn]
 refine z1t λA G D s v hA R hv=>wpAny_mono (h A G D s v hA R hv) (λ_ s' hpp=>by obtain⟨m₁,D₁,σ₁,dx,R₁,q⟩:=hpp;exact⟨m₁,D₁,σ₁,dx,R₁,z1t λA G D s v hA R hv=>wpAny_mono (q A G D s v hA R hv) (λ_ s' hpp=>by obtain⟨m₁,D₁,σ₁,dx,R₁,q⟩:=hpp;exact⟨m₁,D₁,σ₁,dx,R₁,z6L q⟩) λ_ _ e=>e⟩) λ_ _ e=>e
theorem y5n [HM C]{x y z:Expr}{X Y Z:V}(h:AA C env vars gl own d (assign x env) X m σ λm₁ σ₁=>AA C env vars gl own d (assign y env) Y m₁ σ₁ λm₂ σ₂=>AA C env vars gl own d (assign z env) Z m₂ σ₂ KA){k:Nat}{p:Pos}
  (hn:autoParam ((assignEach [x,y,z] env).map (·.2)=[assign x env,assign y env,assign z env]) auR) (hstar:autoParam ((assignEach [x,y,z] env).findIdx? (·.1)=none) auR):
  AA C env vars gl own d (assign (.Tuple [x,y,z] k p) env) (.tup [X,Y,Z]) m σ KA:=by
 refine z85 (by have:=congrArg List.length hn;simpa using this) hstar ?_
 rw[hn]
 refine z1t λA G D s v hA R hv=>wpAny_mono (h A G D s v hA R hv) (λ_ s' hpp=>by obtain⟨m₁,D₁,σ₁,dx,R₁,q⟩:=hpp;exact⟨m₁,D₁,σ₁,dx,R₁,z1t λA G D s v hA R hv=>wpAny_mono (q A G D s v hA R hv) (λ_ s' hpp=>by obtain⟨m₁,D₁,σ₁,dx,R₁,q⟩:=hpp;exact⟨m₁,D₁,σ₁,dx,R₁,z1t λA G D s v hA R hv=>wpAny_mono (q A G D s v hA R hv) (λ_ s' hpp=>by obtain⟨m₁,D₁,σ₁,dx,R₁,q⟩:=hpp;exact⟨m₁,D₁,σ₁,dx,R₁,z6L q⟩) λ_ _ e=>e⟩) λ_ _ e=>e⟩) λ_ _ e=>e
end
end
section
section
variable {C:Cx} {env:Env} {vars:List Str} {gl:List (Str×V)} {own:Bool} {d:Nat} {m m':Loc} {σ:Sto} {σ':Obj->Sto} {Q:V->Sto->Prop} {QS:Fl->Loc->Sto->Prop} {K:Type} [DecidableEq K]
theorem z6B{t value:Expr}{p:Pos}(h:AT C env vars gl own d (eval value env) m σ λX σ₁=>AA C env vars gl own d (assign t env) X m σ₁ λm₂ σ₂=>QS .next m₂ σ₂)
  (he:autoParam ((assignEach [t] env).map (·.2)=[assign t env]) auR) (hs:autoParam (swapsWithSole [t] value p.line env=pure false) auR)
  (hw:autoParam (swappedStores [t] value env=pure none) auR):AS C env vars gl own d (exec (.Assign [t] value p) env) m σ QS:=λA G D s hA R=>by
 refine wpAny_Assign_stores (h.run hA R λv s₁ X D₁ σ₁ a b c e=> ?_) hs hw
 rw[he]
 show wpAny C.M A (assign t env v) _ _ s₁
 exact wpAny_mono (e A G D₁ s₁ v hA c b) (λ_ s₂ hpp=>by obtain⟨m₂,D₂,σ₂,dx,R₂,q⟩:=hpp;exact⟨.next,m₂,D₂,σ₂,a.trans dx,trivial,R₂,q⟩) λ_ _ x=>x
theorem z7t(kk:KK C.prog C.w K){a:Addr}{o:Obj}{kvs:List (K×V)}{k:K}{X:V}(hs:z0N C)(U:∀o',Upd a o (.dict (z06 kk kvs)) o' (.dict (z06 kk (z1w kvs k X))) σ (σ' o'))(hn:(kvs.map (·.1)).Nodup)(hl:kvs.length<=sizeLine)
  (q1:∀Y,vAt kvs k=some Y->Q Y σ) (q2:vAt kvs k=none->∀o',Q X (σ' o')):
  KW C d (.bi "dict.setdefault") [.ref a,kk.v k,X] σ Q:=λA G D s v vs hA R hv hss=>by
 apply VR.biE hv
 apply VRs.consE hss;intro _ _ h1 h2
 ·skip
  apply VRs.consE h2;intro _ _ h3 h4
  ·skip
   cases h4 with
   |cons h5 h6=>
    cases h6;apply VR.refE h1
    have hm:(a,o,AO.dict (z06 kk kvs))∈σ:=by obtain⟨u,w,e,_⟩:=(U o).split;rw[e];simp
    obtain⟨cvs,hD,hk⟩:=RelC.dcH R kk hm hn
    refine call_meetsIn F.slot_dict_setdefault hD.typeIs F.entry_dict_setdefault (F.args_dict_setdefault_3 _ _ _) (kt_meets_setdefault kk.knd a (kk.isOf h3) (R.notSys hs hm) _) ⟨cvs,hD,by rw[hk.length];exact hl,λu hu=> ?_,λhnone h' hD' hs'=> ?_⟩
    ·rcases hk.at k with⟨e1,e2⟩|⟨u',Y,e1,e2,hY⟩
     ·rw[hu] at e1;cases e1
     ·rw[hu] at e1;cases e1;exact PostC.now (R.tok _) hY (q1 Y e2)
    ·rcases hk.at k with⟨e1,e2⟩|⟨u',Y,e1,e2,hY⟩
     ·obtain⟨o',ho',hr'⟩:=HR.ofDict kk hD' (hk.stored h5)
      exact⟨X,D,σ' o',DX.refl _ _,h5,R.upd (U o') (s.toks+1) (z1b _ _) hs' rfl ho' hr',q2 e2 o'⟩
     ·rw[hnone] at e1;cases e1
end
end
section
theorem FR.look{w:World}{D:Gh}{name:Str}:∀{es:List DictEntry} {fs:List (Str×V)},FR w D es fs->
  (es.any (·.refKey)=false)/\((fs.lookup name=none/\es.find? (·.key.isStr name)=none)∨∃e x,fs.lookup name=some x/\es.find? (·.key.isStr name)=some e/\VR w D e.val x)
 |[],[],_=>⟨rfl,.inl ⟨rfl,rfl⟩⟩
 |e::es,(n,x)::fs,⟨⟨t,hk⟩,_,hv,hr⟩=>by
  obtain⟨h1,h2⟩:=FR.look (name:=name) hr
  have hrk:e.refKey=false:=by unfold DictEntry.refKey;rw[hk]
  refine⟨by rw[List.any_cons,hrk,h1];rfl,?_⟩
  by_cases en:name=n
  ·subst en
   exact .inr ⟨e,x,by simp[List.lookup],by rw[List.find?_cons,hk];simp[Value.isStr],hv⟩
  ·have e1:(e.key.isStr name)=false:=by rw[hk];simp[Value.isStr];exactλh=>en h.symm
   have e2:(name==n)=false:=by simpa using en
   rw[List.lookup_cons,e2,List.find?_cons,e1]
   exact h2
 |[],_::_,h=>h.elim
 |_::_,[],h=>h.elim
section
variable {C:Cx} {env:Env} {vars:List Str} {gl:List (Str×V)} {own:Bool} {d:Nat} {m m':Loc} {σ:Sto} {P:V->Sto->Prop} {G D:Gh} {s:Shared}
theorem z5a{x c dx:Addr}{o:Obj}{fs:List (Str×V)}(R:RelC C G D σ s)(hm:(x,o,AO.inst c dx fs)∈σ):W.InstAt s.heap x (y1n c dx) c (some o):=by
 obtain⟨h1,h2⟩:=R.pl _ hm
 exact⟨h1,rfl,rfl,h2⟩
structure MethAt(C:Cx)(K:W.Frag)(c:Addr)(name:Str)(f:Addr):Prop where
 kin:K.In C.base
 ga:W.findIn K (.ref c) "__getattribute__"=some (some (.builtin "object.__getattribute__"))
 gk:W.findIn K (.ref c) "__getattr__"=some none
 fn:W.findIn K (.ref c) name=some (some (.ref f))
 ty:W.typeIn K (.ref f)=some (.type "function")
 cal:z0l C (.ref f)
theorem y0Q{K:W.Frag}{c f:Addr}{o e:Expr}{rest:List Expr}{name:Str}{ap p:Pos}(hM:MethAt C K c name f)
  (h:AT C env vars gl own d (eval o env) m σ λX σ₁=>∃x ob dx fs,X= .ref x/\(x,ob,AO.inst c dx fs)∈σ₁/\fs.lookup name=none/\AL C env vars gl own d (spliced (backTo p (starEach (e::rest) env))) m σ₁ λXs σ₂=>KW C d (.ref f) (.ref x::Xs) σ₂ P)
  (hbase:autoParam (attributeBase o name env (eval o env)=eval o env) auR) (hline:autoParam ((ap.endLine==p.line)=true) auR)
  (he:autoParam (starEach (e::rest) env=(false,eval e env)::starEach rest env) auR) (hplain:autoParam ((backTo p (starEach rest env)).any (·.1)=false) auR)
  (hfew:autoParam (((backTo p (starEach (e::rest) env)).all (λx=> !x.1)&&(backToKw p (keywordEach [] env)).all (λx=>x.1.isSome)&&decide ((e::rest).length+([]:List Keyword).length+(if([]:List Keyword).isEmpty then 0 else 1)<30))=true) auR):
  AT C env vars gl own d (eval (.Call (.Attribute o name ap) (e::rest) [] p) env) m σ P:=λA G D s hA R=>by
 rw[arm_eval_Call,hbase]
 refine wpAny_bind (h.run hA R λv s₁ X D₁ σ₁ a b c₁ hpp=> ?_)
 obtain⟨x,ob,dx,fs,hX,hm,hsh,hk⟩:=hpp
 subst hX
 apply VR.refE b
 refine wpAny_bind (wpAny_standAt ?_)
 have hform:methodCallForm ((e::rest).length+([]:List Keyword).length) (backTo p (starEach (e::rest) env)) (backToKw p (keywordEach [] env))=true:=hfew
 have hpos:methodCallPos true o env ap p=pure p:=by unfold methodCallPos;simp[hline]
 unfold methodCall
 rw[hform]
 obtain⟨es,n,rfl,hr⟩:=c₁.sto _ hm
 have hl:=(FR.look (name:=name) hr)
 have hshadow:W.shadowIn (some (z2m es n)) name=some false:=by
  unfold W.shadowIn W.lookIn
  rcases hl.2 with⟨_,e2⟩|⟨_,_,e1,_,_⟩
  ·simp[e2,hl.1]
  ·rw[hsh] at e1;cases e1
 refine wpAny_bind (wpAny_holding (W.method_fn (hM.kin.keeps c₁.toRelC.baseIn) (z5a c₁.toRelC hm) hM.ga hM.gk hM.fn hM.ty hshadow ?_))
 refine wpAny_bind (wpAny_of_eq hpos ?_)
 rw[he] at hk⊢
 refine z1L (F:= .ref f) hM.cal (.ref f) (D:=D₁) hplain (Calls.evalArgs_plain (AL.run hk hA c₁ λvs s₂ Xs D₂ σ₂ a' b' c' q=>⟨c'.toRelC.baseIn,z0Z (a.trans a') (q.inF hA c' (.ref f) (.cons (.ref x) b'))⟩))
end
end
section
section
variable {C:Cx} {env:Env} {vars:List Str} {gl:List (Str×V)} {own:Bool} {d:Nat} {m m':Loc} {σ:Sto} {P:V->Sto->Prop} {G D:Gh} {s:Shared}
structure AttrAt(C:Cx)(K:W.Frag)(c:Addr)(name:Str):Prop where
 kin:K.In C.base
 ga:W.findIn K (.ref c) "__getattribute__"=some (some (.builtin "object.__getattribute__"))
 cls:∃cd,W.clsIn K c=some cd/\cd.hasDict=true
 nf:W.findIn K (.ref c) name=some none
theorem y4C{w:World}{D:Gh}{v:Value}{x:V}(h:VR w D v x)(hx:∀n,x≠ .bi n):W.handedIn v=true:=by
 cases h<;>first|rfl|exact absurd rfl (hx _)
theorem y3n{K:W.Frag}{c:Addr}{o:Expr}{name:Str}{p:Pos}(hM:AttrAt C K c name)
  (h:AT C env vars gl own d (eval o env) m σ λX σ₁=>∃x ob dx fs Y,X= .ref x/\(x,ob,AO.inst c dx fs)∈σ₁/\fs.lookup name=some Y/\(∀n,Y≠ .bi n)/\P Y σ₁)
  (hbase:autoParam (attributeBase o name env (eval o env)=eval o env) auR) (ht:∀u r,letTemporaryGo o u r=pure ():=by intro _ _;with_unfolding_all exact rfl):
  AT C env vars gl own d (eval (.Attribute o name p) env) m σ P:=λA G D s hA R=>by
 rw[arm_eval_Attribute,hbase]
 refine wpAny_bind (h.run hA R λv s₁ X D₁ σ₁ a b c₁ hpp=> ?_)
 obtain⟨x,ob,dx,fs,Y,hX,hm,hl,hnb,q⟩:=hpp
 subst hX
 apply VR.refE b
 refine wpAny_bind (wpAny_standAt (wpAny_bind (wpAny_holding ?_)))
 obtain⟨es,n,rfl,hr⟩:=c₁.sto _ hm
 have hL:=FR.look (name:=name) hr
 rcases hL.2 with⟨e1,_⟩|⟨e,Z,e1,e2,hv⟩
 ·rw[hl] at e1;cases e1
 rw[hl] at e1;cases e1
 obtain⟨cd,hc1,hc2⟩:=hM.cls
 have hlook:W.lookIn name (z2m es n)=some (some e.val):=by unfold W.lookIn;simp[e2]
 have hf:W.findObj K c (some (z2m es n)) name=some (.value e.val):=by
  unfold W.findObj W.ownOf
  rw[hc1,hM.nf]
  simp[hc2,hlook]
 refine W.get_value (hM.kin.keeps c₁.toRelC.baseIn) (z5a c₁.toRelC hm) hM.ga hf (y4C hv hnb) ?_
 rw[ht]
 exact wpAny_bind (wpAny_pure (wpAny_pure ⟨Y,D₁,σ₁,a,hv,c₁.tok _,q⟩))
end
end
section
noncomputable def At(σ:Sto)(a:Addr)(x:AO):Prop:=∃o,(a,o,x)∈σ
theorem At.cons{σ:Sto}{a:Addr}{x:AO}(p:Addr×Obj×AO)(h:At σ a x):At (p::σ) a x:=let⟨o,e⟩:=h;⟨o,.tail _ e⟩
theorem At.hd{σ:Sto}{a:Addr}{o:Obj}{x:AO}:At ((a,o,x)::σ) a x:=⟨o,.head _⟩
structure UpdS(σ σ':Sto)(a:Addr)(x:AO):Prop where
 here:At σ' a x
 keep:∀p∈σ,p.1≠a->p∈σ'
theorem UpdS.at{σ σ':Sto}{a b:Addr}{x y:AO}(U:UpdS σ σ' a x)(h:At σ b y)(hne:b≠a):At σ' b y:=let⟨o,e⟩:=h;⟨o,U.keep _ e hne⟩
noncomputable def Fresh(σ:Sto)(a:Addr):Prop:=∀p∈σ,p.1≠a
theorem Fresh.ne{σ:Sto}{a b:Addr}{x:AO}(h:Fresh σ a)(hb:At σ b x):b≠a:=let⟨o,e⟩:=hb;h _ e
theorem Upd.updS{a:Addr}{o o':Obj}{x x':AO}{σ σ':Sto}(U:Upd a o x o' x' σ σ'):UpdS σ σ' a x':=by
 obtain⟨u,v,rfl,rfl⟩:=U.split
 refine⟨⟨o',by simp⟩,λp hp hn=> ?_⟩
 rcases List.mem_append.mp hp with h|h
 ·exact List.mem_append_left _ h
 ·rcases List.mem_cons.mp h with rfl|h
  ·exact absurd rfl hn
  ·exact List.mem_append_right _ (.tail _ h)
theorem At.upd{σ:Sto}{a:Addr}{x:AO}(h:At σ a x)(x':AO):∃(o:Obj) (σ':Obj->Sto),(∀o':Obj,Upd a o x o' x' σ (σ' o'))/\∀o':Obj,UpdS σ (σ' o') a x':=by
 obtain⟨o,h⟩:=h
 obtain⟨u,v,rfl⟩:=List.append_of_mem h
 exact⟨o,λo'=>u++(a,o',x')::v,λo'=>Upd.app u .head,λo'=>(Upd.app u .head).updS⟩
section
variable {C:Cx} {env:Env} {vars:List Str} {gl:List (Str×V)} {own:Bool} {d:Nat} {m m':Loc} {σ:Sto} {Q:V->Sto->Prop} {QS:Fl->Loc->Sto->Prop} {G D:Gh} {s:Shared} {A:Around} {K:Type} [DecidableEq K]
theorem z4o{σ:Sto}{p:Addr×Obj×AO}(h:p∈σ):p.1∈foot σ:=z4m (a:=p.1) (ob:=p.2.1) (o:=p.2.2) h
theorem RelC.fresh(R:RelC C G D σ s):Fresh σ s.heap.objs.size:=λp hp e=>R.new_notFoot (e▸z4o hp)
theorem z2L{a:Addr}{xs:List V}(h:CW C d (.ref a) xs σ λx σ'=>∃τ,τ.Sublist σ'/\Q x τ):CW C d (.ref a) xs σ Q:=λA G D s vs hA R hv=>
 codeAny_mono (h A G D s vs hA R hv) λr s' q=>by
  cases r with
  |error e=>exact q
  |ok f=>
   cases f<;>first|exact q.elim|skip
   obtain⟨x,D',σ',dx,hx,R',τ,hs,q⟩:=q
   exact⟨x,D',τ,dx,hx,R'.drop hs,q⟩
theorem z5p{p:Pos}(q:∀a o,Fresh σ a->Q (.ref a) ((a,o,.dict [])::σ)):AT C env vars gl own d (eval (.Dict [] [] p) env) m σ Q:=λA G D s hA R=>by
 refine wpAny_Dict_empty ⟨.ref _,D,_,DX.refl _ _,.ref _,R.back (R.lifted.newM (z2m #[] 0) (.dict []) ⟨#[],0,rfl,.nil⟩ rfl (λ_ _=>rfl)) (DX.refl _ _),q _ _ R.toRelC.fresh⟩
theorem z5u{es:List Expr}{p:Pos}(h:AL C env vars gl own d (spliced (backTo p (starEach es env))) m σ λXs σ₁=>Xs.length<=sizeLine/\∀a o,Fresh σ₁ a->Q (.ref a) ((a,o,.list Xs)::σ₁)):
  AT C env vars gl own d (eval (.List es p) env) m σ Q:=λA G D s hA R=>
 wpAny_List (h.run hA R λvs s₁ Xs D₁ σ₁ a b c hpp=>by obtain⟨hl,q⟩:=hpp;exact⟨by rw[b.length];exact hl,⟨.ref _,D₁,_,a,.ref _,c.newL b,q _ _ c.toRelC.fresh⟩⟩)
noncomputable def NLf(P:V->Sto->Prop)(Xs:List V)(σ:Sto):Prop:=P (.lst Xs) σ∨∀a o,Fresh σ a->P (.ref a) ((a,o,.list Xs)::σ)
theorem RelC.mkLf(R:RelC C G D σ s){vs:List Value}{Xs:List V}(h:VRs C.w D vs Xs)(q:NLf Q Xs σ):PostC C G D Q (.ref s.heap.objs.size) {s with heap:=s.heap.push (z0D vs.toArray 0)}:=by
 rcases q with q|q
 ·exact R.mkL h (.inl q)
 ·exact⟨.ref _,D,_,DX.refl _ _,.ref _,R.newM (z0D vs.toArray 0) (.list Xs) ⟨vs.toArray,0,rfl,by simpa using h⟩ rfl (λ_ _=>rfl),q _ _ R.fresh⟩
theorem z7T(h:Heap):h.get? h.objs.size=none:=by
 cases e:h.get? h.objs.size with
 |none=>rfl
 |some o=>exact absurd (Heap.lt_size e) (Nat.lt_irrefl _)
theorem RelC.madeL(R:RelC C G D σ s){h':Heap}{t:Nat}{a:Addr}{vs:Array Value}{n:Nat}{Xs:List V}(hk:∀b o,s.heap.get? b=some o->h'.get? b=some o)(ha:s.heap.get? a=none)(ho:h'.get? a=some (z0D vs n))(h:VRs C.w D vs.toList Xs)(q:NLf Q Xs σ):
  PostC C G D Q (.ref a) {s with heap:=h',toks:=t}:=by
 have R':=R.keep t hk
 have hG:G a=none:=by
  cases e:G a with
  |none=>rfl
  |some o=>obtain⟨_,h,_⟩:=R.g _ _ e;rw[h] at ha;cases ha
 have hD:D a=none:=by
  cases e:D a with
  |none=>rfl
  |some o=>rw[R.d _ _ e] at ha;cases ha
 have hf:a∉foot σ:=λhf=>by obtain⟨o,e⟩:=R.footLives hf;rw[e] at ha;cases ha
 have R2:=R'.addL hG hD hf ho h
 rcases q with q|q
 ·obtain⟨R3,dx,hv⟩:=R2.freezeL (u:=[]) (v:=σ) rfl
  exact⟨.lst Xs,_,σ,dx,hv,R3,q⟩
 ·exact⟨.ref a,D,_,DX.refl _ _,.ref a,R2,q _ _ λp hp e=>hf (e▸z4o hp)⟩
end
end
section
theorem FR.put{w:World}{D:Gh}{name:Str}{v:Value}{X:V}{t:Tok}(hv:VR w D v X):∀{es:List DictEntry} {fs:List (Str×V)},FR w D es fs->fs.lookup name=none->
  FR w D (W.putL name (hashStr w name) (.str name t) v es) (fs++[(name,X)])
 |[],[],_,_=>⟨⟨t,rfl⟩,rfl,hv,trivial⟩
 |e::es,(n,x)::fs,⟨⟨t',hk⟩,hh,hx,hr⟩,hl=>by
  have hne:(name==n)=false:=by
   cases q:name==n with
   |false=>rfl
   |true=>rw[List.lookup_cons,q] at hl;cases hl
  have e1:(e.key.isStr name)=false:=by rw[hk];simp[Value.isStr];intro h;rw[h] at hne;simp at hne
  unfold W.putL
  rw[e1]
  exact⟨⟨t',hk⟩,hh,hx,FR.put hv hr (by rw[List.lookup_cons,hne] at hl;exact hl)⟩
 |[],_::_,h,_=>h.elim
 |_::_,[],h,_=>h.elim
theorem FR.len{w:World}{D:Gh}:∀{es:List DictEntry} {fs:List (Str×V)},FR w D es fs->es.length=fs.length
 |[],[],_=>rfl
 |_::es,_::fs,⟨_,_,_,h⟩=>by simp[FR.len h]
 |[],_::_,h=>h.elim
 |_::_,[],h=>h.elim
section
variable {C:Cx} {env:Env} {vars:List Str} {gl:List (Str×V)} {own:Bool} {d:Nat} {m m':Loc} {σ:Sto} {σ':Obj->Sto} {P:V->Sto->Prop} {QS:Fl->Loc->Sto->Prop} {G D:Gh} {s:Shared}
structure StoreAt(C:Cx)(K:W.Frag)(c:Addr)(name:Str):Prop where
 kin:K.In C.base
 sa:W.findIn K (.ref c) "__setattr__"=some (some (.builtin "object.__setattr__"))
 po:W.plainOver K c=true
 ta:W.takerIn K c name=some none
 hd:(W.clsIn K c).any (·.hasDict)=true
theorem z8k{K:W.Frag}{c x dx:Addr}{ob:Obj}{fs:List (Str×V)}{name:Str}{X:V}{v:Value}{A:Around}{Z:Unit->Shared->Prop}{E:Value->Shared->Prop}(hM:StoreAt C K c name)
  (U:∀o',Upd x ob (.inst c dx fs) o' (.inst c dx (fs++[(name,X)])) σ (σ' o')) (hn:fs.lookup name=none) (hz:fs.length<=100) (R:RelC C G D σ s) (hv:VR C.w D v X)
  (q:∀o' s',RelC C G D (σ' o') s'->Z () s'):wpAny C.M A (setAttr (.ref x) name v) Z E s:=by
 have hm:(x,ob,AO.inst c dx fs)∈σ:=(U ob).mem
 have X0:=hM.kin.keeps R.baseIn
 have I:=z5a R hm
 obtain⟨hx,hdx⟩:s.heap.get? x=some (y1n c dx)/\s.heap.get? dx=some ob:=R.pl _ hm
 obtain⟨es,n,rfl,hr⟩:∃es n,ob=z2m es n/\FR C.w D es.toList fs:=R.sto _ hm
 obtain⟨cd,hc,hd'⟩:=W.any_some hM.hd
 refine W.set_plain X0 I hM.sa (W.osa_open (s:={s with toks:=s.toks+1}) X0 I hM.po hM.ta λb=> ?_)
 refine wpAny_bind (wpAny_pure (wpAny_bind (wpAny_bind (wpAny_loadPart hx (wpAny_bind (W.Looks.here (s:={s with toks:=s.toks+1}) (W.looks_clsIn X0 hc) ?_))))))
 rw[hd']
 refine wpAny_pure (a:=some dx) (wpAny_bind (wpAny_pure (wpAny_bind ?_)))
 unfold nsSet
 refine wpAny_bind (wpAny_bind (wpAny_askSetting (wpAny_pure (wpAny_bind (wpAny_mkText (wpAny_bind (wpAny_loadPart hdx ?_)))))))
 dsimp only
 have hL:=FR.look (name:=name) hr
 have c1:(!es.any (·.key.isStr name)&&es.any (·.refKey))=false:=by
  rw[<-Array.any_toList,<-Array.any_toList,hL.1,Bool.and_false]
 rw[aRefKeyMayBeTheName_at,c1]
 refine wpAny_updatePart hdx ?_
 have ef:Obj.putName name (PyData.keyHash C.w.params name) (.str name (s.toks+1)) v (z2m es n)=W.dictOf (W.putL name (hashStr C.w name) (.str name (s.toks+1)) v es.toList) (W.putN name es.toList n):=by
  have:=W.putName_dict name (PyData.keyHash C.w.params name) (.str name (s.toks+1)) v es.toList n
  have e0:W.dictOf es.toList n=z2m es n:=by show({cls:=_,data:= .dict es.toList.toArray n}:Obj)=_;rw[Array.toArray_toList]
  rw[e0] at this
  exact this
 have hr':=FR.put (t:=s.toks+1) hv hr hn
 have hself:=Heap.get?_update_self (Obj.putName name (PyData.keyHash C.w.params name) (.str name (s.toks+1)) v) hdx (by rw[ef];rfl)
 rw[ef] at hself
 have hne:x≠dx:=by
  obtain⟨u,w,e,_⟩:=(U (z2m es n)).split
  have nd:=R.nd
  rw[e,z1s] at nd
  have:([x,dx]++foot w).Nodup:=(List.nodup_append.mp nd).2.1
  intro h;subst h
  simp at this
 refine wpAny_bind (wpAny_lookBehind hself (by
  refine pastItsLine_dict ?_
  rw[List.size_toArray,hr'.len,sizeLine_eq];simp;lia) ?_)
 refine wpAny_pure (q _ _ (R.upd (U _) (s.toks+2) (b:=dx) (by simp[z0V]) (Heap.SameBut.update ..) rfl ⟨?_,hself⟩ ⟨_,_,rfl,by simpa using hr'⟩))
 rw[Heap.get?_update_ne _ _ _ _ hne];exact hx
theorem z98{K:W.Frag}{c:Addr}{o value:Expr}{name:Str}{p' p:Pos}(hM:StoreAt C K c name)
  (h:AT C env vars gl own d (eval value env) m σ λX σ₁=>AT C env vars gl own d (eval o env) m σ₁ λY σ₂=>∃x dx fs,Y= .ref x/\At σ₂ x (.inst c dx fs)/\fs.lookup name=none/\fs.length<=100/\∀σ',UpdS σ₂ σ' x (.inst c dx (fs++[(name,X)]))->QS .next m σ')
  (hs:autoParam (swapsWith value (some (.Attribute o name p')) p.line env=pure false) auR):AS C env vars gl own d (exec (.Assign [.Attribute o name p'] value p) env) m σ QS:=λA G D s hA R=>
 plainObj_wpAny_Assign_Attribute (h.run hA R λv s₁ X D₁ σ₁ a b c₁ e=>e.run hA c₁ λu s₂ Y D₂ σ₂ a' b' c₂ hpp=>by
  obtain⟨x,dx,fs,hY,hat,hn,hz,q⟩:=hpp
  subst hY;cases b'
  obtain⟨ob,σ',U,US⟩:=hat.upd (.inst c dx (fs++[(name,X)]))
  exact z8k hM U hn hz c₂.lifted (b.mono a'.sub) λo' s' R'=>⟨.next,m,D₂,_,a.trans a',trivial,c₂.back R' (DX.refl _ _),q _ (US o')⟩) hs
structure ClassAt(C:Cx)(K:W.Frag)(c f:Addr):Prop where
 kin:K.In C.base
 mks:W.makesIn K c=true
 ini:W.findIn K (.ref c) "__init__"=some (some (.ref f))
 ty:W.typeIn K (.ref f)=some (.type "function")
 kp:W.keepIn K (.ref c)=true
theorem AOk.underC{C:Cx}{A:Around}{d:Nat}{c:Addr}{rest:List Value}(h:AOk C A (d+1)):AOk C (A.under (.builtin "type.__call__" ⟨.ref c::rest,[]⟩)) d:=by
 have e1:(Code.builtin "type.__call__" ⟨.ref c::rest,[]⟩).weight=1:=rfl
 have e2:(Code.builtin "type.__call__" ⟨.ref c::rest,[]⟩).cUnits=1:=rfl
 refine⟨h.h,h.fr,?_,?_⟩
 ·have:=h.depth
  show A.depth+(Code.builtin "type.__call__" ⟨.ref c::rest,[]⟩).weight+d<1000
  rw[e1];lia
 ·have:=h.units
  show A.units+(Code.builtin "type.__call__" ⟨.ref c::rest,[]⟩).cUnits+8*d<9000
  rw[e2];lia
theorem RelC.newI(R:RelC C G D σ s)(c:Addr):RelC C G D ((s.heap.objs.size+1,W.emptyDict,.inst c s.heap.objs.size [])::σ) {s with heap:=(s.heap.push W.emptyDict).push (W.instObj c s.heap.objs.size)}:=by
 have R':=(R.push W.emptyDict).push (W.instObj c s.heap.objs.size)
 have hsz:(s.heap.push W.emptyDict).objs.size=s.heap.objs.size+1:=PyProof.Rows.size_push' _ _
 have hx:((s.heap.push W.emptyDict).push (W.instObj c s.heap.objs.size)).get? (s.heap.objs.size+1)=some (W.instObj c s.heap.objs.size):=by rw[<-hsz];exact Heap.get?_push_size _ rfl
 have hdx:((s.heap.push W.emptyDict).push (W.instObj c s.heap.objs.size)).get? s.heap.objs.size=some W.emptyDict:=Heap.get?_push_of_some _ (Heap.get?_push_size _ rfl)
 have lt:∀b o,s.heap.get? b=some o->b≠s.heap.objs.size/\b≠s.heap.objs.size+1:=λb o e=>by
  have:=Heap.lt_size e
  exact⟨Nat.ne_of_lt this,Nat.ne_of_lt (Nat.lt_succ_of_lt this)⟩
 have nG:∀b,(b=s.heap.objs.size+1∨b=s.heap.objs.size)->G b=none/\D b=none/\b∉foot σ:=λb hb=>⟨by
   cases e:G b with
   |none=>rfl
   |some o=>obtain⟨o',h,_⟩:=R.g _ _ e;exact(hb.elim (lt b o' h).2 (lt b o' h).1).elim,by
   cases e:D b with
   |none=>rfl
   |some o=>exact(hb.elim (lt b o (R.d _ _ e)).2 (lt b o (R.d _ _ e)).1).elim,λhf=>by
   obtain⟨o,e⟩:=R.footLives hf
   exact hb.elim (lt b o e).2 (lt b o e).1⟩
 refine⟨R'.same,R'.bs,R'.g,R'.d,R'.base,?_,λa ha=> ?_,λa ha=> ?_,λp hp=> ?_,λp hp=> ?_⟩
 ·show([s.heap.objs.size+1,s.heap.objs.size]++foot σ).Nodup
  refine List.nodup_cons.mpr ⟨λhm=> ?_,List.nodup_cons.mpr ⟨(nG _ (.inr rfl)).2.2,R.nd⟩⟩
  rcases List.mem_cons.mp hm with e|e
  ·lia
  ·exact(nG _ (.inl rfl)).2.2 e
 ·have:a∈[s.heap.objs.size+1,s.heap.objs.size]++foot σ:=ha
  rcases List.mem_append.mp this with h|h
  ·exact(nG a (by simpa using h)).1
  ·exact R.offG a h
 ·have:a∈[s.heap.objs.size+1,s.heap.objs.size]++foot σ:=ha
  rcases List.mem_append.mp this with h|h
  ·exact(nG a (by simpa using h)).2.1
  ·exact R.offD a h
 ·rcases List.mem_cons.mp hp with rfl|h
  ·exact⟨hx,hdx⟩
  ·exact R'.pl p h
 ·rcases List.mem_cons.mp hp with rfl|h
  ·exact⟨#[],0,rfl,trivial⟩
  ·exact R'.sto p h
theorem y4I{K:W.Frag}{c f:Addr}{xs:List V}(hM:ClassAt C K c f)
  (h:∀x dx o,Fresh σ x->CW C d (.ref f) (.ref x::xs) ((x,o,.inst c dx [])::σ) λr σ'=>r= .none/\P (.ref x) σ'):CW C (d+1) (.ref c) xs σ P:=λA G D s vs hA R hv=>by
 have X0:=hM.kin.keeps R.baseIn
 obtain⟨hh,g,dr,t,os⟩:=s
 refine W.make_core (W.makes_of X0 hM.mks) (W.looks_findIn X0 hM.ini) (λself=>W.bind_fn X0 self hM.ty) (.inl rfl) ?_
 have hfr:Fresh σ (hh.objs.size+1):=λp hp e=>by
  have:=R.footLt (z4o hp)
  rw[e] at this
  exact absurd this (Nat.not_lt.mpr (Nat.le_succ _))
 have R2:=R.newI c
 refine codeAny_mono (h (hh.objs.size+1) hh.objs.size W.emptyDict hfr _ G D _ (.ref (hh.objs.size+1)::vs) hA.underC R2 (.cons (.ref _) hv)) λr s' q=> ?_
 cases r with
 |error e=>exact q.elim
 |ok fl=>
  cases fl<;>first|exact q.elim|skip
  obtain⟨x,D',σ',dx,hx,R',rfl,q⟩:=q
  cases hx
  exact⟨rfl,⟨_,D',σ',dx,.ref _,R',q⟩⟩
theorem y0o{K:W.Frag}{c f:Addr}{x:Str}{np p:Pos}(hM:ClassAt C K c f)(h:AT C env vars gl own d (eval (.Name x np) env) m σ λF σ₁=>F= .ref c/\CW C d (.ref c) [] σ₁ P):
  AT C env vars gl own d (eval (.Call (.Name x np) [] [] p) env) m σ P:=λA G D s hA R=>
 wpAny_Call_ofName (h.run hA R λv s₁ F D₁ σ₁ a b c₁ hpp=>by
  obtain⟨hF,hk⟩:=hpp
  subst hF;apply VR.refE b
  exact W.callWith_K0 (hM.kin.keeps c₁.toRelC.baseIn) hM.kp (z0Z a ((z7P hk).inF hA c₁ (.ref c) .nil)))
theorem y0n{K:W.Frag}{c f:Addr}{o:Expr}{name:Str}{ap p:Pos}(hM:MethAt C K c name f)
  (h:AT C env vars gl own d (eval o env) m σ λX σ₁=>∃x dx fs,X= .ref x/\At σ₁ x (.inst c dx fs)/\fs.lookup name=none/\KW C d (.ref f) [.ref x] σ₁ P)
  (hbase:autoParam (attributeBase o name env (eval o env)=eval o env) auR) (hline:autoParam ((ap.endLine==p.line)=true) auR):
  AT C env vars gl own d (eval (.Call (.Attribute o name ap) [] [] p) env) m σ P:=λA G D s hA R=>by
 rw[arm_eval_Call,hbase]
 refine wpAny_bind (h.run hA R λv s₁ X D₁ σ₁ a b c₁ hpp=> ?_)
 obtain⟨x,dx,fs,hX,⟨ob,hm⟩,hsh,hk⟩:=hpp
 subst hX
 apply VR.refE b
 refine wpAny_bind (wpAny_standAt ?_)
 have hform:methodCallForm (([]:List Expr).length+([]:List Keyword).length) (backTo p (starEach [] env)) (backToKw p (keywordEach [] env))=true:=rfl
 have hpos:methodCallPos true o env ap p=pure p:=by unfold methodCallPos;simp[hline]
 unfold methodCall
 rw[hform]
 obtain⟨es,n,rfl,hr⟩:=c₁.sto _ hm
 have hl:=(FR.look (name:=name) hr)
 have hshadow:W.shadowIn (some (z2m es n)) name=some false:=by
  unfold W.shadowIn W.lookIn
  rcases hl.2 with⟨_,e2⟩|⟨_,_,e1,_,_⟩
  ·simp[e2,hl.1]
  ·rw[hsh] at e1;cases e1
 refine wpAny_bind (wpAny_holding (W.method_fn (hM.kin.keeps c₁.toRelC.baseIn) (z5a c₁.toRelC hm) hM.ga hM.gk hM.fn hM.ty hshadow ?_))
 refine wpAny_bind (wpAny_of_eq hpos ?_)
 refine z1L (F:= .ref f) hM.cal (.ref f) (D:=D₁) rfl (evalArgs_none ⟨c₁.toRelC.baseIn,z0Z a (hk.inF hA c₁ (.ref f) (.cons (.ref x) .nil))⟩)
end
end
section
open PyProof.Rows (IntsAre StrsAre sortedS)
noncomputable def z10(l:List Int):List Int:=l.mergeSort λa b=>decide (a<=b)
noncomputable def leS(a b:Str):Bool:= !decide (b.cps.toList<a.cps.toList)
noncomputable def z1E(l:List Str):List Str:=l.mergeSort leS
theorem z1n(l:List Int):(z10 l).Perm l:=List.mergeSort_perm _ _
theorem z2F(l:List Str):(z1E l).Perm l:=List.mergeSort_perm _ _
theorem y12(l:List Int):(z10 l).Pairwise (·<=·):=by
 have:=List.pairwise_mergeSort (le:=λa b:Int=>decide (a<=b)) (by intro a b c;simp;lia) (by intro a b;simp;lia) l
 exact this.imp λh=>by simpa using h
theorem y05{a b:List Int}(p:a.Perm b)(h:a.Pairwise (·<=·)):a=z10 b:=
 (p.trans (z1n b).symm).eq_of_pairwise (λx y _ _ h1 h2=>Int.le_antisymm h1 h2) h (y12 b)
theorem z6t{a b c:Str}(h1:leS a b=true)(h2:leS b c=true):leS a c=true:=by
 simp only[leS,Bool.not_eq_true',decide_eq_false_iff_not] at*
 exact List.le_trans h1 h2
theorem z95(a b:Str):(leS a b||leS b a)=true:=by
 simp only[leS,Bool.or_eq_true,Bool.not_eq_true',decide_eq_false_iff_not]
 exact List.le_total a.cps.toList b.cps.toList
theorem y0Z{a b:Str}(h1:leS a b=true)(h2:leS b a=true):a=b:=by
 simp only[leS,Bool.not_eq_true',decide_eq_false_iff_not] at*
 have:a.cps.toList=b.cps.toList:=List.le_antisymm h1 h2
 cases a;cases b;simp at this;simpa using this
theorem y0O(l:List Str):(z1E l).Pairwise (λa b=>leS a b=true):=List.pairwise_mergeSort (le:=leS) (λ_ _ _=>z6t) z95 l
theorem risingS_pw:∀(p:Str) (l:List Str),PyProof.Rows.risingS p l=true->(p::l).Pairwise (λa b=>leS a b=true)
 |p,[],_=>List.pairwise_singleton _ _
 |p,x::r,h=>by
  have h':(!PySem.Spec.ltCps x.cps.toList p.cps.toList&&PyProof.Rows.risingS x r)=true:=h
  simp only[Bool.and_eq_true,PyProof.Rows.ltCps_eq] at h'
  have ih:=risingS_pw x r h'.2
  refine List.pairwise_cons.mpr ⟨λy hy=> ?_,ih⟩
  rcases List.mem_cons.mp hy with rfl|hy
  ·exact h'.1
  ·exact z6t h'.1 ((List.pairwise_cons.mp ih).1 y hy)
theorem sortedS_pw:∀(l:List Str),sortedS l=true->l.Pairwise (λa b=>leS a b=true)
 |[],_=> .nil
 |x::r,h=>risingS_pw x r h
theorem z6f{a b:List Str}(p:a.Perm b)(h:a.Pairwise (λa b=>leS a b=true)):a=z1E b:=
 (p.trans (z2F b).symm).eq_of_pairwise (λx y _ _ h1 h2=>y0Z h1 h2) h (y0O b)
theorem VRs.ofInts{w:World}{D:Gh}{vs:List Value}{ns:List Int}(h:IntsAre vs ns):VRs w D vs (ns.map V.int):=by
 induction h with
 |nil=>exact .nil
 |cons n t _ ih=>exact .cons (.int _ _) ih
theorem VRs.ofStrs{w:World}{D:Gh}{vs:List Value}{ns:List Str}(h:StrsAre vs ns):VRs w D vs (ns.map V.str):=by
 induction h with
 |nil=>exact .nil
 |cons n t _ ih=>exact .cons (.str _ _) ih
theorem VRs.ints{w:World}{D:Gh}{vs:List Value}{ns:List Int}(h:VRs w D vs (ns.map V.int)):IntsAre vs ns:=by
 induction ns generalizing vs with
 |nil=>rw[VRs.nilI h];exact .nil
 |cons n ns ih=>
  apply VRs.consE h;intro _ _ h1 h2
  apply VR.intE h1;intro t
  exact .cons _ _ (ih h2)
theorem VRs.strs{w:World}{D:Gh}{vs:List Value}{ns:List Str}(h:VRs w D vs (ns.map V.str)):StrsAre vs ns:=by
 induction ns generalizing vs with
 |nil=>rw[VRs.nilI h];exact .nil
 |cons n ns ih=>
  apply VRs.consE h;intro _ _ h1 h2
  apply VR.strE h1;intro t
  exact .cons _ _ (ih h2)
section
variable {C:Cx} {env:Env} {vars:List Str} {gl:List (Str×V)} {own:Bool} {d:Nat} {m m':Loc} {σ:Sto} {Q:V->Sto->Prop} {QS:Fl->Loc->Sto->Prop} {G D:Gh} {s:Shared} {A:Around} {K:Type} [DecidableEq K]
theorem z6N(kk:KK C.prog C.w K):∀{l:List Value} {cvs:List (K×Value)},l.length=cvs.length->(∀(j:Nat) v,l[j]? =some v->∃k x,cvs[j]? =some (k,x)/\kk.knd.is k v=true)->VRs C.w D l (cvs.map λp=>kk.v p.1)
 |[],[],_,_=> .nil
 |v::l,p::cvs,hl,h=>by
  obtain⟨k,x,e,hk⟩:=h 0 v rfl
  simp at e;subst e
  exact .cons (kk.ofIs hk) (z6N kk (by simpa using hl) λj u hu=>by simpa using h (j+1) u (by simpa using hu))
 |[],_::_,h,_=>by simp at h
 |_::_,[],h,_=>by simp at h
theorem z9i [HM C](kk:KK C.prog C.w K){a:Addr}{kvs:List (K×V)}(hs:z0N C)(hm:At σ a (.dict (z06 kk kvs)))(hn:(kvs.map (·.1)).Nodup)(hl:kvs.length<=sizeLine)(q:NLf Q (kvs.map λp=>kk.v p.1) σ):
  KW C d (.type "list") [.ref a] σ Q:=λA G D s v vs hA R hv hss=>by
 apply VR.typeE hv
 obtain⟨o,hm⟩:=hm
 apply VRs.consE hss;intro _ _ h1 h2
 ·skip
  apply VRs.nilE h2;apply VR.refE h1
  obtain⟨cvs,hD,hk⟩:=RelC.dcH R kk hm hn
  obtain⟨ep,hat⟩:=hD.dictAt
  refine W.kdl_call (W.kdl_dict (knd:=kk.knd) (kvs:=cvs) (ep:=ep) (R.notSys hs hm)) hA.hh hat (by rw[hk.length];exact hl) λh' tk acc' c' hk' hS hacc=> ?_
  refine R.madeL hk' (z7T _) hS (Xs:=kvs.map λp=>kk.v p.1) ?_ q
  have e1:(kvs.map λp=>kk.v p.1)=cvs.map λp=>kk.v p.1:=by
   have:=hk.keys
   have e2:=congrArg (List.map kk.v) this
   simpa[List.map_map,Function.comp_def] using e2.symm
  rw[e1]
  exact z6N kk (by rw[Array.length_toList];exact hacc.1) λj v e=>hacc.2 j v (by rw[<-Array.getElem?_toList];exact e)
theorem z5c{x:V}{xs:List V}{P:Sto->Prop}(h:Has σ x (.list xs) P)(hl:xs.length<=sizeLine)(q:NLf Q xs σ):KW C d (.type "list") [x] σ Q:=λA G D s v vs hA R hv hss=>by
 apply VR.typeE hv
 apply VRs.consE hss;intro _ _ h1 h2
 ·skip
  apply VRs.nilE h2
  apply Has.isListE h R h1;intro a ws n ho hr
  refine call_list_seq a (T:="list") (.inl rfl) ho rfl rfl (λh' c' hk hS=> ?_) (by rw[show ws.size=xs.length by rw[<-hr.length];simp];exact hl)
  have:=R.madeL (t:=s.toks) hk (z7T _) hS hr q
  exact this
theorem z4D{h:Heap}{a b:Addr}{vs:List Value}{out:Array Value}{o:Obj}(hb:b≠a)(e:h.get? b=some o):(PyProof.Rows.sortedHeap h a vs out).get? b=some o:=by
 rw[PyProof.Rows.sortedHeap_old hb (Heap.lt_size e)];exact e
theorem z5F(R:RelC C G D σ s){h':Heap}{t:Nat}{vs:List Value}{out:Array Value}{Xs:List V}(hk:∀b o,s.heap.get? b=some o->h'.get? b=some o)(h:VRs C.w D out.toList Xs)(q:NLf Q Xs σ):
  PostC C G D Q (.ref h'.objs.size) {s with heap:=PyProof.Rows.sortedHeap (h'.push (PyProof.Rows.seqObj "list" vs.toArray 0)) h'.objs.size vs out,toks:=t}:=by
 obtain⟨e,he⟩:=PyProof.Rows.sortedHeap_at (h:=h'.push (PyProof.Rows.seqObj "list" vs.toArray 0)) (a:=h'.objs.size) (vs:=vs) (n:=0) (out:=out) (Heap.get?_push_size _ rfl)
 refine R.madeL (λb o eb=> ?_) ?_ he h q
 rotate_left
 ·cases e0:s.heap.get? h'.objs.size with
  |none=>rfl
  |some o=>exact absurd (Heap.lt_size (hk _ _ e0)) (Nat.lt_irrefl _)
 have hb:=hk b o eb
 exact z4D (Nat.ne_of_lt (Heap.lt_size hb)) (Heap.get?_push_of_some _ hb)
theorem z8E [HM C]{a:Addr}{kvs:List (Int×V)}(hs:z0N C)(hm:At σ a (.dict (z06 (KK.int C.prog C.w) kvs)))(hn:(kvs.map (·.1)).Nodup)(hl:kvs.length<64)(q:NLf Q ((z10 (kvs.map (·.1))).map V.int) σ):
  KW C d (.bi "sorted") [.ref a] σ Q:=λA G D s v vs hA R hv hss=>by
 apply VR.biE hv
 obtain⟨o,hm⟩:=hm
 apply VRs.consE hss;intro _ _ h1 h2
 ·skip
  apply VRs.nilE h2;apply VR.refE h1
  obtain⟨cvs,hD,hk⟩:=RelC.dcH R (KK.int C.prog C.w) hm hn
  obtain⟨ep,hat⟩:=hD.dictAt
  refine Calls.call_function_entry PyProof.Rows.kind_sorted PyProof.Rows.plain_sorted PyProof.Rows.entry_sorted (PyProof.Rows.args_sorted1 _) ?_
  unfold Builtin.«sorted»
  refine wpAny_bind (m:=checkCount "sorted" 1 1 _) (wpAny_pure ?_)
  refine wpAny_bind (W.kdu_collect (A:=A.in1) (W.kdl_dict (knd:=intKind C.prog C.w) (kvs:=cvs) (ep:=ep) (R.notSys hs hm)) hA.hh hat (by rw[hk.length];exact Nat.le_of_lt (Nat.lt_of_lt_of_le hl (by decide))) λh' tk acc hk' hacc=> ?_)
  have hlen:acc.toList.length=cvs.length:=by rw[Array.length_toList];exact hacc.1
  refine wpAny_bind (wpAny_newList ?_ (by rw[hlen,hk.length];exact Nat.le_of_lt (Nat.lt_of_lt_of_le hl (by decide))))
  have hI:IntsAre acc.toList (kvs.map (·.1)):=by
   have:=z6N (D:=D) (KK.int C.prog C.w) hlen λj v e=>hacc.2 j v (by rw[<-Array.getElem?_toList];exact e)
   have e1:(cvs.map λp=>(KK.int C.prog C.w).v p.1)=(kvs.map (·.1)).map V.int:=by rw[<-hk.keys,List.map_map];rfl
   rw[e1] at this;exact this.ints
  have hoL:(h'.push (PyProof.Rows.seqObj "list" acc.toList.toArray 0)).get? h'.objs.size=some (PyProof.Rows.seqObj "list" acc.toList.toArray 0):=Heap.get?_push_size _ rfl
  refine wpAny_bind (wpAny_holding (wpAny_call_entry PyProof.Rows.slot_list_sort ⟨_,hoL,rfl⟩ PyProof.Rows.entry_list_sort (PyProof.Rows.list_sort_tree hoL hI (by rw[hlen,hk.length];exact hl) λout ns' a1 a2 a3=>⟨_,rfl,?_⟩) (PyProof.Rows.args_list_sort _)))
  refine wpAny_pure ⟨_,rfl,?_⟩
  refine z5F R hk' (VRs.ofInts a1) ?_
  rw[y05 a2 a3];exact q
theorem z8J [HM C]{a:Addr}{kvs:List (Str×V)}(hs:z0N C)(hm:At σ a (.dict (z06 (KK.str C.prog C.w) kvs)))(hn:(kvs.map (·.1)).Nodup)(hl:kvs.length<64)(q:NLf Q ((z1E (kvs.map (·.1))).map V.str) σ):
  KW C d (.bi "sorted") [.ref a] σ Q:=λA G D s v vs hA R hv hss=>by
 apply VR.biE hv
 obtain⟨o,hm⟩:=hm
 apply VRs.consE hss;intro _ _ h1 h2
 ·skip
  apply VRs.nilE h2;apply VR.refE h1
  obtain⟨cvs,hD,hk⟩:=RelC.dcH R (KK.str C.prog C.w) hm hn
  obtain⟨ep,hat⟩:=hD.dictAt
  refine Calls.call_function_entry PyProof.Rows.kind_sorted PyProof.Rows.plain_sorted PyProof.Rows.entry_sorted (PyProof.Rows.args_sorted1 _) ?_
  unfold Builtin.«sorted»
  refine wpAny_bind (m:=checkCount "sorted" 1 1 _) (wpAny_pure ?_)
  refine wpAny_bind (W.kdu_collect (A:=A.in1) (W.kdl_dict (knd:=strKind C.prog C.w) (kvs:=cvs) (ep:=ep) (R.notSys hs hm)) hA.hh hat (by rw[hk.length];exact Nat.le_of_lt (Nat.lt_of_lt_of_le hl (by decide))) λh' tk acc hk' hacc=> ?_)
  have hlen:acc.toList.length=cvs.length:=by rw[Array.length_toList];exact hacc.1
  refine wpAny_bind (wpAny_newList ?_ (by rw[hlen,hk.length];exact Nat.le_of_lt (Nat.lt_of_lt_of_le hl (by decide))))
  have hI:StrsAre acc.toList (kvs.map (·.1)):=by
   have:=z6N (D:=D) (KK.str C.prog C.w) hlen λj v e=>hacc.2 j v (by rw[<-Array.getElem?_toList];exact e)
   have e1:(cvs.map λp=>(KK.str C.prog C.w).v p.1)=(kvs.map (·.1)).map V.str:=by rw[<-hk.keys,List.map_map];rfl
   rw[e1] at this;exact this.strs
  have hoL:(h'.push (PyProof.Rows.seqObj "list" acc.toList.toArray 0)).get? h'.objs.size=some (PyProof.Rows.seqObj "list" acc.toList.toArray 0):=Heap.get?_push_size _ rfl
  refine wpAny_bind (wpAny_holding (wpAny_call_entry PyProof.Rows.slot_list_sort ⟨_,hoL,rfl⟩ PyProof.Rows.entry_list_sort (PyProof.Rows.list_sort_treeK PyProof.Rows.strKind_oneLt hoL hI.keysOf (λv₁ v₂ rest e=>PyProof.Rows.keyKind_strs (by rw[<-e];exact hI)) (by rw[hlen,hk.length];exact hl) λst' hp hst=>⟨_,rfl,?_⟩) (PyProof.Rows.args_list_sort _)))
  refine wpAny_pure ⟨_,rfl,?_⟩
  obtain⟨ss',a1,a2,a3⟩:=PyProof.Rows.sorted_out_str hI hp hst
  refine z5F R hk' (VRs.ofStrs a1) ?_
  rw[z6f a2 (sortedS_pw _ a3)];exact q
theorem z5J{x:V}{ns:List Str}{P:Sto->Prop}(h:Has σ x (.list (ns.map V.str)) P)(hl:ns.length<64)(q:NLf Q ((z1E ns).map V.str) σ):KW C d (.bi "sorted") [x] σ Q:=λA G D s v vs hA R hv hss=>by
 apply VR.biE hv
 apply VRs.consE hss;intro _ _ h1 h2
 ·skip
  apply VRs.nilE h2
  apply Has.isLE h R h1;intro a ws hL hr
  have hI:=hr.strs
  refine PyProof.Rows.sorted_strs (vs:=ws.toList) (by simpa using hL) hI (by have:=hr.length;simp at this⊢;lia) λout ns' a1 a2 a3=> ?_
  obtain⟨e,he⟩:=PyProof.Rows.sortedAll_at s.heap ws.toList out
  have:=R.madeL (t:=s.toks) (λb o=>PyProof.Rows.sortedAll_old) (by
   cases e0:s.heap.get? (s.heap.objs.size+1) with
   |none=>rfl
   |some o=>exact absurd (Heap.lt_size e0) (Nat.not_lt.mpr (Nat.le_succ _))) he (VRs.ofStrs a1) (by rw[z6f a2 (sortedS_pw _ a3)];exact q)
  exact this
theorem y1c{b:Bool}(q:Q (.int (if b then 1 else 0)) σ):KW C d (.type "int") [.bool b] σ Q:=λA G D s v vs hA R hv hss=>by
 apply VR.typeE hv
 cases hss with
 |cons h1 h2=>apply VRs.nilE h2;apply VR.boolE h1;exact call_int_bool (PostC.now (R.tok _) (.int _ _) q)
end
end
section
open PyProof.Rows (IntsAre StrsAre)
section
variable {C:Cx} {env:Env} {vars:List Str} {gl:List (Str×V)} {own:Bool} {d:Nat} {m m':Loc} {σ:Sto} {Q:V->Sto->Prop} {QS:Fl->Loc->Sto->Prop} {P:Bool->Sto->Prop} {G D:Gh} {s:Shared} {A:Around} {K:Type} [DecidableEq K]
theorem RelF.drop(R:RelF C env vars gl own G D m σ s){τ:Sto}(hs:τ.Sublist σ):RelF C env vars gl own G D m τ s:=R.back (R.lifted.drop hs) (DX.refl _ _)
theorem AOk.line0{A:Around}{d:Nat}(h:AOk C A d):A.units<cLine:=by have:=h.units;show A.units<9900;lia
theorem y48(kk:KK C.prog C.w K){a b:Addr}{kvs:List (K×V)}(hs:z0N C)(ha:At σ a (.dict (z06 kk kvs)))(hn:(kvs.map (·.1)).Nodup)(hb:At σ b (.dict []))(q:Q (.bool (!kvs.isEmpty)) σ):
  AC2 C d (compareOp .NotEq) (.ref a) (.ref b) σ Q:=λA G D s v u hA R hv hu=>by
 obtain⟨oa,ha⟩:=ha;obtain⟨ob,hb⟩:=hb
 obtain⟨_,cvs,e,hD,hk⟩:=(Has.refD ha).isD kk hn R hv
 obtain⟨_,cv2,e2,hD2,hk2⟩:=Has.isD (x:= .ref b) (kvs:=[]) kk (Has.refD hb) .nil R hu
 obtain rfl:=VR.refI hv;obtain rfl:=VR.refI hu;cases e;cases e2;cases hk2
 refine W.keq_ne (r:=true) (R.notSys hs ha) (R.notSys hs hb) hD hD2 hA.line0 (λhl=> ?_) (PostC.now R (.bool _) ?_)
 ·cases cvs with
  |nil=>exact .nil
  |cons _ _=>simp at hl
 ·have:(cvs.length==([]:List (K×Value)).length&&true)=kvs.isEmpty:=by rw[hk.length];cases kvs<;>simp
  rw[this];exact q
theorem z2p(kk:KK C.prog C.w K){ke ve:Expr}{p:Pos}(h:∀a o,Fresh σ a->AT C env vars gl own d (eval ke env) m ((a,o,.dict [])::σ) λX σ₁=>AT C env vars gl own d (eval ve env) m σ₁ λY σ₂=>
   ∃k,X=kk.v k/\σ₂=(a,o,.dict [])::σ/\∀o',Q (.ref a) ((a,o',.dict (z06 kk [(k,Y)]))::σ)):
  AT C env vars gl own d (eval (.Dict [some ke] [ve] p) env) m σ Q:=λA G D s hA R=>by
 refine wpAny_Dict_pairs (knd:=kk.knd) (pairs:=[(eval ke env,do let x <-eval ve env;standAt p;pure x)]) rfl (by simp) (by simp) ?_
 have R₁:RelF C env vars gl own G D m ((s.heap.objs.size,z2m #[] 0,.dict [])::σ) {s with heap:=s.heap.push (z2m #[] 0)}:=
  R.back (R.lifted.newM (z2m #[] 0) (.dict []) ⟨#[],0,rfl,.nil⟩ rfl (λ_ _=>rfl)) (DX.refl _ _)
 refine evalPairs_cons ((h _ _ R.toRelC.fresh).run hA R₁ λv s₁ X D₁ σ₁ a b c e=> ?_)
 refine wpAny_bind (e.run hA c λu s₂ Y D₂ σ₂ a' b' c' hpp=> ?_)
 obtain⟨k,hX,hσ,q⟩:=hpp
 refine wpAny_bind (wpAny_standAt (wpAny_pure (evalPairs_nil ?_)))
 subst hX hσ
 have ho:s₂.heap.get? s.heap.objs.size=some (z2m #[] 0):=c'.pl _ (.head _)
 refine⟨[(k,u)],⟨kk.isOf (b.mono a'.sub),rfl,trivial⟩,⟨_,#[],0,ho,⟨rfl,rfl,rfl⟩,rfl,λe he=>by simp at he,.nil,.nil⟩,λh' hD' hs'=> ?_⟩
 have hm:merged ([]:List (K×Value)) [(k,u)]=[(k,u)]:=by simp[merged,stored]
 rw[hm] at hD'
 obtain⟨o',ho',hr'⟩:=HR.ofDict kk hD' (kvs:=[(k,Y)]) (.cons b' .nil)
 exact⟨.ref _,D₂,_,a.trans a',.ref _,c'.back (c'.lifted.upd (Upd.head (o':=o') (x':= .dict (z06 kk [(k,Y)]))) _ (z1b _ _) hs' rfl ho' hr') (DX.refl _ _),q o'⟩
theorem z3Y{x:V}{xs:List Str}{k:Str}{P:Sto->Prop}(h:Has σ x (.list (xs.map V.str)) P)(q:Q (.bool (!(xs.any (·==k)))) σ):AC2 C d (compareOp .NotIn) (.str k) x σ Q:=λA G D s v u hA R hv hu=>by
 apply Has.isLE h R hu;intro a ws hL hr
 apply VR.strE hv;intro _
 exact PyProof.Rows.notin_list_strs (vs:=ws.toList) (by simpa using hL) hr.strs (PostC.now R (.bool _) q)
noncomputable def y5t(xs:List V):List V:=xs.zipIdx.map λp=>V.tup [.int p.2,p.1]
variable {QI:List V->(Sto->Prop)->Sto->Prop}
end
end
section
section
variable {C:Cx} {d:Nat} {σ:Sto} {Q:V->Sto->Prop} {K:Type} [DecidableEq K]
theorem y3J(kk:KK C.prog C.w K){a:Addr}{o:Obj}{kvs:List (K×V)}{k:K}(hs:z0N C)(hm:(a,o,AO.dict (z06 kk kvs))∈σ)(hn:(kvs.map (·.1)).Nodup)(q:Q (.bool (!(vAt kvs k).isSome)) σ):
  AC2 C d (compareOp .NotIn) (kk.v k) (.ref a) σ Q:=λA G D s v u hA R hv hu=>by
 obtain⟨b,cvs,e,hD,hk⟩:=(Has.refD hm).isD kk hn R hu
 obtain rfl:=VR.refI hu;cases e
 refine wpAny_notIn_of (kk.isOf hv) (R.notSys hs hm) hD.mapOf ?_
 have:(valueAt cvs k).isSome=(vAt kvs k).isSome:=by
  rcases hk.at k with⟨e1,e2⟩|⟨_,_,e1,e2,_⟩<;>rw[e1,e2]<;>rfl
 rw[this]
 exact PostC.now (R.tok _) (.bool _) q
end
noncomputable abbrev dS(kvs:List (Str×V)):AO:= .dict (kvs.map λp=>(V.str p.1,p.2))
section
variable {C:Cx} {env:Env} {vars:List Str} {gl:List (Str×V)} {own:Bool} {d:Nat} {m m':Loc} {σ:Sto} {Q:V->Sto->Prop} {QS:Fl->Loc->Sto->Prop} {PB:Bool->Sto->Prop} {PS:Sto->Prop} {a:Addr} {kvs:List (Str×V)} {k:Str} {X:V}
theorem z13(h:At σ a (dS kvs))(hn:(kvs.map (·.1)).Nodup)(hx:vAt kvs k=some X)(q:Q X σ):SubR C d (.ref a) (V.str k) σ Q:=by
 obtain⟨o,h⟩:=h
 exact y2j (KK.str C.prog C.w) (Has.refD h) hn hx q
theorem z2O(hs:z0N C)(h:At σ a (dS kvs))(hn:(kvs.map (·.1)).Nodup)(q:Q (.bool (vAt kvs k).isSome) σ):AC2 C d (compareOp .In) (V.str k) (.ref a) σ Q:=by
 obtain⟨o,h⟩:=h
 exact y3H (KK.str C.prog C.w) hs h hn q
theorem y2r(hs:z0N C)(h:At σ a (dS kvs))(hn:(kvs.map (·.1)).Nodup)(q:Q (.bool (!(vAt kvs k).isSome)) σ):AC2 C d (compareOp .NotIn) (V.str k) (.ref a) σ Q:=by
 obtain⟨o,h⟩:=h
 exact y3J (KK.str C.prog C.w) hs h hn q
theorem z9f(hs:z0N C)(h:At σ a (dS kvs))(hn:(kvs.map (·.1)).Nodup)(q:Q ((vAt kvs k).getD X) σ):KW C d (.bi "dict.get") [.ref a,V.str k,X] σ Q:=by
 obtain⟨o,h⟩:=h
 exact y4c (KK.str C.prog C.w) hs h hn q
theorem y28(h:At σ a (dS kvs))(hn:(kvs.map (·.1)).Nodup)(hl:kvs.length<=sizeLine)(hx:vAt kvs k=some X)(q:∀σ',UpdS σ σ' a (dS (z5P kvs k))->Q X σ'):KW C d (.bi "dict.pop") [.ref a,V.str k] σ Q:=by
 obtain⟨o,σ',U,US⟩:=h.upd (dS (z5P kvs k))
 exact y4o (KK.str C.prog C.w) U hn hl hx λo'=>q _ (US o')
theorem z5L(hs:z0N C)(h:At σ a (dS kvs))(hn:(kvs.map (·.1)).Nodup)(hl:kvs.length<=sizeLine)(q1:∀Y,vAt kvs k=some Y->Q Y σ)(q2:vAt kvs k=none->∀σ',UpdS σ σ' a (dS (z1w kvs k X))->Q X σ'):
  KW C d (.bi "dict.setdefault") [.ref a,V.str k,X] σ Q:=by
 obtain⟨o,σ',U,US⟩:=h.upd (dS (z1w kvs k X))
 exact z7t (KK.str C.prog C.w) hs U hn hl q1 λe o'=>q2 e _ (US o')
theorem y0I(h:At σ a (dS kvs))(hn:(kvs.map (·.1)).Nodup)(hl:kvs.length<=sizeLine)(q:∀σ',UpdS σ σ' a (dS (z1w kvs k X))->PS σ'):SetR C d (.ref a) (V.str k) X σ PS:=by
 obtain⟨o,σ',U,US⟩:=h.upd (dS (z1w kvs k X))
 exact z5K (KK.str C.prog C.w) U hn hl λo'=>q _ (US o')
theorem z2M(hs:z0N C)(h:At σ a (dS kvs))(hn:(kvs.map (·.1)).Nodup)(hl:kvs.length<=sizeLine)(q:Q (.int kvs.length) σ):KW C d (.bi "len") [.ref a] σ Q:=by
 obtain⟨o,h⟩:=h
 exact y16 (KK.str C.prog C.w) hs h hn hl q
theorem z2y [HM C](hs:z0N C)(h:At σ a (dS kvs))(hn:(kvs.map (·.1)).Nodup)(hl:kvs.length<=sizeLine)(q:NLf Q (kvs.map λp=>V.str p.1) σ):KW C d (.type "list") [.ref a] σ Q:=
 z9i (KK.str C.prog C.w) hs h hn hl q
theorem z32 [HM C](hs:z0N C)(h:At σ a (dS kvs))(hn:(kvs.map (·.1)).Nodup)(hl:kvs.length<64)(q:NLf Q ((z1E (kvs.map (·.1))).map V.str) σ):KW C d (.bi "sorted") [.ref a] σ Q:=
 z8J hs h hn hl q
end
noncomputable abbrev dI(kvs:List (Int×V)):AO:= .dict (kvs.map λp=>(V.int p.1,p.2))
section
variable {C:Cx} {env:Env} {vars:List Str} {gl:List (Str×V)} {own:Bool} {d:Nat} {m m':Loc} {σ:Sto} {Q:V->Sto->Prop} {QS:Fl->Loc->Sto->Prop} {PB:Bool->Sto->Prop} {PS:Sto->Prop} {a:Addr} {kvs:List (Int×V)} {k:Int} {X:V}
theorem y22(h:At σ a (dI kvs))(hn:(kvs.map (·.1)).Nodup)(hx:vAt kvs k=some X)(q:Q X σ):SubR C d (.ref a) (V.int k) σ Q:=by
 obtain⟨o,h⟩:=h
 exact y2j (KK.int C.prog C.w) (Has.refD h) hn hx q
theorem y0C(hs:z0N C)(h:At σ a (dI kvs))(hn:(kvs.map (·.1)).Nodup)(q:Q (.bool (vAt kvs k).isSome) σ):AC2 C d (compareOp .In) (V.int k) (.ref a) σ Q:=by
 obtain⟨o,h⟩:=h
 exact y3H (KK.int C.prog C.w) hs h hn q
theorem y1P(hs:z0N C)(h:At σ a (dI kvs))(hn:(kvs.map (·.1)).Nodup)(q:Q (.bool (!(vAt kvs k).isSome)) σ):AC2 C d (compareOp .NotIn) (V.int k) (.ref a) σ Q:=by
 obtain⟨o,h⟩:=h
 exact y3J (KK.int C.prog C.w) hs h hn q
theorem z8Q(h:At σ a (dI kvs))(hn:(kvs.map (·.1)).Nodup)(hl:kvs.length<=sizeLine)(q:∀σ',UpdS σ σ' a (dI (z1w kvs k X))->PS σ'):SetR C d (.ref a) (V.int k) X σ PS:=by
 obtain⟨o,σ',U,US⟩:=h.upd (dI (z1w kvs k X))
 exact z5K (KK.int C.prog C.w) U hn hl λo'=>q _ (US o')
theorem y3q(hs:z0N C)(h:At σ a (dI kvs))(hn:(kvs.map (·.1)).Nodup)(hl:kvs.length<=sizeLine)(q:Q (.int kvs.length) σ):KW C d (.bi "len") [.ref a] σ Q:=by
 obtain⟨o,h⟩:=h
 exact y16 (KK.int C.prog C.w) hs h hn hl q
theorem z8o [HM C](hs:z0N C)(h:At σ a (dI kvs))(hn:(kvs.map (·.1)).Nodup)(hl:kvs.length<=sizeLine)(q:NLf Q (kvs.map λp=>V.int p.1) σ):KW C d (.type "list") [.ref a] σ Q:=
 z9i (KK.int C.prog C.w) hs h hn hl q
theorem z3W [HM C](hs:z0N C)(h:At σ a (dI kvs))(hn:(kvs.map (·.1)).Nodup)(hl:kvs.length<64)(q:NLf Q ((z10 (kvs.map (·.1))).map V.int) σ):KW C d (.bi "sorted") [.ref a] σ Q:=
 z8E hs h hn hl q
end
section
variable {C:Cx} {env:Env} {vars:List Str} {gl:List (Str×V)} {own:Bool} {d:Nat} {m m':Loc} {σ:Sto} {Q:V->Sto->Prop} {QS:Fl->Loc->Sto->Prop} {a:Addr}
theorem y3G{xs:List V}{X:V}(h:At σ a (.list xs))(hl:xs.length<=sizeLine)(q:∀σ',UpdS σ σ' a (.list (xs++[X]))->Q .none σ'):KW C d (.bi "list.append") [.ref a,X] σ Q:=by
 obtain⟨o,σ',U,US⟩:=h.upd (.list (xs++[X]))
 exact z5f U hl λo'=>q _ (US o')
noncomputable def z6o(c:Addr)(name:Str)(Y:V)(τ:Sto)(P:Addr->Prop):Prop:=∃x dx fs,Y= .ref x/\At τ x (.inst c dx fs)/\fs.lookup name=none/\P x
theorem y46{c dx:Addr}{name:Str}{fs:List (Str×V)}{P:Addr->Prop}(h:At σ a (.inst c dx fs))(hl:fs.lookup name=none)(q:P a):z6o c name (.ref a) σ P:=⟨a,dx,fs,rfl,h,hl,q⟩
noncomputable def z86(c:Addr)(name:Str)(Y:V)(τ:Sto)(P:V->Prop):Prop:=∃x dx fs Z,Y= .ref x/\At τ x (.inst c dx fs)/\fs.lookup name=some Z/\(∀n,Z≠ .bi n)/\P Z
theorem y4R{c dx:Addr}{name:Str}{fs:List (Str×V)}{b:Addr}{P:V->Prop}(h:At σ a (.inst c dx fs))(hl:fs.lookup name=some (.ref b))(q:P (.ref b)):z86 c name (.ref a) σ P:=⟨a,dx,fs,_,rfl,h,hl,(λn e=>by cases e),q⟩
theorem z21{K:W.Frag}{c f:Addr}{o e:Expr}{rest:List Expr}{name:Str}{ap p:Pos}(hM:MethAt C K c name f)
  (h:AT C env vars gl own d (eval o env) m σ λX σ₁=>z6o c name X σ₁ λx=>AL C env vars gl own d (spliced (backTo p (starEach (e::rest) env))) m σ₁ λXs σ₂=>KW C d (.ref f) (.ref x::Xs) σ₂ Q)
  (hbase:autoParam (attributeBase o name env (eval o env)=eval o env) auR) (hline:autoParam ((ap.endLine==p.line)=true) auR)
  (he:autoParam (starEach (e::rest) env=(false,eval e env)::starEach rest env) auR) (hplain:autoParam ((backTo p (starEach rest env)).any (·.1)=false) auR)
  (hfew:autoParam (((backTo p (starEach (e::rest) env)).all (λx=> !x.1)&&(backToKw p (keywordEach [] env)).all (λx=>x.1.isSome)&&decide ((e::rest).length+([]:List Keyword).length+(if([]:List Keyword).isEmpty then 0 else 1)<30))=true) auR):
  AT C env vars gl own d (eval (.Call (.Attribute o name ap) (e::rest) [] p) env) m σ Q:=
 y0Q hM (h.mono λX σ₁ hpp=>by obtain⟨x,dx,fs,hX,⟨ob,hm⟩,hl,k⟩:=hpp;exact⟨x,ob,dx,fs,hX,hm,hl,k⟩) hbase hline he hplain hfew
theorem z9P{K:W.Frag}{c f:Addr}{o:Expr}{name:Str}{ap p:Pos}(hM:MethAt C K c name f)
  (h:AT C env vars gl own d (eval o env) m σ λX σ₁=>z6o c name X σ₁ λx=>KW C d (.ref f) [.ref x] σ₁ Q)
  (hbase:autoParam (attributeBase o name env (eval o env)=eval o env) auR) (hline:autoParam ((ap.endLine==p.line)=true) auR):
  AT C env vars gl own d (eval (.Call (.Attribute o name ap) [] [] p) env) m σ Q:=y0n hM h hbase hline
theorem y1F{K:W.Frag}{c:Addr}{o:Expr}{name:Str}{p:Pos}(hM:AttrAt C K c name)
  (h:AT C env vars gl own d (eval o env) m σ λX σ₁=>z86 c name X σ₁ λY=>Q Y σ₁)
  (hbase:autoParam (attributeBase o name env (eval o env)=eval o env) auR) (ht:∀u r,letTemporaryGo o u r=pure ():=by intro _ _;with_unfolding_all exact rfl):
  AT C env vars gl own d (eval (.Attribute o name p) env) m σ Q:=
 y3n hM (h.mono λX σ₁ hpp=>by obtain⟨x,dx,fs,Y,hX,⟨ob,hm⟩,hl,hb,k⟩:=hpp;exact⟨x,ob,dx,fs,Y,hX,hm,hl,hb,k⟩) hbase ht
theorem tyD{es:List (V×V)}(h:At σ a (.dict es)):TyR C (.ref a) σ "dict":=by
 obtain⟨o,h⟩:=h
 exact y1Q (Has.refD h)
theorem tyL{xs:List V}(h:At σ a (.list xs)):TyR C (.ref a) σ "list":=by
 obtain⟨o,h⟩:=h
 exact y1m (Has.refL h)
end
end
section
theorem keys_miss:typeLookup (.type "list") "keys"=pure none:=by rw[typeLookup_type,builtinLookup_eq_fast];kernel_rfl
theorem getAttr?_miss{prog:Program}{w:World}{A:Around}{E:Value->Shared->Prop}{s:Shared}{a:Addr}{xs:Array Value}{k:Nat}{Q:Option Value->Shared->Prop}
  (hx:s.heap.get? a=some (z0D xs k)) (hA:A.handled=none)
  (h:∀h' tk,(∀b o,s.heap.get? b=some o->h'.get? b=some o)->Q none {s with heap:=h',toks:=tk}):
  wpAny (model prog w) A (getAttr? (.ref a) "keys") Q E s:=by
 obtain⟨hp,g,d,tk,os⟩:=s
 have hT:∀tk',(⟨hp,g,d,tk',os⟩:Shared).TypeIs (.ref a) "list":=λ_=>⟨_,hx,rfl⟩
 have f1:=sub_AttributeError
 have f3:=F.slot_list_getattribute.lookup
 have f4:=F.slot_list_getattribute.bind (.ref a)
 have f5:=am_list_getattr_none
 unfold getAttr? getAttrBy? getAttrBy
 repeat (any_goals (first|assumption|exact hT _|((with_reducible show wpAny _ _ (call (Value.builtin "list.__getattribute__") _ _) _ _ _);refine call_meets F.slot_list_getattribute (hT _) am_entry_list_getattribute (F.args_list_getattribute_2 _ _) (meets_getattribute_miss_list a xs k #[] "keys" _ keys_miss (by decide+kernel) (by decide+kernel)) ⟨hx,hA,λh' tk' e hx'=> ?_⟩)|wp_step))
 obtain⟨t',u',he⟩:=hx'.there
 show wpAny _ _ (getattributeRaised _ _ _ _ _ _ _) _ _ _
 unfold getattributeRaised
 repeat (any_goals (first|assumption|wp_step))
 exact h _ _ hx'.keeps
theorem entry_update_loop:entryFor table "dict.update.loop"=some Builtin.«dict.update.loop»:=entryFor_of_tree (by kernel_rfl)
theorem plain_update_loop:plainId "dict.update.loop"=true:=by decide+kernel
section
variable {prog:Program} {w:World} {K:Type} [DecidableEq K] {knd:KeyKind prog w K} {A:Around} {E:Value->Shared->Prop}
noncomputable def y1d(knd:KeyKind prog w K)(h:Heap)(v:Value)(p:K×Value):Prop:=∃t o key n,v= .ref t/\h.get? t=some o/\o.cls= .type "tuple"/\o.data= .seq #[key,p.2] n/\knd.is p.1 key=true
theorem z7J{S I ax:Addr}{ws:Array Value}{R:Result->Shared->Prop}(hh:A.handled=none)(hIS:I≠S)(hax:ax≠I)(hxS:ax≠S)(ps:List (K×Value))(hl:ps.length=ws.size)(hz:ps.length<=1000):
  ∀(k i:Nat) (s:Shared) (acc:List (K×Value)),ws.size-i=k->i<=ws.size->s.heap.IsListIter I ax i->s.heap.IsList ax ws->s.heap.DictOf knd S acc->acc.length<=i->
   (∀(j:Nat) v p,ws[j]? =some v->ps[j]? =some p->y1d knd s.heap v p)->(∀(j:Nat) t,ws[j]? =some (.ref t)->t≠I/\t≠S)->
   (∀h' tk,h'.DictOf knd S (merged acc (ps.drop i))->(∀b o,b≠S->b≠I->s.heap.get? b=some o->h'.get? b=some o)->R (.ok (.ret .none)) {s with heap:=h',toks:=tk})->
   codeAny (model prog w) A (.builtin "dict.update.loop" ⟨[.ref S,.ref I,rawInt i,.none],[]⟩) R s:=by
 intro k
 induction k with
 |zero=>
  intro i s acc hk hi hit hL hD hacc hP hne hR
  have hin:i=ws.size:=Nat.le_antisymm hi (Nat.le_of_sub_eq_zero hk)
  subst hin
  have W:=Walks.list (prog:=prog) (w:=w) (A:=A.in1) hh I ax hax ws
  refine codeAny_builtin entry_update_loop ?_
  rw[Around.under_plainId plain_update_loop _]
  show wpAny _ A.in1 (pyNext (.ref I)>>=_) _ _ s
  refine wpAny_bind (W.done s _ _ ⟨hit,hL⟩ λh' tk hkp=> ?_)
  show wpAny _ _ (Builtin.Dict.addKeywords S []>>=_) _ _ _
  refine wpAny_bind (wpAny_pure (wpAny_pure (hR h' tk ?_ λb o hb hbI e=>hkp b o (by simpa using hbI) e)))
  rw[List.drop_eq_nil_of_le (Nat.le_of_eq hl)]
  show h'.DictOf knd S acc
  obtain⟨o,es,ep,ho,r⟩:=hD
  exact⟨o,es,ep,hkp S o (by simpa using hIS.symm) ho,r⟩
 |succ k ih=>
  intro i s acc hk hi hit hL hD hacc hP hne hR
  have hlt:i<ws.size:=Nat.lt_of_sub_eq_succ hk
  have W:=Walks.list (prog:=prog) (w:=w) (A:=A.in1) hh I ax hax ws
  refine codeAny_builtin entry_update_loop ?_
  rw[Around.under_plainId plain_update_loop _]
  show wpAny _ A.in1 (pyNext (.ref I)>>=_) _ _ s
  refine wpAny_bind (W.item i s _ _ hlt ⟨hit,hL⟩ λv h' tk hv hst' hkp=> ?_)
  have hv':ws[i]? =some v:=hv
  obtain⟨p,hp⟩:∃p,ps[i]? =some p:=⟨_,List.getElem?_eq_getElem (hl▸hlt)⟩
  obtain⟨t,o,key,n,rfl,ho,hc,hd,hkey⟩:=hP i v p hv' hp
  have hnt:=hne i t hv'
  have ho':h'.get? t=some o:=hkp t o (by simpa using hnt.1) ho
  have hD':h'.DictOf knd S acc:=by
   obtain⟨o,es,ep,ho,r⟩:=hD
   exact⟨o,es,ep,hkp S o (by simpa using hIS.symm) ho,r⟩
  refine wpAny_bind (wpAny_holding ?_)
  refine wpAny_bind (wpAny_tryCatch ?_)
  unfold Builtin.Dict.pairItems
  refine wpAny_bind (wpAny_typeOf (T:="tuple") ⟨o,ho',hc⟩ ?_)
  rw[if_pos (by decide)]
  unfold seqItems?
  refine wpAny_bind (wpAny_bind (wpAny_loadPart ho' ?_))
  rw[hd]
  refine wpAny_pure (wpAny_pure ?_)
  show wpAny _ _ (holding [key,p.2] (dictSet S key p.2)) _ _ _
  refine wpAny_holding (wpAny_dictSet_pairs (hsz:=z0y (Nat.le_trans (Nat.le_of_lt (Nat.lt_of_le_of_lt hacc (hl▸hlt))) (Nat.le_trans hz (by decide)))) hkey hD' λh₁ hm₁ hs₁=> ?_)
  refine wpAny_pure ⟨plainId_quiet plain_update_loop _,?_⟩
  have kp2:∀b o,b≠S->b≠I->s.heap.get? b=some o->h₁.get? b=some o:=λb o hb hbI e=>(hs₁.2 b hb).trans (hkp b o (by simpa using hbI) e)
  have e1:rawInt (i:Int)= .int i 0:=rfl
  refine ih (i+1) _ (stored acc p.1 p.2) (by rw[Nat.sub_add_eq,hk];rfl) hlt ?_ ?_ hm₁ (Nat.le_trans (stored_length_le _ _ _) (Nat.succ_le_succ hacc)) (λj v q hv hq=> ?_) hne λh'' tk'' hD'' hk''=> ?_
  ·obtain⟨oi,h1,h2⟩:=hst'.1;exact⟨oi,(hs₁.2 I hIS).trans h1,h2⟩
  ·obtain⟨ol,h1,h2⟩:=hst'.2;exact⟨ol,(hs₁.2 ax hxS).trans h1,h2⟩
  ·obtain⟨t2,o2,key2,n2,rfl,ho2,r2⟩:=hP j v q hv hq
   exact⟨t2,o2,key2,n2,rfl,kp2 t2 o2 (hne j t2 hv).2 (hne j t2 hv).1 ho2,r2⟩
  ·refine hR h'' tk'' ?_ λb o hb hbI e=>hk'' b o hb hbI (kp2 b o hb hbI e)
   have:ps.drop i=p::ps.drop (i+1):=by
    obtain⟨hlt',e⟩:=List.getElem?_eq_some_iff.mp hp
    rw[List.drop_eq_getElem_cons hlt',e]
   rw[this]
   exact hD''
end
section
variable {C:Cx} {d:Nat} {σ:Sto} {Q:V->Sto->Prop} {G D:Gh} {s:Shared} {K:Type} [DecidableEq K]
noncomputable def y1w(ps:List (K×V)):List (K×V):=ps.foldl (λacc p=>z1w acc p.1 p.2) []
theorem KR.merged{w:World}{l:List (K×Value)}{r:List (K×V)}(h:KR w D l r):∀{a:List (K×Value)} {b:List (K×V)},KR w D a b->KR w D (PySem.merged a l) (r.foldl (λacc p=>z1w acc p.1 p.2) b):=by
 induction h with
 |nil=>intro a b hab;exact hab
 | @cons k v x l r hv _ ih=>intro a b hab;exact ih (hab.stored hv)
theorem y0A(kk:KK C.prog C.w K)(R:RelC C G D σ s):∀{ps:List (K×V)} {vs:List Value},VRs C.w D vs (ps.map λp=>V.tup [kk.v p.1,p.2])->
  ∃cps,KR C.w D cps ps/\(∀(j:Nat) v p,vs[j]? =some v->cps[j]? =some p->y1d kk.knd s.heap v p)/\∀(j:Nat) t,vs[j]? =some (.ref t)->∃o,s.heap.get? t=some o:=λ{ps}=>by
 induction ps with
 |nil=>intro vs h;obtain rfl:=VRs.nilI h;exact⟨[],.nil,(λj v p e=>by simp at e),λj t e=>by simp at e⟩
 |cons p ps ih=>
  intro vs h
  obtain⟨y,r,rfl,h1,h2⟩:=VRs.consI h
  obtain⟨cps,hk,hp,ht⟩:=ih h2
  obtain⟨t,o,us,n,rfl,e,hc,hd,hr⟩:=VR.tupI h1
  obtain⟨key,_,rfl,a1,hr⟩:=VRs.consI hr
  obtain⟨val,_,rfl,a3,hr⟩:=VRs.consI hr
  obtain rfl:=VRs.nilI hr
  refine⟨(p.1,val)::cps,.cons (k:=p.1) a3 hk,λj=> ?_,λj=> ?_⟩
  ·cases j with
   |zero=>intro v q e1 e2;obtain rfl:=Option.some.inj e1;obtain rfl:=Option.some.inj e2;exact⟨t,o,key,n,rfl,R.d _ _ e,hc,hd,kk.isOf a1⟩
   |succ j=>exactλv q e1 e2=>hp j v q e1 e2
  ·cases j with
   |zero=>intro t' e1;cases Option.some.inj e1;exact⟨o,R.d _ _ e⟩
   |succ j=>exact ht j
theorem y23 [HM C](kk:KK C.prog C.w K){x:V}{ps:List (K×V)}{P:Sto->Prop}(h:Has σ x (.list (ps.map λp=>V.tup [kk.v p.1,p.2])) P)(hz:ps.length<=1000)
  (q:∀a o,Fresh σ a->Q (.ref a) ((a,o,.dict (z06 kk (y1w ps)))::σ)):KW C d (.type "dict") [x] σ Q:=λA G D s v vs hA R hv hss=>by
 apply VR.typeE hv
 apply VRs.consE hss;intro _ _ h1 h2
 ·skip
  apply VRs.nilE h2
  apply Has.isListE h R h1;intro ax ws n ho hr
  obtain⟨cps,hk,hp,ht⟩:=y0A kk R hr
  have hlen:cps.length=ws.size:=by rw[hk.length];have:=hr.length;simp at this;lia
  refine callType_codes (Q₁:=λobj s₁=>obj= .ref s.heap.objs.size/\s₁={s with heap:=s.heap.push {cls:= .type "dict",data:= .dict #[]}}) F.kt_called_dict (F.kt_typeCall_dict_1 _) F.entry_dict_init (kt_code_dict_new _ ⟨rfl,rfl⟩) ?_
  rintro obj s₁ ⟨rfl,rfl⟩
  have hnew:(s.heap.push {cls:= .type "dict",data:= .dict #[]}).DictOf kk.knd s.heap.objs.size []:=Heap.DictOf.new s.heap
  have ho1:(s.heap.push {cls:= .type "dict",data:= .dict #[]}).get? ax=some (z0D ws n):=Heap.get?_push_of_some _ ho
  refine⟨hnew.typeIs,F.args_dict_init_2 _ _,?_⟩
  unfold Builtin.«dict.__init__»
  refine wpAny_bind ?_
  unfold Builtin.Dict.selfAndRest
  refine wpAny_bind (wpAny_notOrdered_dict hnew.typeIs ?_)
  show wpAny _ _ (pure (s.heap.objs.size,[Value.ref ax])) _ _ _
  refine wpAny_pure ?_
  show wpAny _ _ (Builtin.Dict.updateFrom "dict.__init__" s.heap.objs.size (.ref ax) [] .none) _ _ _
  unfold Builtin.Dict.updateFrom
  refine wpAny_bind (wpAny_typeOf (T:="list") ⟨_,ho1,rfl⟩ ?_)
  rw[if_pos (by decide)]
  refine wpAny_bind (getAttr?_miss ho1 hA.hh λh' tk hkp=> ?_)
  simp only[Option.isNone_none,if_true]
  refine wpAny_bind (wpAny_rule ?_)
  have ho2:h'.get? ax=some (z0D ws n):=hkp _ _ ho1
  have hL:h'.IsList ax ws:=⟨_,ho2,rfl,n,rfl⟩
  have hD2:h'.DictOf kk.knd s.heap.objs.size []:=by
   obtain⟨o,es,ep,ho,r⟩:=hnew
   exact⟨o,es,ep,hkp _ o ho,r⟩
  have hdlt:s.heap.objs.size<h'.objs.size:=by obtain⟨o,es,ep,ho,r⟩:=hD2;exact Heap.lt_size ho
  have haxlt:ax<h'.objs.size:=Heap.lt_size ho2
  refine wpAny_bind (wpAny_pyIter_list (s:={s with heap:=h',toks:=tk}) hL ?_)
  have liveS:∀t o,s.heap.get? t=some o->t≠s.heap.objs.size/\t≠h'.objs.size:=λt o e=>⟨Nat.ne_of_lt (Heap.lt_size e),Nat.ne_of_lt (Heap.lt_size (hkp _ _ (Heap.get?_push_of_some _ e)))⟩
  have kp3:∀(oI:Obj) b o,s.heap.get? b=some o->(h'.push oI).get? b=some o:=λoI b o e=>Heap.get?_push_of_some _ (hkp _ _ (Heap.get?_push_of_some _ e))
  refine wpAny_pure ⟨plainId_quiet plain_update_loop _,z7J (knd:=kk.knd) (A:=A.in1) hA.hh (Nat.ne_of_gt hdlt) (Nat.ne_of_lt haxlt) (liveS _ _ ho).1 cps hlen (by rw[hk.length];exact hz) _ 0 _ [] rfl (Nat.zero_le _) ⟨_,Heap.get?_push_size _ rfl,rfl,rfl⟩ (hL.push _) (by
   obtain⟨o,es,ep,ho,r⟩:=hD2
   exact⟨o,es,ep,Heap.get?_push_of_some _ ho,r⟩) (Nat.le_refl _) (λj v p e1 e2=> ?_) (λj t e1=> ?_) λh'' tk'' hD'' hk''=>⟨rfl,?_⟩⟩
  ·obtain⟨t,o,key,n',rfl,ho',r⟩:=hp j v p (by rw[Array.getElem?_toList];exact e1) e2
   exact⟨t,o,key,n',rfl,kp3 _ _ _ ho',r⟩
  ·obtain⟨o,e⟩:=ht j t (by rw[Array.getElem?_toList];exact e1)
   exact⟨(liveS t o e).2,(liveS t o e).1⟩
  ·obtain⟨o',ho',hr'⟩:=HR.ofDict kk hD'' (hk.merged (.nil:KR C.w D ([]:List (K×Value)) []))
   have kp4:∀b o,s.heap.get? b=some o->h''.get? b=some o:=λb o e=>hk'' b o (liveS b o e).1 (liveS b o e).2 (kp3 _ b o e)
   have R':=R.keep (h':=h'') tk'' kp4
   refine⟨.ref _,D,_,DX.refl _ _,.ref _,?_,q _ o' R.fresh⟩
   refine⟨R'.same,R'.bs,R'.g,R'.d,R'.base,?_,λa ha=> ?_,λa ha=> ?_,λp hp'=> ?_,λp hp'=> ?_⟩
   ·exact List.nodup_cons.mpr ⟨R.new_notFoot,R.nd⟩
   ·rcases List.mem_cons.mp ha with rfl|h
    ·exact R.new_G
    ·exact R.offG a h
   ·rcases List.mem_cons.mp ha with rfl|h
    ·exact R.new_D
    ·exact R.offD a h
   ·rcases List.mem_cons.mp hp' with rfl|h
    ·exact ho'
    ·exact R'.pl p h
   ·rcases List.mem_cons.mp hp' with rfl|h
    ·exact hr'
    ·exact R'.sto p h
end
end
section
section
variable {C:Cx} {env:Env} {vars:List Str} {gl:List (Str×V)} {own:Bool} {d:Nat} {m:Loc} {σ:Sto} {tgt:Expr} {body:List Stmt} {P:Sto->Prop} {QS:Fl->Loc->Sto->Prop}
noncomputable def LS(I:Loc->Sto->Prop)(P:Sto->Prop)(QS:Fl->Loc->Sto->Prop):Fl->Loc->Sto->Prop
 | .next,m,σ=>P σ/\I m σ
 | .cont,m,σ=>P σ/\I m σ
 | .brk,m,σ=>QS .next m σ
 | .ret v,m,σ=>QS (.ret v) m σ
theorem y1H{I:Loc->Sto->Prop}{X:V}(q:QS (.ret X) m σ):LS I P QS (.ret X) m σ:=q
theorem z9m{I:Loc->Sto->Prop}(hP:P σ)(q:I m σ):LS I P QS .next m σ:=⟨hP,q⟩
theorem z7u(I:Nat->Loc->Sto->Prop):∀(ys:List V) (k:Nat) (m:Loc) (σ:Sto),
  (∀(i:Nat) X,ys[i]? =some X->∀m σ,I (k+i) m σ->AA C env vars gl own d (assign tgt env) X m σ λm₁ σ₁=>AS C env vars gl own d (execs body env) m₁ σ₁ (LS (I (k+i+1)) P QS))->
  (∀m σ,I (k+ys.length) m σ->QS .next m σ)->I k m σ->z5X C env vars gl own d tgt body P QS ys m σ
 |[],k,m,σ,_,hq,hI=>hq m σ hI
 |X::ys,k,m,σ,h,hq,hI=>by
  intro A G D s v hA R hv
  refine wpAny_mono (h 0 X rfl m σ hI A G D s v hA R hv) (λu s' hpp=> ?_) λ_ _ e=>e
  obtain⟨m',D',σ',a,c,e⟩:=hpp
  refine⟨m',D',σ',a,c,e.mono λfl m₂ σ₂ q=> ?_⟩
  have ih:I (k+1) m₂ σ₂->z5X C env vars gl own d tgt body P QS ys m₂ σ₂:=λhI'=>z7u I ys (k+1) m₂ σ₂ (λi Y hY m σ hm=>by
    have:=h (i+1) Y (by simpa using hY) m σ (by rw[show k+(i+1)=k+1+i by lia];exact hm)
    rw[show k+(i+1)+1=k+1+i+1 by lia] at this
    exact this) (λm σ hm=>hq m σ (by rw[List.length_cons,show k+(ys.length+1)=k+1+ys.length by lia];exact hm)) hI'
  cases fl with
  |next=>exact⟨q.1,ih q.2⟩
  |cont=>exact⟨q.1,ih q.2⟩
  |brk=>exact q
  |ret v=>exact q
theorem y1p{n:Int}(h0:0<=n)(h1:n<=1000):Builtin.Range.small 0 n 1=true:=small_one (by decide) (by decide) (by lia) (by lia)
theorem y2G{n:Int}(h0:0<=n):Builtin.Range.rangeSize 0 n 1=(n.toNat:Int):=by rw[rangeSize_one];split<;>lia
theorem z6S{n:Nat}(h:n<=1000):Builtin.Range.small 0 (n:Int) 1=true:=y1p (Int.natCast_nonneg n) (Int.ofNat_le.mpr h)
theorem z7b(n:Nat):Builtin.Range.rangeSize 0 (n:Int) 1=((n:Nat):Int):=y2G (Int.natCast_nonneg n)
theorem z6s{n i:Nat}{X:V}(h:(z0R 0 1 n)[i]? =some X):i<n/\X=V.int (i:Int):=by
 have hi:i<n:=by simpa[z0R] using(List.getElem?_eq_some_iff.mp h).1
 rw[z0R,List.getElem?_map,List.getElem?_range hi] at h
 exact⟨hi,by simpa using h.symm⟩
theorem z1r{n:Nat}{X:V}(h:X∈z0R 0 1 n):∃i:Nat,i<n/\X=V.int (i:Int):=by
 obtain⟨i,hi⟩:=List.mem_iff_getElem?.mp h
 exact⟨i,z6s hi⟩
theorem z1I(n:Nat):(z0R 0 1 n).length=n:=by unfold z0R;rw[List.length_map,List.length_range]
theorem z4B(n:Nat):z0R 0 1 n=(List.range n).map λi:Nat=>V.int (i:Int):=by
 unfold z0R
 exact List.map_congr_left λi _=>by rw[Int.zero_add,Int.mul_one]
theorem z7I{α:Type}{l:List α}{i:Nat}(hn:l.Nodup)(hi:i<l.length):l[i]∉l.take i:=λhm=>by
 obtain⟨j,hj,e⟩:=List.mem_iff_getElem.mp hm
 rw[List.getElem_take] at e
 have:=(List.getElem_inj hn).mp e
 rw[List.length_take] at hj
 lia
theorem z70{α:Type}{l:List α}{i:Nat}(hi:i<l.length):l.take (i+1)=l.take i++[l[i]]:=by rw[List.take_succ,List.getElem?_eq_getElem hi];rfl
theorem z5C{α β:Type}{l:List α}{r:List β}{f:β->α}{i:Nat}(h:r.map f=l.take i)(hi:i<=l.length):r.length=i:=by
 have:=congrArg List.length h
 rw[List.length_map,List.length_take] at this
 lia
theorem z0M{α β:Type}{l:List α}{f:α->β}{n:Nat}(h:l.length<=n)(hn:n<=100000):(l.map f).length<=sizeLine:=by rw[List.length_map];exact z0y (Nat.le_trans h hn)
theorem z1H{α β:Type}{l:List α}{f:α->β}{i:Nat}{x:α}(h:l[i]? =some x):(l.map f)[i]? =some (f x):=by rw[List.getElem?_map,h];rfl
theorem y4g(I:Nat->Loc->Sto->Prop){iter:Expr}{p:Pos}(h:AI C env vars gl own d iter tgt m σ λys P σ₁=>I 0 m σ₁/\(∀(i:Nat) X,ys[i]? =some X->∀m σ,I i m σ->AA C env vars gl own d (assign tgt env) X m σ λm₁ σ₁=>AS C env vars gl own d (execs body env) m₁ σ₁ (LS (I (i+1)) P QS))/\(∀m σ,I ys.length m σ->QS .next m σ))
  (hs:autoParam (∀x,foldedSetIterable iter env x=pure x) auF):AS C env vars gl own d (exec (.For tgt iter body [] p) env) m σ QS:=
 z6w (λA G D s hA R=>wpAny_mono (h A G D s hA R) (λx s₁ h₁=>wpAny_mono h₁ (λit s₂ hpp=>by obtain⟨D',σ',xs,P,a,b,c1,c2,c3⟩:=hpp;exact⟨D',σ',xs,P,a,b,z7u I xs 0 m σ' (λi X hX m σ hm=>by
  have:=c2 i X hX m σ (by simpa using hm)
  simpa using this) (λm σ hm=>c3 m σ (by simpa using hm)) c1⟩) λ_ _ e=>e) λ_ _ e=>e) hs
theorem y4y(I:Nat->Loc->Sto->Prop){iter:Expr}{p:Pos}(h:AI C env vars gl own d iter tgt m σ λys P σ₁=>I 0 m σ₁/\(∀(i:Nat) X,ys[i]? =some X->∀m σ,I i m σ->∀QB:Fl->Loc->Sto->Prop,(∀m σ,P σ->I (i+1) m σ->QB .next m σ)->(∀Y m σ,QS (.ret Y) m σ->QB (.ret Y) m σ)->AA C env vars gl own d (assign tgt env) X m σ λm₁ σ₁=>AS C env vars gl own d (execs body env) m₁ σ₁ QB)/\(∀m σ,I ys.length m σ->QS .next m σ))
  (hs:autoParam (∀x,foldedSetIterable iter env x=pure x) auF):AS C env vars gl own d (exec (.For tgt iter body [] p) env) m σ QS:=
 y4g I (λA G D s hA R=>wpAny_mono (h A G D s hA R) (λx s₁ h₁=>wpAny_mono h₁ (λit s₂ hpp=>by obtain⟨D',σ',xs,P,a,b,c1,c2,c3⟩:=hpp;exact⟨D',σ',xs,P,a,b,c1,λi X hX m σ hm=>c2 i X hX m σ hm _ (λm σ hP hI=>z9m hP hI) λY m σ q=>y1H q,c3⟩) λ_ _ e=>e) λ_ _ e=>e) hs
variable {x:Str} {pp:Pos} {caps:List Str} {elt c:Expr} {ms:Loc} {Z:List V->Sto->Prop}
variable {Q:V->Sto->Prop}
theorem y4Q{X Y:V}{k:Int}(h0:0<=k)(h1:k<2)(q:Q X σ)(q':Q Y σ):SubR C d (.lst [X,Y]) (.int k) σ Q:=by
 rcases(show k=0∨k=1 by lia) with rfl|rfl
 ·exact z5r (.lst _) (by decide) (by decide) (X:=X) rfl q
 ·exact z5r (.lst _) (by decide) (by decide) (X:=Y) rfl q'
theorem z01{x:V}{xs:List V}{P:Sto->Prop}{i:Nat}{X:V}(h:Has σ x (.list xs) P)(hi:i<1000)(hx:xs[i]? =some X)(q:Q X σ):SubR C d x (.int (i:Int)) σ Q:=
 z5r h (Int.natCast_nonneg i) (by lia) (by rw[Int.toNat_natCast];exact hx) q
theorem z2D{xs:List V}{k:Int}(h0:0<=k)(h1:k<xs.length)(hs:xs.length<2^40)(q:∀X∈xs,Q X σ):SubR C d (.lst xs) (.int k) σ Q:=by
 have hk:k.toNat<xs.length:=by lia
 exact z5r (.lst _) h0 (by lia) (X:=xs[k.toNat]) (List.getElem?_eq_getElem hk) (q _ (List.getElem_mem hk))
theorem y3F{x y:Str}(q:Q (.bool (x !=y)) σ):AC2 C d (compareOp .NotEq) (.str x) (.str y) σ Q:=λA G D s v u hA R hv hu=>by
 apply VR.strE hv;intro _;apply VR.strE hu;intro _;exact PyProof.Rows.ne_str (PostC.now R (.bool _) q)
theorem z8B{y:Str}{p' pe p:Pos}(q:∀a o,Fresh σ a->∃m',Put vars m y (.ref a) m'/\QS .next m' ((a,o,.list [])::σ))(hk:autoParam (own=true) auR)
  (hs:autoParam (swapsWith (.List [] pe) (some (.Name y p')) p.line env=pure false) auR):AS C env vars gl own d (exec (.Assign [.Name y p'] (.List [] pe) p) env) m σ QS:=
 z1C (z5u (z0c ⟨Nat.zero_le _,q⟩)) hk hs
theorem z5x{y:Str}{p' pe p:Pos}(q:∀a o,Fresh σ a->∃m',Put vars m y (.ref a) m'/\QS .next m' ((a,o,.dict [])::σ))(hk:autoParam (own=true) auR)
  (hs:autoParam (swapsWith (.Dict [] [] pe) (some (.Name y p')) p.line env=pure false) auR):AS C env vars gl own d (exec (.Assign [.Name y p'] (.Dict [] [] pe) p) env) m σ QS:=
 z1C (z5p q) hk hs
theorem z3E{a:Addr}{o:Obj}{xs:List V}{X:V}(hl:xs.length<=sizeLine)(q:∀o',Q .none ((a,o',.list (xs++[X]))::σ)):KW C d (.bi "list.append") [.ref a,X] ((a,o,.list xs)::σ) Q:=
 z5f (λo'=>Upd.head) hl q
theorem z47{a:Addr}{o:Obj}{kvs:List (Str×V)}{k:Str}{X:V}{PS:Sto->Prop}(hn:(kvs.map (·.1)).Nodup)(hl:kvs.length<=sizeLine)(q:∀o',PS ((a,o',dS (z1w kvs k X))::σ)):SetR C d (.ref a) (.str k) X ((a,o,dS kvs)::σ) PS:=
 z5K (KK.str C.prog C.w) (σ':=λo'=>(a,o',dS (z1w kvs k X))::σ) (λo'=>Upd.head) hn hl q
theorem z1W{K:Type}[DecidableEq K]{kvs:List (K×V)}{k:K}{X:V}(h:k∉kvs.map (·.1)):z1w kvs k X=kvs++[(k,X)]:=by
 unfold z1w
 rw[if_neg]
 intro e
 obtain⟨p,hp,hk⟩:=List.any_eq_true.mp e
 exact h (List.mem_map.mpr ⟨p,hp,by simpa using hk⟩)
theorem z1i{K:Type}[DecidableEq K]{kvs:List (K×V)}{k:K}(h:k∉kvs.map (·.1)):vAt kvs k=none:=by
 unfold vAt
 rw[List.find?_eq_none.mpr]
 ·rfl
 ·intro p hp e;exact h (List.mem_map.mpr ⟨p,hp,by simpa using e⟩)
theorem z0v{K:Type}[DecidableEq K]{kvs:List (K×V)}{k:K}{X:V}(hn:(kvs.map (·.1)).Nodup)(h:(k,X)∈kvs):vAt kvs k=some X:=by
 induction kvs with
 |nil=>cases h
 |cons p r ih=>
  obtain⟨k',Y⟩:=p
  have hn':=List.nodup_cons.mp hn
  rcases List.mem_cons.mp h with e|h
  ·cases e;simp[vAt]
  ·have hne:k'≠k:=λe=>hn'.1 (by rw[e];exact List.mem_map.mpr ⟨_,h,rfl⟩)
   have:=ih hn'.2 h
   unfold vAt at this⊢
   rw[List.find?_cons];simpa[hne] using this
theorem z9n{P:Str->Prop}:∀{ys:List V},(∀y∈ys,∃w,y= .str w/\P w)->∃ws:List Str,ys=ws.map V.str/\∀w∈ws,P w
 |[],_=>⟨[],rfl,λ_ h=>by cases h⟩
 |y::ys,h=>by
  obtain⟨ws,rfl,hw⟩:=z9n λz hz=>h z (.tail _ hz)
  obtain⟨w,rfl,hp⟩:=h y (.head _)
  exact⟨w::ws,rfl,λz hz=>by rcases List.mem_cons.mp hz with rfl|hz;exact hp;exact hw z hz⟩
end
end
section
section
variable {C:Cx} {d:Nat} {σ:Sto} {Q:V->Sto->Prop}
theorem z2v{f:Addr}{xs:List V}(h:CW C d (.ref f) xs σ λx σ'=>∃a o ys τ,x= .ref a/\σ'=(a,o,.list ys)::τ/\Q (.lst ys) τ):CW C d (.ref f) xs σ Q:=λA G D s vs hA R hv=>
 codeAny_mono (h A G D s vs hA R hv) λr s' q=>by
  cases r with
  |error e=>exact q
  |ok fl=>
   cases fl<;>first|exact q.elim|skip
   obtain⟨x,D',σ',dx,hx,R',a,o,ys,τ,rfl,rfl,q⟩:=q
   cases hx
   obtain⟨R3,dx3,hv3⟩:=R'.freezeL (u:=[]) (v:=τ) rfl
   exact⟨.lst ys,_,τ,dx.trans dx3,hv3,R3,q⟩
end
end
section
section
variable {C:Cx} {env:Env} {vars:List Str} {gl:List (Str×V)} {own:Bool} {d:Nat} {m m':Loc} {σ:Sto} {Q:V->Sto->Prop} {QS:Fl->Loc->Sto->Prop} {G D:Gh} {s:Shared} {A:Around} {K:Type} [DecidableEq K]
theorem VRs.hd{w:World}{vs:List Value}{X:V}{xs:List V}(h:VRs w D vs (X::xs)):∃y r,vs=y::r/\VR w D y X/\VRs w D r xs:=by
 cases h with
 |cons h1 h2=>exact⟨_,_,rfl,h1,h2⟩
theorem y3f{a:Addr}{o:Obj}{σ':Obj->Sto}{X:V}{xs:List V}(U:∀o',Upd a o (.list (X::xs)) o' (.list xs) σ (σ' o'))(hl:(X::xs).length<=sizeLine)(q:∀o',Q X (σ' o')):KW C d (.bi "list.pop") [.ref a,.int 0] σ Q:=λA G D s v vs hA R hv hss=>by
 apply VR.biE hv
 apply VRs.consE hss;intro _ _ h1 hr2
 apply VRs.consE hr2;intro _ _ h2 hr3
 apply VRs.nilE hr3
 apply VR.refE h1
 apply VR.intE h2;intro t
 obtain⟨ws,n,rfl,hr⟩:∃ws n,o=z0D ws n/\VRs C.w D ws.toList (X::xs):=R.sto _ (U o).mem
 have ho:s.heap.get? a=some (z0D ws n):=R.pl _ (U (z0D ws n)).mem
 have hz:ws.size=(X::xs).length:=by rw[<-hr.length];simp
 obtain⟨y,r,e,hy,hr'⟩:=hr.hd
 have ew:ws=(y::r).toArray:=by rw[<-e,Array.toArray_toList]
 subst ew
 refine call_meets F.slot_list_pop ⟨_,ho,rfl⟩ F.entry_list_pop (F.args_list_pop_2 _ _) (MeetsSeq.list_pop_at a _ n 0 _ 0 y (by decide) (by simp[seqIndex?]) (by simp) (by rw[hz];exact hl)) ⟨ho,?_⟩
 have h1:=PyProof.Rows.get?_update_seq (c:="list") ho (λxs=>xs.eraseIdxIfInBounds 0)
 have:=R.upd (U _) s.toks (z1b _ _) (Heap.SameBut.update ..) rfl h1 ⟨_,_,rfl,by simpa using hr'⟩
 exact⟨X,D,_,DX.refl _ _,hy,this,q _⟩
theorem z9I{a:Addr}{o:Obj}{X:V}{xs:List V}(hl:(X::xs).length<=sizeLine)(q:∀o',Q X ((a,o',.list xs)::σ)):KW C d (.bi "list.pop") [.ref a,.int 0] ((a,o,.list (X::xs))::σ) Q:=
 y3f (σ':=λo'=>(a,o',.list xs)::σ) (λo'=>Upd.head) hl q
theorem Has.p{x:V}{ao:AO}{P:Sto->Prop}(h:Has σ x ao P):P σ:=by cases h<;>first|trivial|assumption
theorem Has.mono{τ:Sto}{x:V}{ao:AO}{P:Sto->Prop}(h:Has σ x ao P)(hs:∀p∈σ,p∈τ):Has τ x ao P:=by
 cases h with
 |lst=>exact .lst _
 |dct=>exact .dct _
 |refL h=>exact .refL (hs _ h)
 |refD h=>exact .refD (hs _ h)
theorem y2O(kk:KK C.prog C.w K){a:Addr}{kvs:List (K×V)}(hs:z0N C)(hm:At σ a (.dict (z06 kk kvs)))(hn:(kvs.map (·.1)).Nodup)(hl:kvs.length<=sizeLine)
  (q:∀b o,Fresh σ b->Q (.ref b) ((b,o,.dict (z06 kk kvs))::σ)):KW C d (.type "dict") [.ref a] σ Q:=λA G D s v vs hA R hv hss=>by
 apply VR.typeE hv
 obtain⟨o,hm⟩:=hm
 apply VRs.consE hss;intro _ _ h1 h2
 apply VRs.nilE h2
 apply VR.refE h1
 ·skip
  obtain⟨cvs,hD,hk⟩:=RelC.dcH R kk hm hn
  refine kt_call_dict (R.notSys hs hm) hD (by rw[hk.length];exact hl) λh' hD' hsb=> ?_
  have R1:=R.newM (z2m #[] 0) (.dict []) ⟨#[],0,rfl,.nil⟩ rfl (λ_ _=>rfl)
  obtain⟨o',ho',hr'⟩:=HR.ofDict kk hD' hk
  exact⟨.ref _,D,_,DX.refl _ _,.ref _,R1.upd (Upd.head (o':=o') (x':= .dict (z06 kk kvs))) s.toks (z1b _ _) hsb rfl ho' hr',q _ _ R.fresh⟩
theorem z7W{a:Addr}{kvs:List (Str×V)}(hs:z0N C)(hm:At σ a (dS kvs))(hn:(kvs.map (·.1)).Nodup)(hl:kvs.length<=sizeLine)
  (q:∀b o,Fresh σ b->Q (.ref b) ((b,o,dS kvs)::σ)):KW C d (.type "dict") [.ref a] σ Q:=y2O (KK.str C.prog C.w) hs hm hn hl q
end
end
section
noncomputable def z22(c:Nat):Bool:=decide (97<=c)&&decide (c<=122)
noncomputable def Lt(x:Str):Prop:=∀c∈x.cps.toList,z22 c=true
theorem Lt.append{x y:Str}(hx:Lt x)(hy:Lt y):Lt (x++y):=by
 intro c hc
 have:c∈(x.cps++y.cps).toList:=hc
 rw[Array.toList_append,List.mem_append] at this
 rcases this with h|h
 ·exact hx c h
 ·exact hy c h
theorem z1p(x y:Str):(x++y).length=x.length+y.length:=by
 show(x.cps++y.cps).size=_
 rw[Array.size_append];rfl
theorem Lt.slice{x:Str}(hx:Lt x)(l u:Option Int):Lt (Txt.slice x l u):=by
 unfold Txt.slice
 split
 ·exact hx
 ·intro c hc
  simp only[List.mem_filterMap] at hc
  obtain⟨i,_,e⟩:=hc
  exact hx c (by simpa using Array.mem_of_getElem? e)
theorem z3t{α:Type}(xs:Array α):∀(l:List Nat),(∀i∈l,i<xs.size)->(l.filterMap (xs[·]?)).length=l.length
 |[],_=>rfl
 |i::l,h=>by
  have hi:=h i (.head _)
  rw[List.filterMap_cons,Array.getElem?_eq_getElem hi]
  simp[z3t xs l λj hj=>h j (.tail _ hj)]
set_option tactic.hygienic true in
theorem z6j{x:Str}(l u:Option Int)(h:∀i∈Builtin.Str.strSliceIndices l u 1 x.length,i<x.length):(Txt.slice x l u).length=(Builtin.Str.strSliceIndices l u 1 x.length).length:=by
 unfold Txt.slice
 split
 ·rename_i h1;simp at h1;exact h1.symm
 ·show(List.toArray _).size=_
  rw[List.size_toArray,z3t x.cps _ h]
theorem sr1{a b:Nat}(h:a<=b):sliceRange (a:Int) (b:Int) 1=(List.range (b-a)).map λk=>a+k:=by
 obtain⟨c,rfl⟩:=Nat.exists_eq_add_of_le h
 have e:(if(a:Int)<((a+c:Nat):Int) then(((a+c:Nat):Int)-a+1-1)/1 else 0)=(c:Int):=by
  rw[Int.ediv_one]
  split<;>lia
 show(List.range (if(a:Int)<((a+c:Nat):Int) then(((a+c:Nat):Int)-a+1-1)/1 else 0).toNat).map _=_
 rw[e,Int.toNat_natCast,Nat.add_sub_cancel_left]
 refine List.map_congr_left λk _=> ?_
 rw[Int.one_mul]
 exact Int.toNat_natCast (a+k)
theorem z6b{n l:Nat}(h:n<=l):max 0 (min (if(n:Int)<0 then(n:Int)+l else n) (l:Int))=(n:Int):=by
 rw[if_neg (Int.not_lt.mpr (Int.natCast_nonneg n)),Int.min_eq_left (Int.ofNat_le.mpr h),Int.max_eq_right (Int.natCast_nonneg n)]
theorem z6v{x:Str}{n:Nat}(h:n<=x.length):(Txt.slice x none (some (n:Int))).length=n:=by
 have e:Builtin.Str.strSliceIndices none (some (n:Int)) 1 x.length=(List.range (n-0)).map λk=>0+k:=by
  show sliceRange ((0:Nat):Int) (max 0 (min (if(n:Int)<0 then(n:Int)+x.length else n) (x.length:Int))) 1=_
  rw[z6b h,sr1 (Nat.zero_le n)]
 rw[z6j,e,List.length_map,List.length_range]
 ·rfl
 ·rw[e];intro i hi
  obtain⟨j,hj,rfl⟩:=List.mem_map.mp hi
  rw[Nat.zero_add];exact Nat.lt_of_lt_of_le (List.mem_range.mp hj) h
theorem z6r{x:Str}{n:Nat}(h:n<=x.length):(Txt.slice x (some (n:Int)) none).length=x.length-n:=by
 have e:Builtin.Str.strSliceIndices (some (n:Int)) none 1 x.length=(List.range (x.length-n)).map λk=>n+k:=by
  show sliceRange (max 0 (min (if(n:Int)<0 then(n:Int)+x.length else n) (x.length:Int))) (x.length:Int) 1=_
  rw[z6b h,sr1 h]
 rw[z6j,e,List.length_map,List.length_range]
 rw[e];intro i hi
 obtain⟨j,hj,rfl⟩:=List.mem_map.mp hi
 exact Nat.add_lt_of_lt_sub' (List.mem_range.mp hj)
theorem y1S(ps:List Str):∀(acc:Array Nat),(∀c∈acc.toList,z22 c=true)->(∀p∈ps,Lt p/\p.length=1)->
  (∀c∈(ps.foldl (λacc p=>acc++(Str.ofString "").cps++p.cps) acc).toList,z22 c=true)/\(ps.foldl (λacc p=>acc++(Str.ofString "").cps++p.cps) acc).size=acc.size+ps.length:=by
 have e0:(Str.ofString "").cps= #[]:=by decide+kernel
 rw[e0]
 induction ps with
 |nil=>intro acc h _;exact⟨h,rfl⟩
 |cons p ps ih=>
  intro acc h hp
  have h1:=hp p (.head _)
  have:=ih (acc++ #[]++p.cps) (by
   intro c hc
   simp only[Array.append_empty,Array.toList_append,List.mem_append] at hc
   rcases hc with hc|hc
   ·exact h c hc
   ·exact h1.1 c hc) (λq hq=>hp q (.tail _ hq))
  refine⟨this.1,?_⟩
  rw[List.foldl_cons,this.2]
  have:p.cps.size=1:=h1.2
  simp[this];lia
theorem y2A{ps:List Str}(hp:∀p∈ps,Lt p/\p.length=1):Lt (Txt.join "" ps)/\(Txt.join "" ps).length=ps.length:=by
 unfold Txt.join Builtin.Str.glued
 cases ps with
 |nil=>exact⟨λc hc=>by simp[Str.empty] at hc,rfl⟩
 |cons p ps=>
  have h1:=hp p (.head _)
  have:=y1S ps p.cps h1.1 λq hq=>hp q (.tail _ hq)
  refine⟨this.1,?_⟩
  show(ps.foldl (λacc p=>acc++(Str.ofString "").cps++p.cps) p.cps).size=_
  rw[this.2]
  have:p.cps.size=1:=h1.2
  simp[this];lia
theorem z6V{ps:List Str}(hp:∀p∈ps,p.length=1)(hl:ps.length<=1000):JoinOk "" ps=true:=by
 unfold JoinOk
 have e0:(Str.ofString "").length=0:=by decide+kernel
 have:∀(l:List Str) (n:Nat),(∀p∈l,p.length=1)->l.foldl (λ(a:Nat) (p:Str)=>a+p.length+(Str.ofString "").length) n=n+l.length:=by
  intro l
  induction l with
  |nil=>intro n _;rfl
  |cons p l ih=>intro n h;rw[List.foldl_cons,ih _ (λq hq=>h q (.tail _ hq)),h p (.head _),e0];simp;lia
 have h2:ps.toArray.foldl (λ(a:Nat) (p:Str)=>a+p.length+(Str.ofString "").length) 0=ps.length:=by
  rw[<-Array.foldl_toList];rw[this _ _ hp];simp
 rw[h2]
 unfold Builtin.Str.tooLong
 simp
 show ps.length<=16777216
 lia
theorem z3g{α:Type}(xs:List α):∀(l:List Nat),(∀i∈l,i<xs.length)->(l.filterMap (xs[·]?)).length=l.length
 |[],_=>rfl
 |i::l,h=>by
  have hi:=h i (.head _)
  rw[List.filterMap_cons,List.getElem?_eq_getElem hi]
  simp[z3g xs l λj hj=>h j (.tail _ hj)]
theorem srm{n:Nat}:sliceRange ((n:Int)-1) (-1) (-1)=(List.range n).map λk=>n-1-k:=by
 have e:(if(n:Int)-1> -1 then((n:Int)-1- -1- -1-1)/ -(-1) else 0)=(n:Int):=by
  rw[show-(-1:Int)=1 from rfl,Int.ediv_one]
  split<;>lia
 show(List.range (if(n:Int)-1> -1 then((n:Int)-1- -1- -1-1)/ -(-1) else 0).toNat).map _=_
 rw[e,Int.toNat_natCast]
 exact List.map_congr_left λk hk=>by have:=List.mem_range.mp hk;lia
theorem y0F{xs:List V}{k:Int}(h:k=1∨k= -1):(slL xs none none (some k)).length=xs.length:=by
 have key:∀l:List Nat,(∀i∈l,i<xs.length)->l.length=xs.length->(l.filterMap (xs[·]?)).length=xs.length:=λl h1 h2=>(z3g xs l h1).trans h2
 rcases h with rfl|rfl
 ·have e:sliceRange ((0:Nat):Int) (xs.length:Int) 1=_:=sr1 (Nat.zero_le xs.length)
  show((sliceRange ((0:Nat):Int) (xs.length:Int) 1).filterMap (xs[·]?)).length=_
  rw[e]
  refine key _ (λi hi=> ?_) (by rw[List.length_map,List.length_range];rfl)
  obtain⟨j,hj,rfl⟩:=List.mem_map.mp hi
  rw[Nat.zero_add];exact List.mem_range.mp hj
 ·show((sliceRange ((xs.length:Int)-1) (-1) (-1)).filterMap (xs[·]?)).length=_
  rw[srm]
  refine key _ (λi hi=> ?_) (by rw[List.length_map,List.length_range])
  obtain⟨j,hj,rfl⟩:=List.mem_map.mp hi
  have hj:=List.mem_range.mp hj
  lia
theorem let_size:("abcdefghijklmnopqrstuvwxyz":Str).cps.size=26:=by decide+kernel
theorem let_lt:Lt ("abcdefghijklmnopqrstuvwxyz":Str):=by
 have:("abcdefghijklmnopqrstuvwxyz":Str).cps.toList.all z22=true:=by decide+kernel
 intro c hc
 exact List.all_eq_true.mp this c hc
theorem z8V{k:Int}(h0:0<=k)(h1:k<26):∃c,("abcdefghijklmnopqrstuvwxyz":Str).cps[k.toNat]? =some c/\z22 c=true:=by
 have hk:k.toNat<("abcdefghijklmnopqrstuvwxyz":Str).cps.size:=by rw[let_size];lia
 refine⟨_,Array.getElem?_eq_getElem hk,let_lt _ (by simp)⟩
theorem let_small:∀c<128,(!(Builtin.Str.occurrences ("abcdefghijklmnopqrstuvwxyz":Str) ⟨#[c]⟩ 0 (Str.length "abcdefghijklmnopqrstuvwxyz") 1).isEmpty)=z22 c:=by
 decide+kernel
theorem y03{c:Nat}(h:z22 c=true):Lt ⟨#[c]⟩:=by
 intro k hk
 simp at hk
 subst hk;exact h
structure Ware(x:Str):Prop where
 lo:1<=x.length
 hi:x.length<=8
 lt:Lt x
end
section
inductive Bf(nx:Str->List Str):Nat->List Str->List Str->List Str->Prop
 |nil {f:List Str}:Bf nx 0 f [] f
 |skip {n:Nat} {f w r:List Str} {x:Str}:x∈f->Bf nx n f w r->Bf nx (n+1) f (x::w) r
 |take {n:Nat} {f w r:List Str} {x:Str}:x∉f->Bf nx n (f++[x]) (w++nx x) r->Bf nx (n+1) f (x::w) r
section
variable {nx:Str->List Str}
theorem Bf.len{n:Nat}{f w r:List Str}(h:Bf nx n f w r):w.length<=n:=by
 induction h with
 |nil=>exact Nat.le_refl _
 |skip _ _ ih=>simp;lia
 |take _ _ ih=>simp at ih⊢;lia
theorem Bf.rlen{n:Nat}{f w r:List Str}(h:Bf nx n f w r):r.length<=f.length+n:=by
 induction h with
 |nil=>exact Nat.le_refl _
 |skip _ _ ih=>lia
 |take _ _ ih=>simp at ih;lia
theorem Bf.all{P:Str->Prop}(hn:∀x,∀y∈nx x,P y){n:Nat}{f w r:List Str}(h:Bf nx n f w r):(∀x∈f,P x)->(∀x∈w,P x)->∀x∈r,P x:=by
 induction h with
 |nil=>exactλh _=>h
 |skip _ _ ih=>exactλh1 h2=>ih h1 λx hx=>h2 x (.tail _ hx)
 | @take n f w r x _ _ ih=>
  intro h1 h2
  refine ih (λy hy=> ?_) λy hy=> ?_
  ·rcases List.mem_append.mp hy with h|h
   ·exact h1 y h
   ·rw[List.mem_singleton.mp h];exact h2 _ (.head _)
  ·rcases List.mem_append.mp hy with h|h
   ·exact h2 y (.tail _ h)
   ·exact hn x y h
theorem Bf.drop{n:Nat}{f u r:List Str}(h:Bf nx n f u r):∀{w1 w2:List Str} {y:Str},u=w1++y::w2->(y∈f∨y∈w1)->∃k,k<=n/\Bf nx k f (w1++w2) r:=by
 induction h with
 |nil=>intro w1 w2 y e _;simp at e
 | @skip n f w r x hx h ih=>
  intro w1 w2 y e hy
  cases w1 with
  |nil=>simp at e;obtain⟨rfl,rfl⟩:=e;exact⟨n,by lia,h⟩
  |cons z w1=>
   simp at e;obtain⟨rfl,rfl⟩:=e
   obtain⟨k,hk,hb⟩:=ih rfl (by
    rcases hy with h|h
    ·exact .inl h
    ·rcases List.mem_cons.mp h with rfl|h
     ·exact .inl hx
     ·exact .inr h)
   exact⟨k+1,by lia,.skip hx hb⟩
 | @take n f w r x hx h ih=>
  intro w1 w2 y e hy
  cases w1 with
  |nil=>
   simp at e;obtain⟨rfl,rfl⟩:=e
   rcases hy with h|h
   ·exact absurd h hx
   ·cases h
  |cons z w1=>
   simp at e;obtain⟨rfl,rfl⟩:=e
   obtain⟨k,hk,hb⟩:=ih (w1:=w1) (w2:=w2++nx x) (y:=y) (by simp) (by
    rcases hy with h|h
    ·exact .inl (List.mem_append_left _ h)
    ·rcases List.mem_cons.mp h with rfl|h
     ·exact .inl (List.mem_append_right _ (.head _))
     ·exact .inr h)
   exact⟨k+1,by lia,.take hx (by simpa using hb)⟩
noncomputable def z07(f ys:List Str):List Str:=ys.foldl (λg y=>if g.any (·==y) then g else g++[y]) f
theorem any_mem{xs:List Str}{k:Str}:xs.any (·==k)=true↔k∈xs:=by simp[List.any_eq_true]
theorem addNew_nodup:∀{ys f:List Str},f.Nodup->(z07 f ys).Nodup
 |[],f,h=>h
 |y::ys,f,h=>by
  show(z07 (if f.any (·==y) then f else f++[y]) ys).Nodup
  refine addNew_nodup ?_
  by_cases e:f.any (·==y)=true
  ·rw[if_pos e];exact h
  ·rw[if_neg e]
   exact List.nodup_append.mpr ⟨h,by simp,λa ha b hb=>by rw[List.mem_singleton.mp hb];exactλe2=>e (any_mem.mpr (e2▸ha))⟩
theorem z77(f ys:List Str)(y:Str):z07 f (ys++[y])=if(z07 f ys).any (·==y) then z07 f ys else z07 f ys++[y]:=by
 unfold z07;rw[List.foldl_append];rfl
theorem addNew_len:∀(ys f:List Str),(z07 f ys).length<=f.length+ys.length
 |[],f=>Nat.le_refl _
 |y::ys,f=>by
  show(z07 (if f.any (·==y) then f else f++[y]) ys).length<=_
  have:=addNew_len ys (if f.any (·==y) then f else f++[y])
  split at this<;>simp at this⊢<;>split<;>simp_all<;>lia
theorem Bf.news{r f:List Str}:∀{ys w:List Str} {n:Nat},Bf nx n f (w++ys) r->∃k v,k<=n/\Bf nx k f v r/\z07 (f++w) ys=f++v
 |[],w,n,h=>⟨n,w,Nat.le_refl _,by simpa using h,rfl⟩
 |y::ys,w,n,h=>by
  show∃k v,k<=n/\Bf nx k f v r/\z07 (if(f++w).any (·==y) then f++w else(f++w)++[y]) ys=f++v
  by_cases e:(f++w).any (·==y)=true
  ·rw[if_pos e]
   obtain⟨k,hk,hb⟩:=h.drop rfl (List.mem_append.mp (any_mem.mp e))
   obtain⟨k',v,hk',hb',e'⟩:=Bf.news hb
   exact⟨k',v,by lia,hb',e'⟩
  ·rw[if_neg e]
   obtain⟨k',v,hk',hb',e'⟩:=Bf.news (ys:=ys) (w:=w++[y]) (n:=n) (by simpa using h)
   exact⟨k',v,hk',hb',by rw[<-e'];simp⟩
noncomputable def rest(nx:Str->List Str)(U f:List Str):Nat:=((U.filter λx=> !f.any (·==x)).map λx=>(nx x).length).sum
theorem z9k(U f:List Str)(x:Str):rest nx U (f++[x])<=rest nx U f:=by
 induction U with
 |nil=>exact Nat.le_refl _
 |cons u U ih=>
  unfold rest at*
  simp only[List.filter_cons]
  by_cases e:f.any (·==u)=true
  ·have e2:(f++[x]).any (·==u)=true:=by rw[List.any_append,e];rfl
   simp only[e,e2,Bool.not_true,Bool.false_eq_true,if_false];exact ih
  ·have e':f.any (·==u)=false:=eq_false_of_ne_true e
   simp only[e',Bool.not_false,if_true]
   split
   ·simp only[List.map_cons,List.sum_cons];lia
   ·simp only[List.map_cons,List.sum_cons];lia
theorem y2v{U f:List Str}{x:Str}(hx:x∈U)(hf:x∉f):rest nx U (f++[x])+(nx x).length<=rest nx U f:=by
 induction U with
 |nil=>cases hx
 |cons u U ih=>
  by_cases e:u=x
  ·subst e
   have h1:f.any (·==u)=false:=by
    cases h:f.any (·==u) with
    |false=>rfl
    |true=>exact absurd (any_mem.mp h) hf
   have h2:(f++[u]).any (·==u)=true:=any_mem.mpr (by simp)
   have:=z9k (nx:=nx) U f u
   unfold rest at*
   simp only[List.filter_cons,h1,h2,Bool.not_true,Bool.not_false,Bool.false_eq_true,if_false,if_true,List.map_cons,List.sum_cons]
   lia
  ·have ih:=ih (by
    rcases List.mem_cons.mp hx with h|h
    ·exact absurd h.symm e
    ·exact h)
   have h2:(f++[x]).any (·==u)=f.any (·==u):=by
    rw[List.any_append]
    have:([x].any λy=>y==u)=false:=by simp;exactλh=>e h.symm
    rw[this,Bool.or_false]
   unfold rest at*
   simp only[List.filter_cons,h2]
   split
   ·simp only[List.map_cons,List.sum_cons];lia
   ·exact ih
theorem y2e{U:List Str}(hU:∀x,x∉U->nx x=[]):∀(n:Nat) (f w:List Str),w.length+rest nx U f<=n->∃k r,k<=n/\Bf nx k f w r
 |n,f,[],_=>⟨0,f,Nat.zero_le _,.nil⟩
 |0,f,x::w,h=>by simp at h
 |n+1,f,x::w,h=>by
  simp at h
  by_cases e:x∈f
  ·obtain⟨k,r,hk,hb⟩:=y2e hU n f w (by lia)
   exact⟨k+1,r,by lia,.skip e hb⟩
  ·obtain⟨k,r,hk,hb⟩:=y2e hU n (f++[x]) (w++nx x) (by
    by_cases hx:x∈U
    ·have:=y2v (nx:=nx) hx e;simp;lia
    ·have:=z9k (nx:=nx) U f x;rw[hU x hx];simp;lia)
   exact⟨k+1,r,by lia,.take e hb⟩
theorem y2q{U f:List Str}{b:Nat}(h:∀x,(nx x).length<=b):rest nx U f<=b*U.length:=by
 induction U with
 |nil=>exact Nat.zero_le _
 |cons u U ih=>
  have:=h u
  unfold rest at*
  simp only[List.filter_cons]
  rw[List.length_cons,Nat.mul_succ]
  split
  ·simp;lia
  ·lia
end
end
section
section
variable {C:Cx} {env:Env} {vars:List Str} {gl:List (Str×V)} {own:Bool} {d:Nat} {m m':Loc} {σ:Sto} {Q:V->Sto->Prop} {QS:Fl->Loc->Sto->Prop} {G D:Gh} {s:Shared} {A:Around} {K:Type} [DecidableEq K]
inductive F2{α β:Type}(R:α->β->Prop):List α->List β->Prop
 |nil:F2 R [] []
 |cons {a:α} {b:β} {as:List α} {bs:List β}:R a b->F2 R as bs->F2 R (a::as) (b::bs)
theorem z8R [HM C]{caps:List Str}{x y:Str}{elt:Expr}{p1 p2 pt:Pos}{kt:Nat}{P:Sto->Prop}{Z:List V->Sto->Prop}{ms:Loc}{Gd:V×V->V->Prop}(hk1:env.kindOf x=some .local)(hk2:env.kindOf y=some .local)(hP:P σ)(ps:List (V×V)):
  ∀(acc:List V) (o1 o2:Option V),(∀p∈ps,∀K:V->Sto->Prop,(∀Y,Gd p Y->K Y σ)->AT C env (x::y::caps) gl false d (eval elt env) (some p.1::some p.2::ms) σ K)->(∀ys:List V,F2 Gd ps ys->Z (acc++ys) σ)->
   z04 C env (x::y::caps) gl d (.Tuple [.Name x p1,.Name y p2] kt pt) elt [] P Z (ps.map λp=>V.tup [p.1,p.2]) acc (o1::o2::ms) σ:=by
 induction ps with
 |nil=>intro acc o1 o2 _ q;simpa[z04] using q [] .nil
 |cons p ps ih=>
  intro acc o1 o2 h q
  refine y5c (z0w Put.head (z0w (Put.tail Put.head) ?_ (.inr hk2)) (.inr hk1))
  refine⟨λ_=>h p (.head _) _ λY hY=>⟨hP,ih (acc++[Y]) _ _ (λY hY=>h Y (.tail _ hY)) λys hs=> ?_⟩,λe=>by cases e⟩
  rw[List.append_assoc]
  exact q (Y::ys) (.cons hY hs)
open AutoSeq1 (wpAny_loadPart')
open MeetsSeq
end
end
section
section
variable {C:Cx} {env:Env} {vars:List Str} {gl:List (Str×V)} {own:Bool} {d:Nat} {m m':Loc} {σ:Sto} {Q:V->Sto->Prop} {QI:List V->(Sto->Prop)->Sto->Prop}
theorem y3U [HM C]{np p:Pos}{e tgt:Expr}(h:AT C env vars gl own d (eval (.Name "reversed" np) env) m σ λF σ₁=>F= .type "reversed"/\AL C env vars gl own d (spliced (backTo p (starEach [e] env))) m σ₁ λXs σ₂=>∃X xs P,Xs=[X]/\Has σ₂ X (.list xs) P/\QI xs.reverse P σ₂)
  (he:autoParam (starEach [e] env=(false,eval e env)::starEach [] env) auR) (hplain:autoParam ((backTo p (starEach [] env)).any (·.1)=false) auR):
  AI C env vars gl own d (.Call (.Name "reversed" np) [e] [] p) tgt m σ QI:=λA G D s hA R=>by
 refine wpAny_Call_ofName (h.run hA R λv s₁ F D₁ σ₁ a b c hpp=> ?_)
 obtain⟨hF,hk⟩:=hpp
 subst hF
 refine z1L (F:= .type "reversed") trivial b (by rw[he];exact hplain) ?_
 rw[he] at hk⊢
 refine Calls.evalArgs_plain (AL.run hk hA c λvs s₂ Xs D₂ σ₂ a' b' c' hpp=> ?_)
 obtain⟨X,xs,P,hX,hH,q⟩:=hpp
 refine⟨c'.toRelC.baseIn,?_⟩
 subst hX
 apply VR.typeE b
 apply VRs.consE b';intro _ _ h1 h2
 apply VRs.nilE h2
 apply Has.runLE hH c'.toRelC h1;intro ax vs n ho hr hP hst
 have hl:s₂.heap.IsList ax vs:=⟨_,ho,rfl,n,rfl⟩
 have hne:ax≠s₂.heap.objs.size:=Nat.ne_of_lt (Heap.lt_size ho)
 have hz:vs.size=xs.length:=by rw[<-hr.length,Array.length_toList]
 have hit:(s₂.heap.push (revObj ax ((vs.size:Int)-1))).IsRevIter s₂.heap.objs.size ax ((vs.size:Int)-1-((0:Nat):Int)):=⟨_,Heap.get?_push_size _ rfl,rfl,by simp[revObj]⟩
 refine call_reversed_list hl (wpAny_pyIter_revIter hit ⟨D₂,σ₂,xs.reverse,P,a.trans a',⟨s₂.heap.objs.size,_,_,_,rfl,IW.two (Walks.listRev hA.hh s₂.heap.objs.size ax hne vs) (by rw[List.length_reverse];exact hz) ?_ (λi h st=>by obtain⟨_,⟨o,ho,hc,_⟩,_⟩:=st;exact⟨o,_,ho,hc,by decide⟩) (λh st=>by obtain⟨_,_,o,ho,_⟩:=st;exact⟨o,ho⟩),⟨Nat.zero_le _,hit,hl.push _⟩,c'.push _,c'.offNew (z0D #[] 0),hP,keep2 ho hst⟩,q⟩)
 ·intro i u X e hX
  have hi:i<xs.length:=by rw[<-List.length_reverse];exact(List.getElem?_eq_some_iff.mp hX).1
  rw[List.getElem?_reverse hi] at hX
  obtain⟨u',e',r⟩:=hr.get hX
  rw[Array.getElem?_toList,<-hz,e] at e';cases e';exact r
end
end
section
section
variable {C:Cx} {env:Env} {vars:List Str} {gl:List (Str×V)} {own:Bool} {d:Nat} {m:Loc} {σ:Sto} {Q:V->Sto->Prop} {QI:List V->(Sto->Prop)->Sto->Prop}
noncomputable def EqV(C:Cx)(σ:Sto)(n:Nat)(x y:V):Prop:=∀(A:Around) (G D:Gh) (s:Shared) (v u:Value),A.units+n<cLine->RelC C G D σ s->VR C.w D v x->VR C.w D u y->SeqAt.EqAt A s v u true
theorem EqV.mono{n n':Nat}{x y:V}(h:EqV C σ n x y)(hn:n<=n'):EqV C σ n' x y:=λA G D s v u hu=>h A G D s v u (Nat.lt_of_le_of_lt (Nat.add_le_add_left hn _) hu)
theorem EqV.none:EqV C σ 0 .none .none:=λA G D s v u hl R hv hu=>by rw[hv.noneI,hu.noneI];exact .same _
theorem EqV.bool{b:Bool}:EqV C σ 0 (.bool b) (.bool b):=λA G D s v u hl R hv hu=>by rw[hv.boolI,hu.boolI];exact .same _
theorem EqV.ref{a:Addr}:EqV C σ 0 (.ref a) (.ref a):=λA G D s v u hl R hv hu=>by rw[hv.refI,hu.refI];exact .same _
theorem EqV.int{i:Int}:EqV C σ 0 (.int i) (.int i):=λA G D s v u hl R hv hu=>by
 apply VR.intE hv;intro t1;apply VR.intE hu;intro t2
 have:=SeqAt.EqAt.int_int (A:=A) (s:=s) i t1 i t2
 rw[beq_self_eq_true] at this;exact this
theorem EqV.str{i:Str}:EqV C σ 0 (.str i) (.str i):=λA G D s v u hl R hv hu=>by
 apply VR.strE hv;intro t1;apply VR.strE hu;intro t2
 have:=SeqAt.EqAt.str_str (A:=A) (s:=s) i t1 i t2
 rw[beq_self_eq_true] at this;exact this
theorem z6I{n:Nat}{xs ys:List V}{A:Around}{G D:Gh}{s:Shared}{ws zs:Array Value}(hl:A.units+(n+1)<cLine)(R:RelC C G D σ s)(hr:VRs C.w D ws.toList xs)(hr':VRs C.w D zs.toList ys)
  (h:∀(j:Nat) X Y,xs[j]? =some X->ys[j]? =some Y->EqV C σ n X Y):∀j (h1:j<ws.size) (h2:j<zs.size),SeqAt.EqAt A.in1 s ws[j] zs[j] true:=λj h1 h2=>by
 obtain⟨X,eX,rX⟩:=hr.get' (i:=j) (u:=ws[j]) (by rw[Array.getElem?_toList];exact Array.getElem?_eq_getElem h1)
 obtain⟨Y,eY,rY⟩:=hr'.get' (i:=j) (u:=zs[j]) (by rw[Array.getElem?_toList];exact Array.getElem?_eq_getElem h2)
 exact h j X Y eX eY A.in1 G D s _ _ (by show A.units+1+n<cLine;lia) R rX rY
theorem z3h(n:Nat):(List.range n).all (λ_=>true)=true:=by simp
theorem EqV.tup{n:Nat}{xs ys:List V}(hz:xs.length=ys.length)(h:∀(j:Nat) X Y,xs[j]? =some X->ys[j]? =some Y->EqV C σ n X Y):EqV C σ (n+1) (.tup xs) (.tup ys):=λA G D s v u hl R hv hu=>by
 apply VR.isTE R hv;intro a ws _ hT hr
 apply VR.isTE R hu;intro b zs _ hT' hr'
 by_cases e:a=b
 ·subst e;exact .same _
 ·have:=SeqAt.RcAt.tuples (e:=λ_=>true) hT hT' (by lia) (z6I hl R hr hr' h)
  rw[z3h,show(ws.size==zs.size)=true by rw[<-Array.length_toList,hr.length,<-Array.length_toList,hr'.length,hz];simp] at this
  exact .of_refs e this
theorem EqV.list{n:Nat}{x y:V}{xs ys:List V}{P P':Sto->Prop}(hx:Has σ x (.list xs) P)(hy:Has σ y (.list ys) P')(hz:xs.length=ys.length)(h:∀(j:Nat) X Y,xs[j]? =some X->ys[j]? =some Y->EqV C σ n X Y):EqV C σ (n+1) x y:=λA G D s v u hl R hv hu=>by
 apply Has.isListE hx R hv;intro a ws k ho hr
 apply Has.isListE hy R hu;intro b zs k' ho' hr'
 by_cases e:a=b
 ·subst e;exact .same _
 ·have:=SeqAt.RcAt.lists (e:=λ_=>true) ⟨_,ho,rfl,k,rfl⟩ ⟨_,ho',rfl,k',rfl⟩ (by rw[<-Array.length_toList,hr.length,<-Array.length_toList,hr'.length,hz]) (by lia) (z6I hl R hr hr' h)
  rw[z3h] at this
  exact .of_refs e this
theorem EqV.le{n:Nat}{x y:V}(h:EqV C σ 0 x y):EqV C σ n x y:=h.mono (Nat.zero_le _)
theorem z5A{A:Around}{d n:Nat}(hA:AOk C A d)(hn:n<=100):A.units+n<cLine:=by have:=hA.units;show A.units+n<9900;lia
theorem y4A{n:Nat}{xs ys:List V}(hz:xs.length=ys.length)(h:∀(j:Nat) X Y,xs[j]? =some X->ys[j]? =some Y->EqV C σ n X Y)(hn:n<=60)(q:Q (.bool false) σ):AC2 C d (compareOp .NotEq) (.tup xs) (.tup ys) σ Q:=λA G D s v u hA R hv hu=>by
 apply VR.isTE R hv;intro a ws _ hT hr
 apply VR.isTE R hu;intro b zs _ hT' hr'
 have:=SeqAt.RcNeAt.tuples (e:=λ_=>true) hT hT' hA.line0 (z6I (z5A hA (by lia)) R hr hr' h)
 rw[z3h,show(ws.size==zs.size)=true by rw[<-Array.length_toList,hr.length,<-Array.length_toList,hr'.length,hz];simp] at this
 exact this C.prog C.w _ _ (PostC.now R (.bool _) q)
theorem y1C{n:Nat}{x y:V}{xs ys:List V}{P P':Sto->Prop}(hx:Has σ x (.list xs) P)(hy:Has σ y (.list ys) P')(hz:xs.length=ys.length)(h:∀(j:Nat) X Y,xs[j]? =some X->ys[j]? =some Y->EqV C σ n X Y)(hn:n<=60)(q:Q (.bool false) σ):AC2 C d (compareOp .NotEq) x y σ Q:=λA G D s v u hA R hv hu=>by
 apply Has.isListE hx R hv;intro a ws k ho hr
 apply Has.isListE hy R hu;intro b zs k' ho' hr'
 have:=SeqAt.RcNeAt.lists (e:=λ_=>true) ⟨_,ho,rfl,k,rfl⟩ ⟨_,ho',rfl,k',rfl⟩ (by rw[<-Array.length_toList,hr.length,<-Array.length_toList,hr'.length,hz]) hA.line0 (z6I (z5A hA (by lia)) R hr hr' h)
 rw[z3h] at this
 exact this C.prog C.w _ _ (PostC.now R (.bool _) q)
theorem z8y{x:V}{xs:List V}{P:Sto->Prop}(h:Has σ x (.list xs) P)(hl:xs.length<=sizeLine)(q:Q (.tup xs) σ):KW C d (.type "tuple") [x] σ Q:=λA G D s v vs hA R hv hss=>by
 apply VR.typeE hv
 apply VRs.consE hss;intro _ _ h1 h2
 apply VRs.nilE h2
 apply Has.isListE h R h1;intro a ws n ho hr
 refine call_tuple_list ⟨_,ho,rfl,n,rfl⟩ (λh' hk=> ?_) (by rw[<-Array.length_toList,hr.length];exact hl)
 obtain⟨R',dx⟩:=(R.keep s.toks hk).newF (y4N ws 0)
 exact⟨.tup xs,_,σ,dx,.tup (vs:=ws.toList) (n:=0) (z0O ..) rfl (by rw[Array.toArray_toList]) (hr.mono dx.sub),R',q⟩
end
end
section
noncomputable def z3C(K:W.Frag)(a:Addr):FuncData:=match K.lookup a with
 |some o=>match o.data with
  | .func fd=>fd
  |_=>default
 |none=>default
noncomputable def y37(K:W.Frag)(a:Addr):Bool:=match K.lookup a with
 |some o=>match o.data with
  | .func _=>true
  |_=>false
 |none=>false
noncomputable def z7n(fd:FuncData):List Stmt:=match fd.body with
 | .stmts b=>b
 |_=>[]
noncomputable def y4k(fd:FuncData):Bool:=match fd.body with
 | .stmts _=>true
 |_=>false
noncomputable def y2u(K:W.Frag)(a:Addr)(vars gs:List Str):Bool:=
 y37 K a&&(y4k (z3C K a)&&((z3C K a).closure.isEmpty&&(W.codeIn K (z3C K a).code (z3C K a).qualname&&(Nat.beq (z3C K a).globals mainGlobals&&(Nat.beq (z3C K a).builtins builtinsNs&&z34 (z3C K a).scope vars gs)))))
section
variable {C:Cx} {d:Nat} {σ:Sto} {Q:V->Sto->Prop}
theorem y1l{K:W.Frag}{a:Addr}(h:y37 K a=true):∃o,K.lookup a=some o/\o.data= .func (z3C K a):=by
 unfold y37 at h
 unfold z3C
 cases e:K.lookup a with
 |none=>rw[e] at h;cases h
 |some o=>
  rw[e] at h
  refine⟨o,rfl,?_⟩
  have h:(match o.data with
   | .func _=>true
   |_=>false)=true:=h
  show o.data= .func (match o.data with
   | .func fd=>fd
   |_=>default)
  cases e2:o.data<;>rw[e2] at h<;>first|(cases h;done)|rfl
theorem y0w{fd:FuncData}(h:y4k fd=true):fd.body= .stmts (z7n fd):=by
 unfold y4k at h
 unfold z7n
 cases e:fd.body<;>rw[e] at h<;>first|(cases h;done)|rfl
theorem z08 [NF C]{K:W.Frag}(H:K.In C.base){a:Addr}(vars:List Str)(gl:List (Str×V)){xs:List V}(e:y2u K a vars (gl.map (·.1))=true)(e8:∀vs:List Value,vs.length=xs.length->bindArgs (z3C K a) ⟨vs,[]⟩=pure ((vars.take xs.length).zip vs))(e9:Nat.ble xs.length vars.length=true)(hgl:∀p∈gl,z0j C p.1 p.2)
  (h:∀env,env.scope=(z3C K a).scope->AS C env vars gl true d (execs (z7n (z3C K a)) env) (xs.map some++(vars.drop xs.length).map λ_=>none) σ (y2t Q)):CW C (d+1) (.ref a) xs σ Q:=by
 unfold y2u at e
 simp only[Bool.and_eq_true] at e
 obtain⟨e1,e2,e3,e4,e5,e6,e7⟩:=e
 obtain⟨o,k1,k2⟩:=y1l e1
 have hl:(vars.take xs.length).length=xs.length:=by rw[List.length_take];exact Nat.min_eq_left (Nat.le_of_ble_eq_true e9)
 refine y5e (params:=vars.take xs.length) (others:=vars.drop xs.length) ⟨⟨o,H a o k1,k2⟩,y0w e2,List.isEmpty_iff.mp e3,W.codeRec_of H e4,Nat.eq_of_beq_eq_true e5,Nat.eq_of_beq_eq_true e6,λvs hv=>e8 vs (hv.trans hl)⟩ hl.symm ?_ hgl ?_
 ·rw[List.take_append_drop];exact e7
 ·rw[List.take_append_drop];exact h
theorem vs0{P:List Value->Prop}(h:P []):∀vs:List Value,vs.length=0->P vs:=λvs e=>by rw[List.length_eq_zero_iff.mp e];exact h
theorem vsS{P:List Value->Prop}{n:Nat}(h:∀a,∀vs:List Value,vs.length=n->P (a::vs)):∀vs:List Value,vs.length=n+1->P vs:=λvs e=>by
 cases vs with
 |nil=>cases e
 |cons a vs=>exact h a vs (Nat.succ.inj e)
theorem vs1{P:List Value->Prop}(h:∀a,P [a]):∀vs:List Value,vs.length=1->P vs:=vsS λa=>vs0 (P:=λvs=>P (a::vs)) (h a)
theorem vs2{P:List Value->Prop}(h:∀a b,P [a,b]):∀vs:List Value,vs.length=2->P vs:=vsS λa=>vs1 (P:=λvs=>P (a::vs)) (h a)
theorem vs3{P:List Value->Prop}(h:∀a b c,P [a,b,c]):∀vs:List Value,vs.length=3->P vs:=vsS λa=>vs2 (P:=λvs=>P (a::vs)) (h a)
theorem vs4{P:List Value->Prop}(h:∀a b c d,P [a,b,c,d]):∀vs:List Value,vs.length=4->P vs:=vsS λa=>vs3 (P:=λvs=>P (a::vs)) (h a)
theorem vs5{P:List Value->Prop}(h:∀a b c d e,P [a,b,c,d,e]):∀vs:List Value,vs.length=5->P vs:=vsS λa=>vs4 (P:=λvs=>P (a::vs)) (h a)
end
end
section
section
variable {C:Cx} {env:Env} {vars:List Str} {gl:List (Str×V)} {own:Bool} {d:Nat} {m:Loc} {σ τ ρ:Sto} {Q:V->Sto->Prop} {QS:Fl->Loc->Sto->Prop}
theorem y3Q{x:V}{xs:List V}{P:Sto->Prop}{k:Int}(h:Has σ x (.list xs) P)(h0:0<=k)(h1:k<xs.length)(hs:xs.length<2^40)(q:∀X∈xs,Q X σ):SubR C d x (.int k) σ Q:=by
 have hk:k.toNat<xs.length:=by lia
 exact z5r h h0 (by lia) (X:=xs[k.toNat]) (List.getElem?_eq_getElem hk) (q _ (List.getElem_mem hk))
end
end
section
set_option genSizeOf false
set_option genInjectivity false
inductive TK where
 |str|int|bool|tup|lst|dct
noncomputable def TK.n:TK->String
 | .str=>"str"| .int=>"int"| .bool=>"bool"| .tup=>"tuple"| .lst=>"list"| .dct=>"dict"
noncomputable def TK.no:TK->Nat
 | .str=>0| .int=>1| .bool=>2| .tup=>3| .lst=>4| .dct=>5
noncomputable def TK.is(a b:TK):Bool:=Nat.beq a.no b.no||(Nat.beq a.no 2&&Nat.beq b.no 1)
noncomputable def tkOf:V->Option (Option TK)
 | .none=>some none| .bool _=>some (some .bool)| .int _=>some (some .int)| .str _=>some (some .str)| .tup _=>some (some .tup)| .lst _=>some (some .lst)| .dct _=>some (some .dct)|_=>none
noncomputable def y4l(x:V)(t:TK):Option Bool:=match tkOf x with
 |some (some k)=>some (k.is t)
 |some none=>some false
 |none=>none
noncomputable def inO(X:V):Option Int:=match X with
 | .int a=>some a
 |_=>none
noncomputable def stO(X:V):Option Str:=match X with
 | .str a=>some a
 |_=>none
noncomputable def boO(X:V):Option Bool:=match X with
 | .bool a=>some a
 |_=>none
noncomputable def tuO(X:V):Option (List V):=match X with
 | .tup a=>some a
 |_=>none
noncomputable def two{α β:Type}(x y:Option α)(f:α->α->Option β)(o:Option β):Option β:=match x with
 |some a=>match y with
  |some b=>f a b
  |none=>none
 |none=>o
noncomputable def z54(X Y:V)(f:Int->Int->Option V):Option V:=two (inO X) (inO Y) f none
noncomputable def y2B(b:Int)(f:Nat->Option V):Option V:=match b with
 | .ofNat (k+1)=>f k
 |_=>none
noncomputable def y24(op:Operator)(X Y:V):Option V:=match op with
 | .Add=>z54 X Y λa b=>some (.int (a+b))
 | .Sub=>z54 X Y λa b=>some (.int (a-b))
 | .Mod=>z54 X Y λa b=>y2B b λk=>some (.int (a.fmod (.ofNat (k+1))))
 | .FloorDiv=>z54 X Y λa b=>y2B b λk=>match Nat.blt (k+1) 1073741824 with
  |true=>some (.int (a.fdiv (.ofNat (k+1))))
  |false=>none
 |_=>none
noncomputable def eqV(X Y:V)(n:Bool->V):Option V:=two (inO X) (inO Y) (λa b=>some (n (decide (a=b)))) (two (stO X) (stO Y) (λa b=>some (n (a==b))) none)
noncomputable def isV(X Y:V)(n:Bool->V):Option V:=match Y.isNone with
 |true=>some (n X.isNone)
 |false=>two (boO X) (boO Y) (λa b=>some (n (a==b))) none
noncomputable def y0V(op:CmpOp)(X Y:V):Option V:=match op with
 | .Lt=>z54 X Y λa b=>some (.bool (decide (a<b)))
 | .LtE=>z54 X Y λa b=>some (.bool (decide (a<=b)))
 | .Gt=>z54 X Y λa b=>some (.bool (decide (b<a)))
 | .GtE=>z54 X Y λa b=>some (.bool (decide (b<=a)))
 | .Eq=>eqV X Y .bool
 | .NotEq=>eqV X Y λb=> .bool (!b)
 | .Is=>isV X Y .bool
 | .IsNot=>isV X Y λb=> .bool (!b)
 |_=>none
noncomputable def y2s(X:V)(k:Nat):Option V:=match tuO X with
 |some xs=>xs[k]?
 |none=>none
structure Leaf(P:Prop):Prop where
 out:P
section
variable {C:Cx} {d:Nat} {X Y Z:V} {σ:Sto} {Q:V->Sto->Prop}
theorem ffo{α:Type}{a:α}{P:Prop}(h:none=some a):P:=nomatch h
theorem z9F{a:Int}(h:inO X=some a):X= .int a:=by
 cases X<;>first|exact congrArg V.int (Option.some.inj h)|exact ffo h
theorem y3M{a:Str}(h:stO X=some a):X= .str a:=by
 cases X<;>first|exact congrArg V.str (Option.some.inj h)|exact ffo h
theorem y3u{a:Bool}(h:boO X=some a):X= .bool a:=by
 cases X<;>first|exact congrArg V.bool (Option.some.inj h)|exact ffo h
theorem y5d{a:List V}(h:tuO X=some a):X= .tup a:=by
 cases X<;>first|exact congrArg V.tup (Option.some.inj h)|exact ffo h
theorem V.isN_i(h:X.isNone=true):X= .none:=by
 cases X<;>first|rfl|exact ff h
theorem z9o{α:Type}{x y:Option α}{f:α->α->Option V}{o:Option V}(h:two x y f o=some Z):(∃a b,x=some a/\y=some b/\f a b=some Z)∨o=some Z:=by
 cases x with
 |none=>exact .inr h
 |some a=>cases y with
  |none=>exact nomatch h
  |some b=>exact .inl ⟨a,b,rfl,rfl,h⟩
theorem z5l{f:Int->Int->Option V}(h:z54 X Y f=some Z):∃a b,X= .int a/\Y= .int b/\f a b=some Z:=by
 rcases z9o h with⟨a,b,e1,e2,h⟩|h
 ·exact⟨a,b,z9F e1,z9F e2,h⟩
 ·exact nomatch h
theorem z7U{b:Int}{f:Nat->Option V}(h:y2B b f=some Z):∃k:Nat,b=((k+1:Nat):Int)/\f k=some Z:=by
 unfold y2B at h
 split at h
 ·exact⟨_,rfl,h⟩
 ·cases h
theorem y0y{k:Nat}:((k+1:Nat):Int)≠0:=by lia
theorem z3p{f:Int->Int->V}{g:Value->Value->Sem Value}(h:z54 X Y (λa b=>some (f a b))=some Z)(q:Q Z σ)(k:∀a b,Q (f a b) σ->AC2 C d g (.int a) (.int b) σ Q):AC2 C d g X Y σ Q:=by
 obtain⟨a,b,rfl,rfl,h⟩:=z5l h
 exact k a b (Option.some.inj h▸q)
theorem y26{op:Operator}(h:y24 op X Y=some Z)(q:Q Z σ):AC2 C d (binaryOp op) X Y σ Q:=by
 cases op with
 |Add=>exact z3p h q λ_ _ q=>z4Q q
 |Sub=>exact z3p h q λ_ _ q=>y3t q
 |Mod=>
  obtain⟨a,b,rfl,rfl,h'⟩:=z5l h
  obtain⟨k,rfl,h2⟩:=z7U h'
  exact z3b (Option.some.inj h2▸q) y0y
 |FloorDiv=>
  obtain⟨a,b,rfl,rfl,h'⟩:=z5l h
  obtain⟨k,rfl,h2⟩:=z7U h'
  cases hk:Nat.blt (k+1) 1073741824 with
  |true=>rw[hk] at h2;exact z2z (Option.some.inj h2▸q) y0y (Nat.blt_eq.mp hk)
  |false=>rw[hk] at h2;exact nomatch h2
 |_=>exact ffo h
theorem y2l{n:Bool->V}{op:CmpOp}(h:eqV X Y n=some Z)(q:Q Z σ)(h1:∀a b:Int,Q (n (decide (a=b))) σ->AC2 C d (compareOp op) (.int a) (.int b) σ Q)(h2:∀a b:Str,Q (n (a==b)) σ->AC2 C d (compareOp op) (.str a) (.str b) σ Q):AC2 C d (compareOp op) X Y σ Q:=by
 rcases z9o h with⟨a,b,e1,e2,h⟩|h
 ·rw[z9F e1,z9F e2];exact h1 a b (Option.some.inj h▸q)
 ·rcases z9o h with⟨a,b,e1,e2,h⟩|h
  ·rw[y3M e1,y3M e2];exact h2 a b (Option.some.inj h▸q)
  ·exact nomatch h
theorem y19{n:Bool->V}{op:CmpOp}(h:isV X Y n=some Z)(q:Q Z σ)(h1:Q (n X.isNone) σ->AC2 C d (compareOp op) X .none σ Q)(h2:∀a b:Bool,Q (n (a==b)) σ->AC2 C d (compareOp op) (.bool a) (.bool b) σ Q):AC2 C d (compareOp op) X Y σ Q:=by
 unfold isV at h
 cases hn:Y.isNone with
 |true=>rw[hn] at h;rw[V.isN_i hn];exact h1 (Option.some.inj h▸q)
 |false=>
  rw[hn] at h
  rcases z9o h with⟨a,b,e1,e2,h⟩|h
  ·rw[y3u e1,y3u e2];exact h2 a b (Option.some.inj h▸q)
  ·exact nomatch h
theorem z3m{op:CmpOp}(h:y0V op X Y=some Z)(q:Q Z σ):AC2 C d (compareOp op) X Y σ Q:=by
 cases op with
 |Lt=>exact z3p h q λ_ _ q=>y40 q
 |LtE=>exact z3p h q λ_ _ q=>y5q q
 |Gt=>exact z3p h q λ_ _ q=>y5i q
 |GtE=>exact z3p h q λ_ _ q=>y5r q
 |Eq=>exact y2l h q (λ_ _ q=>z8W q) λ_ _ q=>y4T q
 |NotEq=>exact y2l (n:=λb=> .bool (!b)) h q (λ_ _ q=>y3d q) λ_ _ q=>y3F q
 |Is=>exact y19 h q (λq=>y1q q) λ_ _ q=>y3V q
 |IsNot=>exact y19 (n:=λb=> .bool (!b)) h q (λq=>z7Q q) λ_ _ q=>y0h q
 |_=>exact ffo h
theorem y1K{k:Nat}(h:y2s X k=some Z)(hk:Nat.blt k 1000=true)(q:Q Z σ):SubR C d X (.int (k:Int)) σ Q:=by
 unfold y2s at h
 cases e:tuO X with
 |none=>rw[e] at h;exact nomatch h
 |some xs=>
  rw[e] at h;rw[y5d e]
  exact z3Q (Int.natCast_nonneg k) (Int.ofNat_lt.mpr (Nat.lt_trans (Nat.blt_eq.mp hk) (by decide))) h q
theorem y4H{i:Int}{t:TK}(q:Q (.bool (TK.int.is t)) σ):KW C d (.bi "isinstance") [.int i,.type t.n] σ Q:=z8O λA G D s v R h1=>by
 apply VR.intE h1;intro _
 cases t with
 |str=>exact IsiPair.int_str (PostC.now (R.tok _) (.bool _) q)
 |int=>exact IsiPair.int_int (PostC.now R (.bool _) q)
 |bool=>exact IsiPair.int_bool (PostC.now (R.tok _) (.bool _) q)
 |tup=>exact IsiPair.int_tuple (PostC.now (R.tok _) (.bool _) q)
 |lst=>exact IsiPair.int_list (PostC.now (R.tok _) (.bool _) q)
 |dct=>exact IsiPair.int_dict (PostC.now (R.tok _) (.bool _) q)
theorem y2z{b:Bool}{t:TK}(q:Q (.bool (TK.bool.is t)) σ):KW C d (.bi "isinstance") [.bool b,.type t.n] σ Q:=z8O λA G D s v R h1=>by
 apply VR.boolE h1
 cases t with
 |str=>exact IsiPair.bool_str (PostC.now (R.tok _) (.bool _) q)
 |int=>exact IsiPair.bool_int (PostC.now R (.bool _) q)
 |bool=>exact IsiPair.bool_bool (PostC.now R (.bool _) q)
 |tup=>exact IsiPair.bool_tuple (PostC.now (R.tok _) (.bool _) q)
 |lst=>exact IsiPair.bool_list (PostC.now (R.tok _) (.bool _) q)
 |dct=>exact IsiPair.bool_dict (PostC.now (R.tok _) (.bool _) q)
theorem y39{x:Str}{t:TK}(q:Q (.bool (TK.str.is t)) σ):KW C d (.bi "isinstance") [.str x,.type t.n] σ Q:=z8O λA G D s v R h1=>by
 apply VR.strE h1;intro _
 cases t with
 |str=>exact IsiPair.str_str (PostC.now R (.bool _) q)
 |int=>exact IsiPair.str_int (PostC.now (R.tok _) (.bool _) q)
 |bool=>exact IsiPair.str_bool (PostC.now (R.tok _) (.bool _) q)
 |tup=>exact IsiPair.str_tuple (PostC.now (R.tok _) (.bool _) q)
 |lst=>exact IsiPair.str_list (PostC.now (R.tok _) (.bool _) q)
 |dct=>exact IsiPair.str_dict (PostC.now (R.tok _) (.bool _) q)
theorem is_none{t:TK}(q:Q (.bool false) σ):KW C d (.bi "isinstance") [.none,.type t.n] σ Q:=z8O λA G D s v R h1=>by
 apply VR.noneE h1
 cases t with
 |str=>exact IsiPair.NoneType_str (PostC.now (R.tok _) (.bool _) q)
 |int=>exact IsiPair.NoneType_int (PostC.now (R.tok _) (.bool _) q)
 |bool=>exact IsiPair.NoneType_bool (PostC.now (R.tok _) (.bool _) q)
 |tup=>exact IsiPair.NoneType_tuple (PostC.now (R.tok _) (.bool _) q)
 |lst=>exact IsiPair.NoneType_list (PostC.now (R.tok _) (.bool _) q)
 |dct=>exact IsiPair.NoneType_dict (PostC.now (R.tok _) (.bool _) q)
theorem y2b{xs:List V}{t:TK}(q:Q (.bool (TK.tup.is t)) σ):KW C d (.bi "isinstance") [.tup xs,.type t.n] σ Q:=z8O λA G D s v R h1=>by
 obtain⟨a,o,vs,n,rfl,e,hc,hd,hr⟩:=h1.tupI
 cases t with
 |str=>exact IsiPair.tuple_str (R.d _ _ e) hc (PostC.now (R.tok _) (.bool _) q)
 |int=>exact IsiPair.tuple_int (R.d _ _ e) hc (PostC.now (R.tok _) (.bool _) q)
 |bool=>exact IsiPair.tuple_bool (R.d _ _ e) hc (PostC.now (R.tok _) (.bool _) q)
 |tup=>exact IsiPair.tuple_tuple (R.d _ _ e) hc (PostC.now R (.bool _) q)
 |lst=>exact IsiPair.tuple_list (R.d _ _ e) hc (PostC.now (R.tok _) (.bool _) q)
 |dct=>exact IsiPair.tuple_dict (R.d _ _ e) hc (PostC.now (R.tok _) (.bool _) q)
theorem z8L{x:V}{xs:List V}{P:Sto->Prop}(h:Has σ x (.list xs) P){t:TK}(q:Q (.bool (TK.lst.is t)) σ):KW C d (.bi "isinstance") [x,.type t.n] σ Q:=z8O λA G D s v R h1=>by
 apply Has.isListE h R h1;intro a ws n ho hr
 cases t with
 |str=>exact IsiPair.list_str ho rfl (PostC.now (R.tok _) (.bool _) q)
 |int=>exact IsiPair.list_int ho rfl (PostC.now (R.tok _) (.bool _) q)
 |bool=>exact IsiPair.list_bool ho rfl (PostC.now (R.tok _) (.bool _) q)
 |tup=>exact IsiPair.list_tuple ho rfl (PostC.now (R.tok _) (.bool _) q)
 |lst=>exact IsiPair.list_list ho rfl (PostC.now R (.bool _) q)
 |dct=>exact IsiPair.list_dict ho rfl (PostC.now (R.tok _) (.bool _) q)
theorem z7g{x:V}{xs:List (V×V)}{P:Sto->Prop}(h:Has σ x (.dict xs) P){t:TK}(q:Q (.bool (TK.dct.is t)) σ):KW C d (.bi "isinstance") [x,.type t.n] σ Q:=z8O λA G D s v R h1=>by
 apply Has.isDictE h R h1;intro a ws n ho
 cases t with
 |str=>exact IsiPair.dict_str ho rfl (PostC.now (R.tok _) (.bool _) q)
 |int=>exact IsiPair.dict_int ho rfl (PostC.now (R.tok _) (.bool _) q)
 |bool=>exact IsiPair.dict_bool ho rfl (PostC.now (R.tok _) (.bool _) q)
 |tup=>exact IsiPair.dict_tuple ho rfl (PostC.now (R.tok _) (.bool _) q)
 |lst=>exact IsiPair.dict_list ho rfl (PostC.now (R.tok _) (.bool _) q)
 |dct=>exact IsiPair.dict_dict ho rfl (PostC.now R (.bool _) q)
theorem z3A{t:TK}{b:Bool}(h:y4l X t=some b)(q:Q (.bool b) σ):KW C d (.bi "isinstance") [X,.type t.n] σ Q:=by
 have k:∀{a:Bool},some a=some b->Q (.bool a) σ:=λh=>(Option.some.inj h).symm▸q
 cases X with
 |none=>exact is_none (k h)
 |bool _=>exact y2z (k h)
 |int _=>exact y4H (k h)
 |str _=>exact y39 (k h)
 |tup _=>exact y2b (k h)
 |lst _=>exact z8L (.lst _) (k h)
 |dct _=>exact z7g (.dct _) (k h)
 |_=>exact nomatch h
noncomputable def cQ(o:Option V)(σ:Sto)(Q:V->Sto->Prop)(L:Prop):Prop:=match o with
 |some Z=>Q Z σ
 |none=>Leaf L
theorem z6C{a b:Int}{L:Prop}(h:0<b)(q:Q (.int (a.fmod b)) σ):cQ (y24 .Mod (.int a) (.int b)) σ Q L:=by
 obtain⟨k,rfl⟩:∃k:Nat,b=((k+1:Nat):Int):=⟨b.toNat-1,by lia⟩
 exact q
theorem z2g{a:Int}{n:Nat}{L:Prop}(h:0<n)(q:∀k:Nat,k<n->Q (.int (k:Int)) σ):cQ (y24 .Mod (.int a) (.int (n:Int))) σ Q L:=by
 have hp:(0:Int)<(n:Int):=Int.ofNat_lt.mpr h
 refine z6C hp ?_
 obtain⟨k,e⟩:=Int.eq_ofNat_of_zero_le (Int.fmod_nonneg_of_pos a hp)
 rw[e]
 exact q k (Int.ofNat_lt.mp (e▸Int.fmod_lt_of_pos a hp))
theorem z1o{x:V}{xs:List V}{P:Sto->Prop}{n:Nat}(h:Has σ x (.list xs) P)(hn:xs.length=n)(hl:xs.length<=sizeLine)(q:Q (.int (n:Int)) σ):KW C d (.bi "len") [x] σ Q:=z7r h hl (by rw[hn];exact q)
noncomputable def cB(o:Option V)(σ:Sto)(Q:Bool->Sto->Prop)(L:Prop):Prop:=match o with
 |some (.bool b)=>Q b σ
 |_=>Leaf L
noncomputable def cIf(b:Bool)(A B:Prop):Prop:=match b with
 |true=>A
 |false=>B
theorem z7D{b:Bool}{A B:Prop}(h:b=true)(a:A):cIf b A B:=by subst h;exact a
theorem z7A{b:Bool}{A B:Prop}(h:b=false)(a:B):cIf b A B:=by subst h;exact a
theorem z0T{b:Bool}{A B:Prop}(h:b=true->A)(k:b=false->B):cIf b A B:=by
 cases b with
 |true=>exact h rfl
 |false=>exact k rfl
theorem z4M{b:Bool}{A B:Prop}(w:cIf b A B):(b=true->A)/\(b=false->B):=by
 cases b with
 |true=>exact⟨λ_=>w,λe=>nomatch e⟩
 |false=>exact⟨(λe=>nomatch e),λ_=>w⟩
end
set_option genCtorIdx false in
inductive T where
 |loc (i:Nat) (x:Str) (p:Pos)|glb (i:Nat) (X:V) (x:Str) (p:Pos)|con (c:Const) (k:Nat) (p:Pos)|raw (e:Expr)|no
 |sub (a b:T) (p:Pos)|subT (a:T) (k u:Nat) (q p:Pos)|binc (o:Operator) (a b:T) (p:Pos)|cmpc (o:CmpOp) (a b:T) (p:Pos)|cmp2 (o o2:CmpOp) (a b c:T) (p:Pos)
 |una (o:UnaryOp) (a:T) (p:Pos)|vbo (o:BoolOp) (as:T) (p:Pos)|tup (as:T) (k:Nat) (p:Pos)|lst (as:T) (p:Pos)|call (f:Nat) (G:V) (x:Str) (q:Pos) (as:T) (p:Pos)|len (f:Nat) (x:Str) (q:Pos) (a:T) (p:Pos)|isi (f g:Nat) (t:TK) (x y:Str) (q r:Pos) (a:T) (p:Pos)
 |meth (ty id:String) (a:T) (n:Str) (q:Pos) (as:T) (p:Pos)|methI (c f:Nat) (a:T) (n:Str) (q:Pos) (as:T) (p:Pos)|slc (a b c:T) (p:Pos)
 |att (c:Nat) (a:T) (n:Str) (p:Pos)|dic (p:Pos)|nil|cons (a as:T)
 |bnot (a:T) (p:Pos)|bcmpc (o:CmpOp) (a b:T) (p:Pos)|bcmp2 (o o2:CmpOp) (a b c:T) (p:Pos)|bvalc (a:T)|bbo (o:BoolOp) (as:T) (p:Pos)
 |bnil|bcons (a as:T)
 |setI (e a b:T) (u p:Pos)|rawS (s:Stmt)|asg (i:Nat) (x:Str) (q:Pos) (e:T) (p:Pos)|asgL (i:Nat) (x:Str) (q r p:Pos)|asgD (i:Nat) (x:Str) (q r p:Pos)|asg2 (i j:Nat) (x y:Str) (q r:Pos) (k:Nat) (u:Pos) (e:T) (p:Pos)
 |ret (e:T) (p:Pos)|exp (e:T) (p:Pos)|ife (c a b:T) (p:Pos)
 |forR (f:Nat) (x:Str) (q:Pos) (a:T) (u:Pos) (i:Nat) (y:Str) (q2:Pos) (b:T) (p:Pos)|forL (a:T) (i:Nat) (y:Str) (q2:Pos) (b:T) (p:Pos)
 |forDS (a:T) (i:Nat) (y:Str) (q2:Pos) (b:T) (p:Pos)|forDI (a:T) (i:Nat) (y:Str) (q2:Pos) (b:T) (p:Pos)
 |forV (f:Nat) (x:Str) (q:Pos) (a:T) (u:Pos) (i:Nat) (y:Str) (q2:Pos) (b:T) (p:Pos)
 |done|seq (s r:T)|cut (s r:T)|dseq (s r:T)
structure Fx where
 C:Cx
 env:Env
 vars:List Str
 gl:List (Str×V)
 own:Bool
 d:Nat
 fns:List Nat
 ml:List (Nat×Str×Nat)
 al:List (Nat×Str)
set_option genCtorIdx false in
inductive Ins where
 |loc (i:Nat)|psh (X:V)|len|raw (e:Expr)|sub|subT (k:Nat)|binc (o:Operator)|cmpc (o:CmpOp)|cm2 (o:CmpOp) (r:List Ins)|una (o:UnaryOp)
 |vop (o:BoolOp) (r:List Ins)|tup (n:Nat)|lst (n:Nat)|call (G:V) (n:Nat)|isi (t:TK)|mty (ty:String)|meth (G:V) (n:Nat)|mI (c:Nat) (nm:Str)|slc
 |tcmpc (o:CmpOp)|tcm2 (o:CmpOp) (r:List Ins)|tvalc|not|mop (o:BoolOp) (r:List Ins)
 |ife (a b:List Ins)|asg (i:Nat)|asgL (i:Nat)|asgD (i:Nat)|asg2 (i j:Nat)|ret|pop|att (c:Nat) (nm:Str)|dic|setI|drp|rawS (s:Stmt)|cut (a:List Ins)|forR (i:Nat) (b:List Ins)|forL (i:Nat) (b:List Ins)|forDS (i:Nat) (b:List Ins)|forDI (i:Nat) (b:List Ins)|forV (i:Nat) (b:List Ins)
inductive Cat where
 |e|o|l|b|m|s|r
structure Den where
 k:Cat
 ok:Fx->Bool
 ex:Expr
 exs:List Expr
 st:Stmt
 sts:List Stmt
 c:List Ins->List Ins
 cv:BoolOp->List Ins->List Ins
noncomputable def D0:Den:=⟨.o,λ_=>true,.Name "" ⟨0,0,0,0⟩,[],.Pass ⟨0,0,0,0⟩,[],λc=> .psh .none::c,λ_ c=>c⟩
noncomputable def dE(ex:Expr)(ok:Fx->Bool)(c:List Ins->List Ins):Den:={D0 with k:= .e,ok:=ok,ex:=ex,c:=c}
noncomputable def dL(exs:List Expr)(ok:Fx->Bool)(c:List Ins->List Ins)(cv:BoolOp->List Ins->List Ins):Den:={D0 with k:= .l,ok:=ok,exs:=exs,c:=c,cv:=cv}
noncomputable def dB(ex:Expr)(ok:Fx->Bool)(c:List Ins->List Ins):Den:={D0 with k:= .b,ok:=ok,ex:=ex,c:=c}
noncomputable def dM(exs:List Expr)(ok:Fx->Bool)(cv:BoolOp->List Ins->List Ins):Den:={D0 with k:= .m,ok:=ok,exs:=exs,cv:=cv}
noncomputable def d1(st:Stmt)(ok:Fx->Bool)(c:List Ins->List Ins):Den:={D0 with k:= .s,ok:=ok,st:=st,c:=c}
noncomputable def dS1(sts:List Stmt)(ok:Fx->Bool)(c:List Ins->List Ins):Den:={D0 with k:= .r,ok:=ok,sts:=sts,c:=c}
noncomputable def okE(F:Fx)(D:Den):Bool:=match D.k with| .e=>D.ok F|_=>false
noncomputable def okO(F:Fx)(D:Den):Bool:=match D.k with| .e=>D.ok F| .o=>true|_=>false
noncomputable def exo(D:Den):Option Expr:=match D.k with| .e=>some D.ex|_=>none
noncomputable def okL(F:Fx)(D:Den):Bool:=match D.k with| .l=>D.ok F|_=>false
noncomputable def okB(F:Fx)(D:Den):Bool:=match D.k with| .b=>D.ok F|_=>false
noncomputable def okM(F:Fx)(D:Den):Bool:=match D.k with| .m=>D.ok F|_=>false
noncomputable def ok1(F:Fx)(D:Den):Bool:=match D.k with| .s=>D.ok F|_=>false
noncomputable def okS(F:Fx)(D:Den):Bool:=match D.k with| .r=>D.ok F|_=>false
noncomputable def isK(e:Expr)(n:Nat):Bool:=Nat.beq e.ctorIdx n
noncomputable def z4z(e:Expr):Bool:= !isK e 22
noncomputable def z7i(e:Expr):Bool:=isK e 23||(isK e 21||(isK e 16||(isK e 2||isK e 20)))
noncomputable def y4F(e:Expr):Bool:=isK e 23
noncomputable def z8G(e:Expr):Bool:= !isK e 16
noncomputable def z4n(e:Expr):Bool:= !(isK e 8||(isK e 9||isK e 10))
noncomputable def y3B(e:Expr):Bool:= !isK e 25
noncomputable def y1a(e:Expr):Bool:= !(isK e 0||(isK e 1||(isK e 3||(isK e 5||isK e 15))))
noncomputable def conV:Const->Option V
 | .int k=>some (.int k)| .str k=>some (.str k)| .bool k=>some (.bool k)| .none=>some .none|_=>none
noncomputable def veq(X Y:V):Bool:=match X with
 | .bi a=>match Y with| .bi b=>a==b|_=>false
 | .type a=>match Y with| .type b=>a==b|_=>false
 | .ref a=>match Y with| .ref b=>Nat.beq a b|_=>false
 | .int a=>match Y with| .int b=>a==b|_=>false
 | .str a=>match Y with| .str b=>a==b|_=>false
 |_=>false
noncomputable def okG(x:Str)(X:V):Option (Str×V)->Bool
 |some p=>(p.1==x)&&veq p.2 X
 |none=>false
noncomputable def isF(fns:List Nat):V->Bool
 | .bi _=>true
 | .type _=>true
 | .ref a=>fns.contains a
 |_=>false
noncomputable def y4m(id:String)(n:Str)(o:Option (Str×V)):Bool:=okG n (.bi id) o
noncomputable def y2Y(id:String)(n:Str)(o:Option (Str×V)):Bool:=okG n (.type id) o
noncomputable def bms:List (String×Str×String):=[("list","append","list.append"),("list","pop","list.pop"),("list","clear","list.clear"),("dict","get","dict.get"),("dict","pop","dict.pop"),("dict","setdefault","dict.setdefault"),("dict","update","dict.update"),("dict","clear","dict.clear"),("str","join","str.join")]
noncomputable def z3r(m:Loc)(i:Nat)(X:V)(k:Loc->Prop):Prop:=match Nat.blt i m.length with
 |true=>k (m.set i (some X))
 |false=>False
noncomputable def st1(s:List V)(k:V->List V->Prop):Prop:=match s with
 |X::s=>k X s
 |[]=>False
noncomputable def nlF(s:List V)(k:Prop):Prop:=match s with
 |[]=>k
 |_::_=>False
noncomputable def tpF(X:V)(k:List V->Prop):Prop:=match X with
 | .tup xs=>k xs
 |_=>False
noncomputable def y44(X:V)(k:V->V->Prop):Prop:=tpF X λxs=>st1 xs λx xs=>st1 xs λy xs=>nlF xs (k x y)
noncomputable def y5u(X:V)(k:V->V->V->Prop):Prop:=tpF X λxs=>st1 xs λx xs=>st1 xs λy xs=>st1 xs λz xs=>nlF xs (k x y z)
noncomputable def z18(R:Loc->Sto->Prop)(Q:Fl->Loc->Sto->Prop):Fl->Loc->Sto->Prop
 | .next,m,σ=>R m σ
 |f,m,σ=>Q f m σ
noncomputable def den:T->Den
 | .loc i x p=>dE (.Name x p) (λF=>F.vars[i]? ==some x) λc=> .loc i::c
 | .glb i X x p=>dE (.Name x p) (λF=>okG x X F.gl[i]?) λc=> .psh X::c
 | .con k n p=>dE (.Constant k n p) (λ_=>(conV k).isSome) λc=> .psh ((conV k).getD .none)::c
 | .raw e=>dE e (λ_=>true) λc=> .raw e::c
 | .no=>D0
 | .sub a b p=>dE (.Subscript (den a).ex (den b).ex p) (λF=>okE F (den a)&&okE F (den b)) λc=>(den a).c ((den b).c (.sub::c))
 | .subT a k u q p=>dE (.Subscript (den a).ex (.Constant (.int (k:Int)) u q) p) (λF=>okE F (den a)&&Nat.blt k 1000) λc=>(den a).c (.subT k::c)
 | .binc o a b p=>dE (.BinOp (den a).ex o (den b).ex p) (λF=>okE F (den a)&&okE F (den b)) λc=>(den a).c ((den b).c (.binc o::c))
 | .cmpc o a b p=>dE (.Compare (den a).ex [o] [(den b).ex] p) (λF=>okE F (den a)&&(okE F (den b)&& !behindInMarks o (den b).ex)) λc=>(den a).c ((den b).c (.cmpc o::c))
 | .cmp2 o o2 a b e p=>dE (.Compare (den a).ex [o,o2] [(den b).ex,(den e).ex] p) (λF=>okE F (den a)&&(okE F (den b)&&(okE F (den e)&& !behindInMarks o2 (den e).ex))) λc=>(den a).c ((den b).c (.cm2 o ((den e).c [.cmpc o2])::c))
 | .una o a p=>dE (.UnaryOp o (den a).ex p) (λF=>okE F (den a)) λc=>(den a).c (.una o::c)
 | .vbo o as p=>dE (.BoolOp o (den as).exs p) (λF=>okL F (den as)&& !(den as).exs.isEmpty) λc=>(den as).cv o c
 | .tup as k p=>dE (.Tuple (den as).exs k p) (λF=>okL F (den as)&&Nat.ble (den as).exs.length 1000) λc=>(den as).c (.tup (den as).exs.length::c)
 | .lst as p=>dE (.List (den as).exs p) (λF=>okL F (den as)&&Nat.ble (den as).exs.length 1000) λc=>(den as).c (.lst (den as).exs.length::c)
 | .call f G x q as p=>dE (.Call (.Name x q) (den as).exs [] p) (λF=>(okG x G F.gl[f]? &&isF F.fns G)&&okL F (den as)) λc=>(den as).c (.call G (den as).exs.length::c)
 | .len f x q a p=>dE (.Call (.Name x q) [(den a).ex] [] p) (λF=>okE F (den a)&&(z4z (den a).ex&&y4m "len" x F.gl[f]?)) λc=>(den a).c (.len::c)
 | .isi f g t x y q r a p=>dE (.Call (.Name x q) [(den a).ex,.Name y r] [] p) (λF=>okE F (den a)&&(z4z (den a).ex&&(y4m "isinstance" x F.gl[f]? &&y2Y t.n y F.gl[g]?))) λc=>(den a).c (.isi t::c)
 | .meth ty id a n q as p=>dE (.Call (.Attribute (den a).ex n q) (den as).exs [] p) (λF=>(okE F (den a)&&okL F (den as))&&((z8G (den a).ex&&(q.endLine==p.line&&Nat.blt (den as).exs.length 30))&&bms.contains (ty,n,id))) λc=>(den a).c (.mty ty::(den as).c (.meth (.bi id) (den as).exs.length::c))
 | .methI c' f a n q as p=>dE (.Call (.Attribute (den a).ex n q) (den as).exs [] p) (λF=>(okE F (den a)&&okL F (den as))&&((z8G (den a).ex&&(q.endLine==p.line&&Nat.blt (den as).exs.length 30))&&F.ml.contains (c',n,f))) λc=>(den a).c (.mI c' n::(den as).c (.meth (.ref f) (den as).exs.length::c))
 | .slc a b e p=>dE (.Slice (exo (den a)) (exo (den b)) (exo (den e)) p) (λF=>okO F (den a)&&(okO F (den b)&&okO F (den e))) λc=>(den a).c ((den b).c ((den e).c (.slc::c)))
 | .att k a n p=>dE (.Attribute (den a).ex n p) (λF=>okE F (den a)&&(y4F (den a).ex&&F.al.contains (k,n))) λc=>(den a).c (.att k n::c)
 | .dic p=>dE (.Dict [] [] p) (λ_=>true) λc=> .dic::c
 | .nil=>dL [] (λ_=>true) (λc=>c) λ_ c=>c
 | .cons a as=>dL ((den a).ex::(den as).exs) (λF=>okE F (den a)&&(z4z (den a).ex&&okL F (den as))) (λc=>(den a).c ((den as).c c)) λo c=>match(den as).exs with
   |[]=>(den a).c c
   |_::_=>(den a).c (.vop o ((den as).cv o [])::c)
 | .bnot a p=>dB (.UnaryOp .Not (den a).ex p) (λF=>okB F (den a)) λc=>(den a).c (.not::c)
 | .bcmpc o a b p=>dB (.Compare (den a).ex [o] [(den b).ex] p) (λF=>okE F (den a)&&(okE F (den b)&& !behindInMarks o (den b).ex)) λc=>(den a).c ((den b).c (.tcmpc o::c))
 | .bcmp2 o o2 a b e p=>dB (.Compare (den a).ex [o,o2] [(den b).ex,(den e).ex] p) (λF=>okE F (den a)&&(okE F (den b)&&(okE F (den e)&& !behindInMarks o2 (den e).ex))) λc=>(den a).c ((den b).c (.tcm2 o ((den e).c [.tcmpc o2])::c))
 | .bvalc a=>dB (den a).ex (λF=>okE F (den a)&&y1a (den a).ex) λc=>(den a).c (.tvalc::c)
 | .bbo o as p=>dB (.BoolOp o (den as).exs p) (λF=>okM F (den as)) λc=>(den as).cv o c
 | .bnil=>dM [] (λ_=>true) λo c=>match o with
   | .And=> .psh (.bool true)::c
   | .Or=> .psh (.bool false)::c
 | .bcons a as=>dM ((den a).ex::(den as).exs) (λF=>okB F (den a)&&okM F (den as)) λo c=>(den a).c (.mop o ((den as).cv o [])::c)
 | .setI e a b u p=>d1 (.Assign [.Subscript (den a).ex (den b).ex u] (den e).ex p) (λF=>z4n (den e).ex&&(okE F (den e)&&(okE F (den a)&&okE F (den b)))) λc=>(den e).c ((den a).c ((den b).c (.setI::c)))
 | .rawS s=>d1 s (λ_=>true) λc=> .rawS s::c
 | .asg i x q e p=>d1 (.Assign [.Name x q] (den e).ex p) (λF=>F.vars[i]? ==some x&&(z4n (den e).ex&&okE F (den e))) λc=>(den e).c (.asg i::c)
 | .asgL i x q r p=>d1 (.Assign [.Name x q] (.List [] r) p) (λF=>F.vars[i]? ==some x) λc=> .asgL i::c
 | .asgD i x q r p=>d1 (.Assign [.Name x q] (.Dict [] [] r) p) (λF=>F.vars[i]? ==some x) λc=> .asgD i::c
 | .asg2 i j x y q r k u e p=>d1 (.Assign [.Tuple [.Name x q,.Name y r] k u] (den e).ex p) (λF=>F.vars[i]? ==some x&&(F.vars[j]? ==some y&&(z4n (den e).ex&&(y3B (den e).ex&&okE F (den e))))) λc=>(den e).c (.asg2 i j::c)
 | .ret e p=>d1 (.Return (some (den e).ex) p) (λF=>okE F (den e)) λc=>(den e).c (.ret::c)
 | .exp e p=>d1 (.Expr (den e).ex p) (λF=>z4n (den e).ex&&okE F (den e)) λc=>(den e).c (.pop::c)
 | .ife e a b p=>d1 (.If (den e).ex (den a).sts (den b).sts p) (λF=>okB F (den e)&&(okS F (den a)&&okS F (den b))) λc=>(den e).c (.ife ((den a).c []) ((den b).c [])::c)
 | .forR f x q a u i y q2 b p=>d1 (.For (.Name y q2) (.Call (.Name x q) [(den a).ex] [] u) (den b).sts [] p) (λF=>okE F (den a)&&(z4z (den a).ex&&(y2Y "range" x F.gl[f]? &&(F.vars[i]? ==some y&&okS F (den b))))) λc=>(den a).c (.forR i ((den b).c [])::c)
 | .forL a i y q2 b p=>d1 (.For (.Name y q2) (den a).ex (den b).sts [] p) (λF=>okE F (den a)&&(z7i (den a).ex&&(F.vars[i]? ==some y&&okS F (den b)))) λc=>(den a).c (.forL i ((den b).c [])::c)
 | .forDS a i y q2 b p=>d1 (.For (.Name y q2) (den a).ex (den b).sts [] p) (λF=>okE F (den a)&&(z7i (den a).ex&&(F.vars[i]? ==some y&&okS F (den b)))) λc=>(den a).c (.forDS i ((den b).c [])::c)
 | .forDI a i y q2 b p=>d1 (.For (.Name y q2) (den a).ex (den b).sts [] p) (λF=>okE F (den a)&&(z7i (den a).ex&&(F.vars[i]? ==some y&&okS F (den b)))) λc=>(den a).c (.forDI i ((den b).c [])::c)
 | .forV f x q a u i y q2 b p=>d1 (.For (.Name y q2) (.Call (.Name x q) [(den a).ex] [] u) (den b).sts [] p) (λF=>okE F (den a)&&(z4z (den a).ex&&((x==("reversed":Str))&&(y2Y "reversed" x F.gl[f]? &&(F.vars[i]? ==some y&&okS F (den b)))))) λc=>(den a).c (.forV i ((den b).c [])::c)
 | .done=>dS1 [] (λ_=>true) λc=>c
 | .seq s r=>dS1 ((den s).st::(den r).sts) (λF=>ok1 F (den s)&&okS F (den r)) λc=>(den s).c ((den r).c c)
 | .cut s r=>dS1 ((den s).st::(den r).sts) (λF=>ok1 F (den s)&&okS F (den r)) λc=> .cut ((den s).c [])::(den r).c c
 | .dseq s r=>dS1 ((den s).st::(den r).sts) (λF=>ok1 F (den s)&&okS F (den r)) λc=>(den s).c (.drp::(den r).c c)
noncomputable def inf:Ins->Nat×Nat×Nat×Nat×List Ins×List Ins×V
 | .loc i=>(1,i,0,0,[],[],.none)| .psh X=>(2,0,0,0,[],[],X)| .subT k=>(3,k,0,0,[],[],.none)| .cm2 _ r=>(8,0,0,0,r,[],.none)| .isi t=>(9,t.no,0,0,[],[],.none)| .len=>(10,0,0,0,[],[],.none)
 | .mty ty=>(11,0,0,0,[],[],.bi ty)| .rawS _=>(13,0,0,0,[],[],.none)| .tcm2 _ r=>(15,0,0,0,r,[],.none)| .asgL i=>(17,i,0,0,[],[],.none)| .asgD i=>(18,i,0,0,[],[],.none)| .asg2 i j=>(19,i,j,0,[],[],.none)
 | .forR i b=>(20,i,0,0,b,[],.none)| .forV i b=>(21,i,0,0,b,[],.none)| .forL i b=>(23,i,0,0,b,[],.none)| .forDS i b=>(25,i,0,0,b,[],.none)| .forDI i b=>(26,i,0,0,b,[],.none)
 | .drp=>(27,0,0,0,[],[],.none)| .cut a=>(28,0,0,0,a,[],.none)| .vop _ r=>(0,0,0,0,r,[],.none)| .mop _ r=>(0,0,0,0,r,[],.none)| .ife a b=>(0,0,0,0,a,b,.none)| .asg i=>(0,i,0,0,[],[],.none)| .att k _=>(0,k,0,0,[],[],.none)| .mI k _=>(0,k,0,0,[],[],.none)
 | .call G _=>(0,0,0,0,[],[],G)| .meth G _=>(0,0,0,0,[],[],G)|_=>(0,0,0,0,[],[],.none)
noncomputable abbrev RR:=T×List Ins
noncomputable def hd(k:RR):Nat×Nat×Nat×Nat×List Ins×List Ins×V:=inf (k.2.headD .slc)
noncomputable def ik(k:RR)(n:Nat):Bool:=Nat.beq (hd k).1 n
noncomputable def on(k:RR)(t:T):RR:=(t,k.2.tail)
noncomputable def n1(k:RR):Nat:=(hd k).2.1
noncomputable def n2(k:RR):Nat:=(hd k).2.2.1
noncomputable def bl(k:RR):List Ins:=(hd k).2.2.2.2.1
noncomputable def vl(k:RR):V:=(hd k).2.2.2.2.2.2
noncomputable def nm:Expr->Str×Pos
 | .Name x p=>(x,p)
 |_=>("",⟨0,0,0,0⟩)
noncomputable def lsE:Expr->List Expr×Nat×Pos×Expr
 | .Tuple es k p=>(es,k,p,.Slice none none none p)
 | .Call f es _ p=>(es,0,p,f)
 |e=>([],0,⟨0,0,0,0⟩,e)
noncomputable def cnK:Expr->Nat
 | .Constant _ k _=>k
 |_=>0
noncomputable def biS:V->String
 | .bi s=>s
 |_=>""
noncomputable def rfN:V->Nat
 | .ref a=>a
 |_=>0
noncomputable def tkN:Nat->TK
 |0=> .str|1=> .int|2=> .bool|3=> .tup|4=> .lst|_=> .dct
noncomputable def y5l(e:Expr):List Ins->Bool
 | .raw x::_=>x.pos==e.pos
 |_=>false
noncomputable def rdL(f:Expr->RR->RR):List Expr->RR->RR
 |[],k=>(.nil,k.2)
 |x::xs,k=>(.cons (f x k).1 (rdL f xs (f x k)).1,(rdL f xs (f x k)).2)
noncomputable def rdV(f:Expr->RR->RR):List Expr->RR->RR
 |[],k=>k
 |x::xs,k=>cond xs.isEmpty (.cons (f x k).1 .nil,(f x k).2) (on (f x k) (.cons (f x k).1 (rdV f xs (.no,bl (f x k))).1))
noncomputable def rdM(f:Expr->RR->RR):List Expr->RR->RR
 |[],k=>on k .bnil
 |x::xs,k=>on (f x k) (.bcons (f x k).1 (rdM f xs (.no,bl (f x k))).1)
noncomputable def rdO(f:Expr->RR->RR)(e:Option Expr)(k:RR):RR:=match e with
 |some e=>f e k
 |none=>on k .no
noncomputable def rdE(gl:List (Str×V)):Nat->Expr->RR->RR
 |0,_,k=>k
 |n+1,e,k=>cond (y5l e k.2) (on k (.raw e))<|let f:=rdE gl n;let ix:=λx:Str=>gl.findIdx λy=>y.1==x;match e with
  | .Name x p=>on k (cond (ik k 1) (.loc (n1 k) x p) (.glb (ix x) (vl k) x p))
  | .Constant c u p=>on k (.con c u p)
  | .Subscript a b p=>cond (ik (f a k) 3) (on (f a k) (.subT (f a k).1 (n1 (f a k)) (cnK b) b.pos p)) (on (f b (f a k)) (.sub (f a k).1 (f b (f a k)).1 p))
  | .BinOp a o b p=>on (f b (f a k)) (.binc o (f a k).1 (f b (f a k)).1 p)
  | .Compare a os cs p=>let B:=f (cs.headD e) (f a k);let o:=os.headD .Eq;on B (cond (ik B 8) (.cmp2 o (os.tail.headD .Eq) (f a k).1 B.1 (f (cs.tail.headD e) (.no,bl B)).1 p) (.cmpc o (f a k).1 B.1 p))
  | .UnaryOp o a p=>on (f a k) (.una o (f a k).1 p)
  | .BoolOp o es p=>(.vbo o (rdV f es k).1 p,(rdV f es k).2)
  | .Tuple es u p=>on (rdL f es k) (.tup (rdL f es k).1 u p)
  | .List es p=>on (rdL f es k) (.lst (rdL f es k).1 p)
  | .Dict _ _ p=>on k (.dic p)
  | .Slice a b c p=>let A:=rdO f a k;let B:=rdO f b A;let C:=rdO f c B;on C (.slc A.1 B.1 C.1 p)
  | .Attribute a x p=>on (f a k) (.att (n1 (f a k)) (f a k).1 x p)
  | .Call g es _ p=>match g with
   | .Name x q=>let A:=f (es.headD g) k;let L:=rdL f es k;cond (!es.isEmpty&&ik A 9) (let y:=nm (es.tail.headD e);on A (.isi (ix x) (ix y.1) (tkN (n1 A)) x y.1 q y.2 A.1 p)) (cond (!es.isEmpty&&ik A 10) (on A (.len (ix x) x q A.1 p)) (on L (.call (ix x) (vl L) x q L.1 p)))
   | .Attribute a x q=>let A:=f a k;let L:=rdL f es (on A .no);on L (cond (ik A 11) (.meth (biS (vl A)) (biS (vl L)) A.1 x q L.1 p) (.methI (n1 A) (rfN (vl L)) A.1 x q L.1 p))
   |_=>k
  |_=>k
noncomputable def rdB(f:Expr->RR->RR):Nat->Expr->RR->RR
 |0,_,k=>k
 |n+1,e,k=>match e with
  | .UnaryOp _ a p=>let A:=rdB f n a k;on A (.bnot A.1 p)
  | .Compare a os cs p=>let B:=f (cs.headD e) (f a k);let o:=os.headD .Eq;on B (cond (ik B 15) (.bcmp2 o (os.tail.headD .Eq) (f a k).1 B.1 (f (cs.tail.headD e) (.no,bl B)).1 p) (.bcmpc o (f a k).1 B.1 p))
  | .BoolOp o es p=>(.bbo o (rdM (rdB f n) es k).1 p,(rdM (rdB f n) es k).2)
  |_=>on (f e k) (.bvalc (f e k).1)
noncomputable def rdR(f:Stmt->RR->RR):List Stmt->RR->RR
 |[],k=>(.done,k.2)
 |s::ss,k=>cond (ik k 28) (let A:=f s (.no,bl k);let B:=rdR f ss (on k .no);(.cut A.1 B.1,B.2)) (let A:=f s k;cond (ik A 27) (let B:=rdR f ss (on A .no);(.dseq A.1 B.1,B.2)) (let B:=rdR f ss A;(.seq A.1 B.1,B.2)))
noncomputable def rdS(f g:Expr->RR->RR)(gl:List (Str×V)):Nat->Stmt->RR->RR
 |0,_,k=>k
 |n+1,s,k=>cond (ik k 13) (on k (.rawS s))<|let R:=λss l=>(rdR (rdS f g gl n) ss (.no,l)).1;let ix:=λx:Str=>gl.findIdx λy=>y.1==x;match s with
  | .Assign ts e p=>let A:=f e k;match ts.headD e with
   | .Name x q=>cond (ik k 17) (on k (.asgL (n1 k) x q e.pos p)) (cond (ik k 18) (on k (.asgD (n1 k) x q e.pos p)) (on A (.asg (n1 A) x q A.1 p)))
   | .Tuple es u q=>let x:=nm (es.headD e);let y:=nm (es.tail.headD e);let z:=nm (es.tail.tail.headD e);on A (.asg2 (n1 A) (n2 A) x.1 y.1 x.2 y.2 u q A.1 p)
   | .Subscript a b u=>let B:=f a A;let C:=f b B;on C (.setI A.1 B.1 C.1 u p)
   |_=>k
  | .Return o p=>on (rdO f o k) (.ret (rdO f o k).1 p)
  | .Expr e p=>on (f e k) (.exp (f e k).1 p)
  | .If c a b p=>let A:=g c k;on A (.ife A.1 (R a (bl A)) (R b (hd A).2.2.2.2.2.1) p)
  | .For t it b _ p=>let c:=lsE it;let x:=nm c.2.2.2;let A:=f (c.1.headD it) k;let B:=f it k;let y:=nm t;let ys:=lsE t;let v:=nm (ys.1.headD it);let w:=nm (ys.1.tail.headD it)
   cond (ik A 20) (on A (.forR (ix x.1) x.1 x.2 A.1 c.2.2.1 (n1 A) y.1 y.2 (R b (bl A)) p))
   (cond (ik A 21) (on A (.forV (ix x.1) x.1 x.2 A.1 c.2.2.1 (n1 A) y.1 y.2 (R b (bl A)) p))
   (on B (cond (ik B 23) (.forL B.1 (n1 B) y.1 y.2 (R b (bl B)) p) (cond (ik B 25) (.forDS B.1 (n1 B) y.1 y.2 (R b (bl B)) p) (.forDI B.1 (n1 B) y.1 y.2 (R b (bl B)) p)))))
  |_=>k
noncomputable def rdT(gl:List (Str×V))(k:List Ins)(ss:List Stmt):T:=(rdR (rdS (rdE gl 30) (rdB (rdE gl 30) 30) gl 30) ss (.no,k)).1
noncomputable def z5S{α:Type}:Nat->List α->(α->Prop)->Prop
 |_,[],_=>False
 |0,x::_,K=>K x
 |n+1,_::l,K=>z5S n l K
noncomputable def exK:List Nat->Expr->(Expr->Prop)->Prop
 |[],e,K=>K e
 |i::r,e,K=>match e with
  | .BoolOp _ es _=>z5S i es λe=>exK r e K
  | .Compare a _ cs _=>z5S i (a::cs) λe=>exK r e K
  | .Call f es _ _=>z5S i (f::es) λe=>exK r e K
  | .Subscript a b _=>z5S i [a,b] λe=>exK r e K
  | .Tuple es _ _=>z5S i es λe=>exK r e K
  | .UnaryOp _ a _=>exK r a K
  | .BinOp a _ b _=>z5S i [a,b] λe=>exK r e K
  |_=>False
noncomputable def exS(s:Stmt)(K:Expr->Prop):Prop:=match s with
 | .Assign _ e _=>K e
 | .Return (some e) _=>K e
 | .Expr e _=>K e
 | .If c _ _ _=>K c
 | .For _ it _ _ _=>K it
 |_=>False
noncomputable def blS:Stmt->List (List Stmt)
 | .If _ a b _=>[a,b]
 | .For _ _ b _ _=>[b]
 | .While _ b _ _=>[b]
 |_=>[]
noncomputable def stK:List Nat->List Stmt->(Stmt->Prop)->Prop
 |i::j::r,ss,K=>z5S i ss λs=>z5S j (blS s) λss=>stK r ss K
 |i::[],ss,K=>z5S i ss K
 |[],_,_=>False
noncomputable def allK:List (List Nat×Option (List Nat))->List Stmt->(List (Stmt ⊕ Expr)->Prop)->Prop
 |[],_,K=>K []
 |p::ps,ss,K=>stK p.1 ss λs=>match p.2 with
  |none=>allK ps ss λl=>K (.inl s::l)
  |some q=>exS s λe=>exK q e λe=>allK ps ss λl=>K (.inr e::l)
structure TC where
 k:List Ins
 r:List (Stmt ⊕ Expr):=[]
 p:List (List Nat×Option (List Nat)):=[]
noncomputable def st2(s:List V)(k:V->V->List V->Prop):Prop:=st1 s λY s=>st1 s λX s=>k X Y s
noncomputable def stB(s:List V)(k:Bool->List V->Prop):Prop:=st1 s λX s=>match X with
 | .bool b=>k b s
 |_=>False
noncomputable def stN:Nat->List V->List V->(List V->List V->Prop)->Prop
 |0,s,acc,k=>k acc s
 |n+1,s,acc,k=>st1 s λX s=>stN n s (X::acc) k
section
variable (F:Fx)
noncomputable abbrev Fx.at(t:Sem Value)(m:Loc)(σ:Sto)(Q:V->Sto->Prop):Prop:=AT F.C F.env F.vars F.gl F.own F.d t m σ Q
noncomputable def y4z(o:Option (Option V))(Q:V->Prop):Prop:=match o with
 |some (some X)=>Q X
 |_=>False
noncomputable def y3S(X:V)(k:List V->Prop)(L:Prop):Prop:=match X with
 | .tup xs=>k xs
 |_=>Leaf L
noncomputable def oI(o:BoolOp)(b:Bool)(x y:Prop):Prop:=match o with
 | .And=>cIf b x y
 | .Or=>cIf b y x
noncomputable def boV(o:BoolOp):V:=match o with
 | .And=> .bool false
 | .Or=> .bool true
noncomputable def tvW(X:V)(k:Bool->Prop)(L:Prop):Prop:=match X with
 | .bool b=>k b
 |_=>Leaf L
inductive LoopL(X:V)(m:Loc)(σ:Sto)(Q:Fl->Loc->Sto->Prop)(B:V->(Fl->Loc->Sto->Prop)->Loc->Sto->Prop)(R:Loc->Sto->Prop):Prop
 |mk (xs:List V) (P:Sto->Prop) (I:Nat->Loc->Sto->Prop):Has σ X (.list xs) P->I 0 m σ->(∀(i:Nat) Y,xs[i]? =some Y->∀m σ,I i m σ->∀QB:Fl->Loc->Sto->Prop,(∀m σ,P σ->I (i+1) m σ->QB .next m σ)->(∀Z m σ,Q (.ret Z) m σ->QB (.ret Z) m σ)->B Y QB m σ)->(∀m σ,I xs.length m σ->R m σ)->LoopL X m σ Q B R
inductive LoopG(g:List V->List V)(X:V)(m:Loc)(σ:Sto)(Q:Fl->Loc->Sto->Prop)(B:V->(Fl->Loc->Sto->Prop)->Loc->Sto->Prop)(R:Loc->Sto->Prop):Prop
 |mk (xs:List V) (P:Sto->Prop) (I:Nat->Loc->Sto->Prop):Has σ X (.list xs) P->I 0 m σ->(∀(i:Nat) Y,(g xs)[i]? =some Y->∀m σ,I i m σ->∀QB:Fl->Loc->Sto->Prop,(∀m σ,P σ->I (i+1) m σ->QB .next m σ)->(∀Z m σ,Q (.ret Z) m σ->QB (.ret Z) m σ)->B Y QB m σ)->(∀m σ,I (g xs).length m σ->R m σ)->LoopG g X m σ Q B R
inductive LoopR(X:V)(m:Loc)(σ:Sto)(Q:Fl->Loc->Sto->Prop)(B:V->(Fl->Loc->Sto->Prop)->Loc->Sto->Prop)(R:Loc->Sto->Prop):Prop
 |mk (n:Nat) (I:Nat->Loc->Sto->Prop):X= .int (n:Int)->n<=1000->I 0 m σ->(∀i:Nat,i<n->∀m σ,I i m σ->∀QB:Fl->Loc->Sto->Prop,(∀m σ,I (i+1) m σ->QB .next m σ)->(∀Z m σ,Q (.ret Z) m σ->QB (.ret Z) m σ)->B (.int (i:Int)) QB m σ)->(∀m σ,I n m σ->R m σ)->LoopR X m σ Q B R
inductive LoopD{C:Cx}{K:Type}[DecidableEq K](kk:KK C.prog C.w K)(X:V)(m:Loc)(σ:Sto)(Q:Fl->Loc->Sto->Prop)(B:V->(Fl->Loc->Sto->Prop)->Loc->Sto->Prop)(R:Loc->Sto->Prop):Prop
 |mk (a:Addr) (o:Obj) (kvs:List (K×V)) (I:Nat->Loc->Sto->Prop):X= .ref a->z0N C->(a,o,AO.dict (z06 kk kvs))∈σ->(kvs.map (·.1)).Nodup->I 0 m σ->(∀(i:Nat) (p:K×V),kvs[i]? =some p->∀m σ,I i m σ->∀QB:Fl->Loc->Sto->Prop,(∀m σ,(a,o,AO.dict (z06 kk kvs))∈σ->I (i+1) m σ->QB .next m σ)->(∀Z m σ,Q (.ret Z) m σ->QB (.ret Z) m σ)->B (kk.v p.1) QB m σ)->(∀m σ,I kvs.length m σ->R m σ)->LoopD kk X m σ Q B R
noncomputable abbrev WT:=List Ins->List (List Ins)->Loc->List V->Sto->Prop
noncomputable def stp(w:(Fl->Loc->Sto->Prop)->WT)(Q:Fl->Loc->Sto->Prop)(i:Ins)(c:List Ins)(r:List (List Ins))(m:Loc)(s:List V)(σ:Sto):Prop:=match i with
 | .loc i=>y4z m[i]? λX=>w Q c r m (X::s) σ
 | .len=>st1 s λX s=>y3S X (λxs=>cIf (Nat.ble xs.length 1000) (w Q c r m (.int (xs.length:Int)::s) σ) (Leaf (KW F.C F.d (.bi "len") [X] σ λY σ=>w Q c r m (Y::s) σ))) (KW F.C F.d (.bi "len") [X] σ λY σ=>w Q c r m (Y::s) σ)
 | .psh X=>w Q c r m (X::s) σ
 | .raw e=>Leaf (F.at (eval e F.env) m σ λX σ=>w Q c r m (X::s) σ)
 | .sub=>st2 s λX I s=>Leaf (SubR F.C F.d X I σ λY σ=>w Q c r m (Y::s) σ)
 | .subT k=>st1 s λX s=>cQ (y2s X k) σ (λY σ=>w Q c r m (Y::s) σ) (SubR F.C F.d X (.int (k:Int)) σ λY σ=>w Q c r m (Y::s) σ)
 | .binc o=>st2 s λX Y s=>cQ (y24 o X Y) σ (λZ σ=>w Q c r m (Z::s) σ) (AC2 F.C F.d (binaryOp o) X Y σ λZ σ=>w Q c r m (Z::s) σ)
 | .cmpc o=>st2 s λX Y s=>cQ (y0V o X Y) σ (λZ σ=>w Q c r m (Z::s) σ) (AC2 F.C F.d (compareOp o) X Y σ λZ σ=>w Q c r m (Z::s) σ)
 | .cm2 o e=>st2 s λX Y s=>cB (y0V o X Y) σ (λb σ=>cIf b (w Q e (c::r) m (Y::s) σ) (w Q c r m (.bool false::s) σ)) (AC2 F.C F.d (compareOp o) X Y σ λZ σ=>∃b,TR F.C F.d Z σ b/\(b=false->w Q c r m (Z::s) σ)/\(b=true->w Q e (c::r) m (Y::s) σ))
 | .una o=>st1 s λX s=>Leaf (AC1 F.C F.d (unaryOp o) X σ λZ σ=>w Q c r m (Z::s) σ)
 | .vop o e=>st1 s λX s=>tvW X (λb=>oI o b (w Q e (c::r) m s σ) (w Q c r m (X::s) σ)) (∃b,TR F.C F.d X σ b/\oI o b (w Q e (c::r) m s σ) (w Q c r m (X::s) σ))
 | .tup n=>stN n s [] λXs s=>w Q c r m (.tup Xs::s) σ
 | .lst n=>stN n s [] λXs s=>w Q c r m (.lst Xs::s) σ
 | .call G n=>stN n s [] λXs s=>Leaf (KW F.C F.d G Xs σ λY σ=>w Q c r m (Y::s) σ)
 | .isi t=>st1 s λX s=>cQ ((y4l X t).map .bool) σ (λY σ=>w Q c r m (Y::s) σ) (KW F.C F.d (.bi "isinstance") [X,.type t.n] σ λY σ=>w Q c r m (Y::s) σ)
 | .mty ty=>st1 s λX s=>Leaf (TyR F.C X σ ty/\w Q c r m (X::s) σ)
 | .meth G n=>stN n s [] λXs s=>st1 s λX s=>Leaf (KW F.C F.d G (X::Xs) σ λY σ=>w Q c r m (Y::s) σ)
 | .mI k nm=>st1 s λX s=>Leaf (z6o k nm X σ λx=>w Q c r m (.ref x::s) σ)
 | .slc=>st2 s λY Z s=>st1 s λX s=>w Q c r m (.slc X Y Z::s) σ
 | .tcmpc o=>st2 s λX Y s=>cB (y0V o X Y) σ (λb σ=>w Q c r m (.bool b::s) σ) (AC2 F.C F.d (compareOp o) X Y σ λZ σ=>TRX F.C F.d Z σ λb σ=>w Q c r m (.bool b::s) σ)
 | .tcm2 o e=>st2 s λX Y s=>cB (y0V o X Y) σ (λb σ=>cIf b (w Q e (c::r) m (Y::s) σ) (w Q c r m (.bool false::s) σ)) (AC2 F.C F.d (compareOp o) X Y σ λZ σ=>∃b,TR F.C F.d Z σ b/\(b=false->w Q c r m (.bool false::s) σ)/\(b=true->w Q e (c::r) m (Y::s) σ))
 | .tvalc=>st1 s λX s=>tvW X (λb=>w Q c r m (.bool b::s) σ) (TRX F.C F.d X σ λb σ=>w Q c r m (.bool b::s) σ)
 | .not=>stB s λb s=>w Q c r m (.bool (!b)::s) σ
 | .mop o e=>stB s λb s=>oI o b (w Q e (c::r) m s σ) (w Q c r m (boV o::s) σ)
 | .ife a b=>stB s λv s=>cIf v (w Q a (c::r) m s σ) (w Q b (c::r) m s σ)
 | .asg i=>st1 s λX s=>z3r m i X λm=>w Q c r m s σ
 | .asgL i=>∀a o,Fresh σ a->z3r m i (.ref a) λm=>w Q c r m s ((a,o,.list [])::σ)
 | .asgD i=>∀a o,Fresh σ a->z3r m i (.ref a) λm=>w Q c r m s ((a,o,.dict [])::σ)
 | .asg2 i j=>st1 s λX s=>y44 X λx y=>z3r m i x λm=>z3r m j y λm=>w Q c r m s σ
 | .ret=>st1 s λX _=>Q (.ret X) m σ
 | .pop=>st1 s λ_ s=>w Q c r m s σ
 | .att k nm=>st1 s λX s=>Leaf (z86 k nm X σ λY=>w Q c r m (Y::s) σ)
 | .dic=>∀a o,Fresh σ a->w Q c r m (.ref a::s) ((a,o,.dict [])::σ)
 | .setI=>st2 s λO I s=>st1 s λX s=>Leaf (SetR F.C F.d O I X σ λσ=>w Q c r m s σ)
 | .drp=>Leaf (∃τ,τ.Sublist σ/\w Q c r m s τ)
 | .rawS t=>Leaf (AS F.C F.env F.vars F.gl F.own F.d (exec t F.env) m σ (z18 (λm σ=>w Q c r m s σ) Q))
 | .forR i b=>st1 s λX s=>Leaf (LoopR X m σ Q (λY QB m σ=>z3r m i Y λm=>w QB b [] m [] σ) λm σ=>w Q c r m s σ)
 | .forDS i b=>st1 s λX s=>Leaf (LoopD (KK.str F.C.prog F.C.w) X m σ Q (λY QB m σ=>z3r m i Y λm=>w QB b [] m [] σ) λm σ=>w Q c r m s σ)
 | .forDI i b=>st1 s λX s=>Leaf (LoopD (KK.int F.C.prog F.C.w) X m σ Q (λY QB m σ=>z3r m i Y λm=>w QB b [] m [] σ) λm σ=>w Q c r m s σ)
 | .forV i b=>st1 s λX s=>Leaf (LoopG List.reverse X m σ Q (λY QB m σ=>z3r m i Y λm=>w QB b [] m [] σ) λm σ=>w Q c r m s σ)
 | .forL i b=>st1 s λX s=>Leaf (LoopL X m σ Q (λY QB m σ=>z3r m i Y λm=>w QB b [] m [] σ) λm σ=>w Q c r m s σ)
 | .cut a=>Leaf (∃I:Loc->Sto->Prop,(∀K:Fl->Loc->Sto->Prop,(∀m σ,I m σ->K .next m σ)->(∀f m σ,(f= .next->False)->Q f m σ->K f m σ)->w K a [] m s σ)/\∀m σ,I m σ->w Q c r m s σ)
noncomputable def W:Nat->(Fl->Loc->Sto->Prop)->WT
 |0,_,_,_,_,_,_=>False
 |n+1,Q,c,r,m,s,σ=>match c with
  |[]=>match r with
   |[]=>Q .next m σ
   |c::r=>W n Q c r m s σ
  |i::c=>stp F (W n) Q i c r m s σ
end
section
variable {C:Cx} {env:Env} {vars:List Str} {gl:List (Str×V)} {own:Bool} {d:Nat}
theorem AC2.mono{f:Value->Value->Sem Value}{x y:V}{σ:Sto}{Q Q':V->Sto->Prop}(h:AC2 C d f x y σ Q)(hQ:∀z σ',Q z σ'->Q' z σ'):AC2 C d f x y σ Q':=λA G D s v u hA R hv hu=>
 wpAny_mono (h A G D s v u hA R hv hu) (λ_ _ hp=>by obtain⟨z,D',σ',a,b,c,e⟩:=hp;exact⟨z,D',σ',a,b,c,hQ _ _ e⟩) λ_ _ e=>e
theorem AL.mono{t:Sem (List Value)}{m:Loc}{σ:Sto}{Q Q':List V->Sto->Prop}(h:AL C env vars gl own d t m σ Q)(hQ:∀xs σ',Q xs σ'->Q' xs σ'):AL C env vars gl own d t m σ Q':=λA G D s hA R=>
 wpAny_mono (h A G D s hA R) (λ_ _ hp=>by obtain⟨xs,D',σ',a,b,c,e⟩:=hp;exact⟨xs,D',σ',a,b,c,hQ _ _ e⟩) λ_ _ e=>e
theorem AB.mono{t:Sem Bool}{m:Loc}{σ:Sto}{P P':Bool->Sto->Prop}(h:AB C env vars gl own d t m σ P)(hP:∀b σ,P b σ->P' b σ):AB C env vars gl own d t m σ P':=
 λA G D s hA R=>h.run hA R λb s' D' σ' a c e=>⟨D',σ',a,c,hP _ _ e⟩
theorem y4V{x:Str}{X:V}:∀{vars:List Str} {m:Loc} {i:Nat},vars[i]? =some x->m[i]? =some (some X)->Lk vars m x X:=λ{vars}=>by
 induction vars with
 |nil=>intro m i h k;cases h
 |cons a vs ih=>
  intro m i h k
  cases m with
  |nil=>cases k
  |cons b m=>
   cases i with
   |zero=>cases Option.some.inj h;cases Option.some.inj k;exact .head
   |succ i=>exact .tail (ih h k)
theorem y27{x:Str}{X:V}:∀{vars:List Str} {m:Loc} {i:Nat},vars[i]? =some x->i<m.length->Put vars m x X (m.set i (some X)):=λ{vars}=>by
 induction vars with
 |nil=>intro m i h;cases h
 |cons a vs ih=>
  intro m i h w
  cases m with
  |nil=>cases w
  |cons b m=>
   cases i with
   |zero=>cases Option.some.inj h;exact .head
   |succ i=>exact .tail (ih h (Nat.lt_of_succ_lt_succ w))
set_option tactic.hygienic true in
theorem z24{x:Str}{X:V}{vars:List Str}{m:Loc}{i:Nat}{k:Loc->Prop}(h:vars[i]? =some x)(w:z3r m i X k):∃m',Put vars m x X m'/\k m':=by
 unfold z3r at w
 split at w
 ·rename_i hb;exact⟨_,y27 h (Nat.blt_eq.mp hb),w⟩
 ·exact w.elim
theorem z1B{e:Expr}{rest:List Expr}(h:z4z e=true):starEach (e::rest) env=(false,eval e env)::starEach rest env:=by
 cases e<;>first|rfl|exact ff h
theorem z9h{o:Expr}{name:Str}(h:z8G o=true):attributeBase o name env (eval o env)=eval o env:=by
 cases o<;>first|rfl|exact ff h
theorem y3k{o:Expr}{name:Str}(h:y4F o=true):attributeBase o name env (eval o env)=eval o env:=
 Expr.Name.elim (motive_1:=λo=>attributeBase o name env (eval o env)=eval o env) o (Nat.eq_of_beq_eq_true h) λ_ _=>rfl
theorem y3m{o:Expr}(h:y4F o=true):∀u r,letTemporaryGo o u r=pure ():=
 Expr.Name.elim (motive_1:=λo=>∀u r,letTemporaryGo o u r=pure ()) o (Nat.eq_of_beq_eq_true h) λ_ _ _ _=>by with_unfolding_all exact rfl
theorem z48{e:Expr}{t:Option Expr}{k:Nat}(h:z4n e=true):swapsWith e t k env=pure false:=by
 cases e<;>first|rfl|exact ff h
theorem z9W{e:Expr}{ts:List Expr}{k:Nat}{p:Pos}(h:y3B e=true):swappedStores [.Tuple ts k p] e env=pure none:=by
 cases e<;>first|rfl|exact ff h
theorem y0g{e:Expr}(h:y1a e=true):∀whole,isTrue e env whole=(do let v <-whole;standAt e.pos;holding [v] (truthy v)):=by
 cases e<;>first|(intro;rfl)|exact ff h
theorem y3e{ty id:String}{name:Str}(h:bms.contains (ty,name,id)=true):MethIs ty name id:=by
 have h:=List.contains_iff_mem.mp h
 simp only[bms,List.mem_cons,Prod.mk.injEq,List.not_mem_nil,or_false] at h
 rcases h with⟨rfl,rfl,rfl⟩|⟨rfl,rfl,rfl⟩|⟨rfl,rfl,rfl⟩|⟨rfl,rfl,rfl⟩|⟨rfl,rfl,rfl⟩|⟨rfl,rfl,rfl⟩|⟨rfl,rfl,rfl⟩|⟨rfl,rfl,rfl⟩|⟨rfl,rfl,rfl⟩
 ·exact M_append
 ·exact M_lpop
 ·exact M_lclear
 ·exact M_get
 ·exact M_pop
 ·exact M_setdefault
 ·exact M_update
 ·exact M_clear
 ·exact M_join
theorem y4t{X Y:V}(h:veq X Y=true):X=Y:=by
 unfold veq at h
 split at h<;>first|exact ff h|skip
 all_goals split at h<;>first|exact ff h|skip
 ·rw[eq_of_beq h]
 ·rw[eq_of_beq h]
 ·rw[Nat.eq_of_beq_eq_true h]
 ·rw[eq_of_beq h]
 ·rw[eq_of_beq h]
set_option tactic.hygienic true in
theorem z45{x:Str}{X:V}{o:Option (Str×V)}(h:okG x X o=true):o=some (x,X):=by
 unfold okG at h
 split at h
 ·rename_i p
  rw[Bool.and_eq_true] at h
  rw[<-eq_of_beq h.1,<-y4t h.2]
 ·cases h
theorem z7V{id:String}{n:Str}{o:Option (Str×V)}(h:y4m id n o=true):o=some (n,.bi id):=z45 h
theorem z5z{id:String}{n:Str}{o:Option (Str×V)}(h:y2Y id n o=true):o=some (n,.type id):=z45 h
theorem y25{fns:List Nat}(hf:∀a∈fns,z0l C (.ref a)){G:V}(h:isF fns G=true):z0l C G:=by
 unfold isF at h
 split at h
 ·exact trivial
 ·exact trivial
 ·exact hf _ (List.contains_iff_mem.mp h)
 ·cases h
theorem y5f{s:List V}{k:V->List V->Prop}(h:st1 s k):∃x l,s=x::l/\k x l:=by
 cases s with
 |nil=>exact h.elim
 |cons x l=>exact⟨x,l,rfl,h⟩
theorem nlE{s:List V}{k:Prop}(h:nlF s k):s=[]/\k:=by
 cases s with
 |nil=>exact⟨rfl,h⟩
 |cons x l=>exact h.elim
theorem tpE{X:V}{k:List V->Prop}(h:tpF X k):∃xs,X= .tup xs/\k xs:=by
 unfold tpF at h;split at h
 ·exact⟨_,rfl,h⟩
 ·exact h.elim
theorem y0B{X:V}{k:V->V->Prop}(h:y44 X k):∃x y,X= .tup [x,y]/\k x y:=by
 obtain⟨xs,rfl,h⟩:=tpE h
 obtain⟨x,xs,rfl,h⟩:=y5f h
 obtain⟨y,xs,rfl,h⟩:=y5f h
 obtain⟨rfl,h⟩:=nlE h
 exact⟨x,y,rfl,h⟩
theorem z5v{ss:List Stmt}{R R':Loc->Sto->Prop}{Q:Fl->Loc->Sto->Prop}(h:∀m σ,R m σ->AS C env vars gl own d (execs ss env) m σ (z18 R' Q)):∀f m σ,z18 R Q f m σ->y47 C env vars gl own d ss (z18 R' Q) f m σ
 | .next,m,σ,q=>h m σ q
 | .brk,m,σ,q=>q
 | .cont,m,σ,q=>q
 | .ret _,m,σ,q=>q
theorem orE{a b:Bool}{P:Prop}(h:(a||b)=true)(f:a=true->P)(g:b=true->P):P:=by
 cases a with
 |true=>exact f rfl
 |false=>exact g h
theorem z67{e:Expr}(h:z7i e=true):∀x,foldedSetIterable e env x=pure x:=
 let M:=λe:Expr=>∀x,foldedSetIterable e env x=pure x
 orE h (λh=>Expr.Name.elim (motive_1:=M) e (Nat.eq_of_beq_eq_true h) λ_ _ _=>by with_unfolding_all exact rfl) λh=>
 orE h (λh=>Expr.Subscript.elim (motive_1:=M) e (Nat.eq_of_beq_eq_true h) λ_ _ _ _=>by with_unfolding_all exact rfl) λh=>
 orE h (λh=>Expr.Call.elim (motive_1:=M) e (Nat.eq_of_beq_eq_true h) λ_ _ _ _ _=>by with_unfolding_all exact rfl) λh=>
 orE h (λh=>Expr.BinOp.elim (motive_1:=M) e (Nat.eq_of_beq_eq_true h) λ_ _ _ _ _=>by with_unfolding_all exact rfl) λh=>Expr.Attribute.elim (motive_1:=M) e (Nat.eq_of_beq_eq_true h) λ_ _ _ _=>by with_unfolding_all exact rfl
theorem z0g{a b:Bool}(h:(a&&b)=true):a=true/\b=true:=by rw[Bool.and_eq_true] at h;exact h
theorem y14{e t:Expr}{k:Nat}(h:z4n e=true):swapsWithSole [t] e k env=pure false:=by
 show swapsWith e (some t) k env=pure false
 exact z48 h
theorem y15{es:List Expr}{p:Pos}(h1:(backTo p (starEach es env)).any (·.1)=false)(hl:Nat.blt es.length 30=true):
  ((backTo p (starEach es env)).all (λx=> !x.1)&&(backToKw p (keywordEach [] env)).all (λx=>x.1.isSome)&&decide (es.length+([]:List Keyword).length+(if([]:List Keyword).isEmpty then 0 else 1)<30))=true:=by
 have h2:(backTo p (starEach es env)).all (λx=> !x.1)=true:=by rw[<-List.not_any_eq_all_not,h1];rfl
 rw[h2]
 exact decide_eq_true (Nat.blt_eq.mp hl)
end
section
variable {C:Cx} {d:Nat} {σ:Sto} {Q Q':V->Sto->Prop}
theorem AC1.mono{f:Value->Sem Value}{x:V}(h:AC1 C d f x σ Q)(hQ:∀z σ',Q z σ'->Q' z σ'):AC1 C d f x σ Q':=λA G D s v hA R hv=>
 wpAny_mono (h A G D s v hA R hv) (λ_ _ hp=>by obtain⟨z,D',σ',a,b,c,e⟩:=hp;exact⟨z,D',σ',a,b,c,hQ _ _ e⟩) λ_ _ e=>e
theorem SubR.mono{x i:V}(h:SubR C d x i σ Q)(hQ:∀z σ',Q z σ'->Q' z σ'):SubR C d x i σ Q':=λA G D s o v hA R ho hv=>by
 obtain⟨T,id,a,b,c⟩:=h A G D s o v hA R ho hv
 exact⟨T,id,a,b,wpAny_mono c (λ_ _ hp=>by obtain⟨z,D',σ',a,b,c,e⟩:=hp;exact⟨z,D',σ',a,b,c,hQ _ _ e⟩) λ_ _ e=>e⟩
theorem SetR.mono{x i v:V}{P P':Sto->Prop}(h:SetR C d x i v σ P)(hP:∀σ',P σ'->P' σ'):SetR C d x i v σ P':=λA G D s o k u hA R ho hk hu=>
 wpAny_mono (h A G D s o k u hA R ho hk hu) (λ_ _ hp=>by obtain⟨D',σ',a,b,e⟩:=hp;exact⟨D',σ',a,b,hP _ e⟩) λ_ _ e=>e
theorem y2n{o:Option V}{L L':Prop}(w:cQ o σ Q L)(h:∀Z,o=some Z->Q Z σ->L')(k:L->L'):L':=by
 cases o with
 |none=>exact k w.out
 |some Z=>exact h Z rfl w
theorem y2X{o:Option V}{P:Bool->Sto->Prop}{L L':Prop}(w:cB o σ P L)(h:∀b,o=some (.bool b)->P b σ->L')(k:L->L'):L':=by
 unfold cB at w
 split at w
 ·exact h _ rfl w
 ·exact k w.out
theorem y1i{X:V}{k:Bool->Prop}{L L':Prop}(w:tvW X k L)(h:∀b,X= .bool b->k b->L')(g:L->L'):L':=by
 unfold tvW at w
 split at w
 ·exact h _ rfl w
 ·exact g w.out
theorem y4u{X:V}{k:List V->Prop}{L L':Prop}(w:y3S X k L)(h:∀xs,X= .tup xs->k xs->L')(g:L->L'):L':=by
 unfold y3S at w
 split at w
 ·exact h _ rfl w
 ·exact g w.out
theorem y4s{n k:Nat}(h:n<=k)(hk:Nat.ble k 1000=true):Nat.ble n 1000=true:=Nat.ble_eq_true_of_le (Nat.le_trans h (Nat.le_of_ble_eq_true hk))
theorem y49{s:List V}{k:V->List V->Prop}{X:V}(h:st1 (X::s) k):k X s:=h
theorem y2L{k:List V->List V->Prop}{s:List V}:∀{ys acc:List V},stN ys.length (ys++s) acc k->k (ys.reverse++acc) s:=λ{ys}=>by
 induction ys with
 |nil=>intro acc h;exact h
 |cons y ys ih=>
  intro acc h
  rw[List.reverse_cons,List.append_assoc]
  exact ih h
theorem z7w{k:List V->List V->Prop}{s xs:List V}{n:Nat}(hn:xs.length=n)(h:stN n (xs.reverse++s) [] k):k xs s:=by
 subst hn
 rw[<-List.length_reverse] at h
 have:=y2L h
 rwa [List.reverse_reverse,List.append_nil] at this
end
section
variable {F:Fx}
noncomputable def WE(F:Fx)(Q:Fl->Loc->Sto->Prop)(c:List Ins)(r:List (List Ins))(m:Loc)(s:List V)(σ:Sto):Prop:=∃n,W F n Q c r m s σ
variable {Q:Fl->Loc->Sto->Prop} {i:Ins} {c:List Ins} {r:List (List Ins)} {m:Loc} {s:List V} {σ:Sto}
theorem WE.step(h:WE F Q (i::c) r m s σ):∃n,stp F (W F n) Q i c r m s σ:=by
 obtain⟨n,h⟩:=h
 cases n with
 |zero=>exact h.elim
 |succ n=>exact⟨n,h⟩
theorem WE.end(h:WE F Q [] (c::r) m s σ):WE F Q c r m s σ:=by
 obtain⟨n,h⟩:=h
 cases n with
 |zero=>exact h.elim
 |succ n=>exact⟨n,h⟩
theorem WE.fin(h:WE F Q [] [] m s σ):Q .next m σ:=by
 obtain⟨n,h⟩:=h
 cases n with
 |zero=>exact h.elim
 |succ n=>exact h
noncomputable def PE(F:Fx)(D:Den):Prop:=∀Q c r m s σ,WE F Q (D.c c) r m s σ->F.at (eval D.ex F.env) m σ λX σ=>WE F Q c r m (X::s) σ
structure PL(F:Fx)(D:Den):Prop where
 l:∀p Q c r m s σ,WE F Q (D.c c) r m s σ->AL F.C F.env F.vars F.gl F.own F.d (spliced (backTo p (starEach D.exs F.env))) m σ λXs σ=>Xs.length=D.exs.length/\WE F Q c r m (Xs.reverse++s) σ
 v:D.exs≠[]->∀o p Q c r m s σ,WE F Q (D.cv o c) r m s σ->F.at (boolOp p o (evalEach D.exs F.env)) m σ λX σ=>WE F Q c r m (X::s) σ
 n:D.exs=[]->∀c,D.c c=c
 p:∀p,(backTo p (starEach D.exs F.env)).any (·.1)=false
 s:∀e r,D.exs=e::r->starEach (e::r) F.env=(false,eval e F.env)::starEach r F.env/\∀p,(backTo p (starEach r F.env)).any (·.1)=false
noncomputable def PB(F:Fx)(D:Den):Prop:=∀Q c r m s σ,WE F Q (D.c c) r m s σ->AB F.C F.env F.vars F.gl F.own F.d (isTrue D.ex F.env (eval D.ex F.env)) m σ λb σ=>WE F Q c r m (.bool b::s) σ
noncomputable def PM(F:Fx)(D:Den):Prop:=∀o Q c r m s σ,WE F Q (D.cv o c) r m s σ->AB F.C F.env F.vars F.gl F.own F.d (allTrue o D.exs F.env) m σ λb σ=>WE F Q c r m (.bool b::s) σ
noncomputable def P1(F:Fx)(D:Den):Prop:=F.own=true->∀Q c r m s σ,WE F Q (D.c c) r m s σ->AS F.C F.env F.vars F.gl F.own F.d (exec D.st F.env) m σ (z18 (λm σ=>WE F Q c r m s σ) Q)
noncomputable def PS(F:Fx)(D:Den):Prop:=F.own=true->∀Q c r m s σ,WE F Q (D.c c) r m s σ->AS F.C F.env F.vars F.gl F.own F.d (execs D.sts F.env) m σ (z18 (λm σ=>WE F Q c r m s σ) Q)
noncomputable def z3D(F:Fx)(D:Den):Prop:=match D.k with
 | .e=>D.ok F=true->PE F D
 | .o=>∀c,D.c c= .psh .none::c
 | .l=>D.ok F=true->PL F D
 | .b=>D.ok F=true->PB F D
 | .m=>D.ok F=true->PM F D
 | .s=>D.ok F=true->P1 F D
 | .r=>D.ok F=true->PS F D
theorem gE{D:Den}(h:z3D F D)(k:okE F D=true):PE F D:=by
 unfold okE at k;unfold z3D at h;cases e:D.k<;>rw[e] at k h<;>first|exact h k|exact ff k
theorem gL{D:Den}(h:z3D F D)(k:okL F D=true):PL F D:=by
 unfold okL at k;unfold z3D at h;cases e:D.k<;>rw[e] at k h<;>first|exact h k|exact ff k
theorem gB{D:Den}(h:z3D F D)(k:okB F D=true):PB F D:=by
 unfold okB at k;unfold z3D at h;cases e:D.k<;>rw[e] at k h<;>first|exact h k|exact ff k
theorem gM{D:Den}(h:z3D F D)(k:okM F D=true):PM F D:=by
 unfold okM at k;unfold z3D at h;cases e:D.k<;>rw[e] at k h<;>first|exact h k|exact ff k
theorem g1{D:Den}(h:z3D F D)(k:ok1 F D=true):P1 F D:=by
 unfold ok1 at k;unfold z3D at h;cases e:D.k<;>rw[e] at k h<;>first|exact h k|exact ff k
theorem gS{D:Den}(h:z3D F D)(k:okS F D=true):PS F D:=by
 unfold okS at k;unfold z3D at h;cases e:D.k<;>rw[e] at k h<;>first|exact h k|exact ff k
theorem gO{D:Den}(h:z3D F D)(k:okO F D=true){Q':V->Sto->Prop}(w:WE F Q (D.c c) r m s σ)(hQ:∀X σ,WE F Q c r m (X::s) σ->Q' X σ):APart F.C F.env F.vars F.gl F.own F.d (exo D) m σ Q':=by
 unfold okO at k;unfold z3D at h;unfold exo
 cases e:D.k<;>rw[e] at k h<;>first|exact ff k|skip
 ·exact z17 ((h k _ _ _ _ _ _ w).mono hQ)
 ·rw[h] at w
  obtain⟨n,w⟩:=w.step
  exact z1m (hQ _ _ ⟨n,w⟩)
theorem z62{R R':Loc->Sto->Prop}(h:∀m σ,R m σ->R' m σ):∀f m σ,z18 R Q f m σ->z18 R' Q f m σ
 | .next,m,σ,q=>h m σ q
 | .brk,m,σ,q=>q
 | .cont,m,σ,q=>q
 | .ret _,m,σ,q=>q
theorem z9Y{b:Bool}{x y:Prop}(w:oI .And b x y):(b=true->x)/\(b=false->y):=z4M w
theorem z90{b:Bool}{x y:Prop}(w:oI .Or b x y):(b=true->y)/\(b=false->x):=z4M w
theorem z3z{a b:Den}{i:Ins}{P:V->V->Sto->Prop}(ha:PE F a)(hb:PE F b)(w:WE F Q (a.c (b.c (i::c))) r m s σ)(h:∀n X Y σ,stp F (W F n) Q i c r m (Y::X::s) σ->P X Y σ):F.at (eval a.ex F.env) m σ λX σ=>F.at (eval b.ex F.env) m σ λY σ=>P X Y σ:=
 (ha _ _ _ _ _ _ w).mono λX σ₁ w=>(hb _ _ _ _ _ _ w).mono λY σ₂ w=>by obtain⟨n,w⟩:=w.step;exact h n X Y σ₂ w
theorem z7d{C:Cx}{env:Env}{vars:List Str}{gl:List (Str×V)}{own:Bool}{d:Nat}{tgt:Expr}{body:List Stmt}{P:Sto->Prop}{QS:Fl->Loc->Sto->Prop}(I:Nat->Loc->Sto->Prop)(ys:List V)(m:Loc)(σ:Sto)
  (h:∀(i:Nat) X,ys[i]? =some X->∀m σ,I i m σ->∀QB:Fl->Loc->Sto->Prop,(∀m σ,P σ->I (i+1) m σ->QB .next m σ)->(∀Y m σ,QS (.ret Y) m σ->QB (.ret Y) m σ)->AA C env vars gl own d (assign tgt env) X m σ λm₁ σ₁=>AS C env vars gl own d (execs body env) m₁ σ₁ QB)
  (hq:∀m σ,I ys.length m σ->QS .next m σ) (h0:I 0 m σ):z5X C env vars gl own d tgt body P QS ys m σ:=
 z7u I ys 0 m σ (λi X hX m σ hm=>by
  rw[Nat.zero_add] at hm⊢
  exact h i X hX m σ hm _ (λm σ hP hI=>z9m hP hI) λY m σ q=>y1H q) (λm σ hm=>hq m σ (by rw[Nat.zero_add] at hm;exact hm)) h0
theorem z7s{D:Den}{n:Nat}(h:∀Q c r m s σ,WE F Q (D.c c) r m s σ->AS F.C F.env F.vars F.gl F.own F.d (execs D.sts F.env) m σ (z18 (λm σ=>WE F Q c r m s σ) Q))(w:W F n Q (D.c []) [] m [] σ):AS F.C F.env F.vars F.gl F.own F.d (execs D.sts F.env) m σ Q:=
 AS.mono (h Q [] [] m [] σ ⟨n,w⟩) λf m σ q=>by
  cases f with
  |next=>exact WE.fin q
  |brk=>exact q
  |cont=>exact q
  |ret x=>exact q
theorem z9M [HM F.C]{K:Type}[DecidableEq K](kk:KK F.C.prog F.C.w K){D:Den}{iter:Expr}{y:Str}{q2 p:Pos}{i:Nat}(ho:F.own=true)(hs:∀x,foldedSetIterable iter F.env x=pure x)(hb:∀Q c r m s σ,WE F Q (D.c c) r m s σ->AS F.C F.env F.vars F.gl F.own F.d (execs D.sts F.env) m σ (z18 (λm σ=>WE F Q c r m s σ) Q))(hi:F.vars[i]? =some y)
  (h:F.at (eval iter F.env) m σ λX σ=>∃n,LoopD kk X m σ Q (λY QB m σ=>z3r m i Y λm=>W F n QB (D.c []) [] m [] σ) λm σ=>W F n Q c r m s σ):AS F.C F.env F.vars F.gl F.own F.d (exec (.For (.Name y q2) iter D.sts [] p) F.env) m σ (z18 (λm σ=>WE F Q c r m s σ) Q):=by
 by_cases hsys:z0N F.C
 ·refine z6w (z6G kk hsys (h.mono λX σ₁ w=> ?_)) hs
  obtain⟨n,a,o,kvs,I,rfl,_,hm,hn,h0,hb1,he⟩:=w
  refine⟨a,o,kvs,rfl,hm,hn,z7d I _ _ _ (λj Y hY m σ hI QB hQB hQR=> ?_) (λm σ hI=>⟨n,he m σ (by rw[List.length_map] at hI;exact hI)⟩) h0⟩
  rw[List.getElem?_map] at hY
  obtain⟨p,hp,rfl⟩:=Option.map_eq_some_iff.mp hY
  obtain⟨m',p',w⟩:=z24 (k:=λm=>W F n QB (D.c []) [] m [] σ) hi (hb1 j p hp m σ hI QB hQB hQR)
  exact z0w p' (z7s hb w) (.inl ho)
 ·refine z6w (λA G D' st hA R=>h.run hA R λv s₁ X D₁ σ₁ dx b c w=> ?_) hs
  obtain⟨n,a,o,kvs,I,_,hs2,_⟩:=w
  exact absurd hs2 hsys
theorem y4U{D:Den}(gl:PL F D){G X:V}{p:Pos}(w:WE F Q (D.c (.meth G D.exs.length::c)) r m (X::s) σ):AL F.C F.env F.vars F.gl F.own F.d (spliced (backTo p (starEach D.exs F.env))) m σ λXs σ=>KW F.C F.d G (X::Xs) σ λY σ=>WE F Q c r m (Y::s) σ:=
 AL.mono (gl.l p _ _ _ _ _ _ w) λXs σ q=>by
  obtain⟨n,w⟩:=q.2.step
  exact KW.mono (Leaf.out (y49 (z7w (k:=λXs s=>st1 s λX s=>Leaf (KW F.C F.d G (X::Xs) σ λY σ=>W F n Q c r m (Y::s) σ)) q.1 w))) λY σ w=>⟨n,w⟩
theorem y3w{D:Den}(gl:PL F D){G X:V}(e:D.exs=[])(w:WE F Q (D.c (.meth G D.exs.length::c)) r m (X::s) σ):KW F.C F.d G [X] σ λY σ=>WE F Q c r m (Y::s) σ:=by
 rw[gl.n e,e] at w
 obtain⟨n,w⟩:=w.step
 exact KW.mono (Leaf.out w) λY σ w=>⟨n,w⟩
theorem y13{D:Den}(gl:PL F D){ty id:String}{o:Expr}{nm:Str}{q p:Pos}{Z:V->Sto->Prop}{P:V->Sto->Prop}(hM:MethIs ty nm id)(w:F.at (eval o F.env) m σ λX σ=>TyR F.C X σ ty/\Z X σ)(hl:∀X σ,Z X σ->AL F.C F.env F.vars F.gl F.own F.d (spliced (backTo p (starEach D.exs F.env))) m σ λXs σ=>KW F.C F.d (.bi id) (X::Xs) σ P)(hn:D.exs=[]->∀X σ,Z X σ->KW F.C F.d (.bi id) [X] σ P)(hb:attributeBase o nm F.env (eval o F.env)=eval o F.env)(h5:(q.endLine==p.line)=true)(h6:Nat.blt D.exs.length 30=true):F.at (eval (.Call (.Attribute o nm q) D.exs [] p) F.env) m σ P:=by
 have hs:=gl.s
 have hp:=gl.p p
 clear gl
 generalize D.exs=es at*
 cases es with
 |nil=>exact y0S hM (w.mono λX σ₁ w=>⟨w.1,hn rfl X σ₁ w.2⟩) hb h5
 |cons e es=>exact y2V hM (w.mono λX σ₁ w=>⟨w.1,hl X σ₁ w.2⟩) hb h5 (hs _ _ rfl).1 ((hs _ _ rfl).2 _) (y15 hp h6)
theorem y0P{D:Den}(gl:PL F D){K:W.Frag}{c f:Addr}{o:Expr}{nm:Str}{q p:Pos}{Z:V->Sto->Prop}{P:V->Sto->Prop}(hM:MethAt F.C K c nm f)(w:F.at (eval o F.env) m σ λX σ=>z6o c nm X σ λx=>Z (.ref x) σ)(hl:∀X σ,Z X σ->AL F.C F.env F.vars F.gl F.own F.d (spliced (backTo p (starEach D.exs F.env))) m σ λXs σ=>KW F.C F.d (.ref f) (X::Xs) σ P)(hn:D.exs=[]->∀X σ,Z X σ->KW F.C F.d (.ref f) [X] σ P)(hb:attributeBase o nm F.env (eval o F.env)=eval o F.env)(h5:(q.endLine==p.line)=true)(h6:Nat.blt D.exs.length 30=true):F.at (eval (.Call (.Attribute o nm q) D.exs [] p) F.env) m σ P:=by
 have hs:=gl.s
 have hp:=gl.p p
 clear gl
 generalize D.exs=es at*
 cases es with
 |nil=>exact z9P hM (w.mono λX σ₁ w=>by obtain⟨x,dx,fs,e1,e2,e3,w⟩:=w;exact⟨x,dx,fs,e1,e2,e3,hn rfl _ _ w⟩) hb h5
 |cons e es=>exact z21 hM (w.mono λX σ₁ w=>by obtain⟨x,dx,fs,e1,e2,e3,w⟩:=w;exact⟨x,dx,fs,e1,e2,e3,hl _ _ w⟩) hb h5 (hs _ _ rfl).1 ((hs _ _ rfl).2 _) (y15 hp h6)
theorem y3K{D:Den}{n i:Nat}{y:Str}{p:Pos}{Y:V}(hi:(F.vars[i]? ==some y)=true)(hb:PS F D)(ho:F.own=true)(w:z3r m i Y λm=>W F n Q (D.c []) [] m [] σ):AA F.C F.env F.vars F.gl F.own F.d (assign (.Name y p) F.env) Y m σ λm σ=>AS F.C F.env F.vars F.gl F.own F.d (execs D.sts F.env) m σ Q:=by
 obtain⟨m',p',w⟩:=z24 (k:=λm=>W F n Q (D.c []) [] m [] σ) (eq_of_beq hi) w
 exact z0w p' (z7s (hb ho) w) (.inl ho)
theorem y1s{tgt:Expr}{body:List Stmt}{n:Nat}{X:V}{B:V->(Fl->Loc->Sto->Prop)->Loc->Sto->Prop}(w:LoopL X m σ Q B λm σ=>W F n Q c r m s σ)(h:∀Y QB m σ,B Y QB m σ->AA F.C F.env F.vars F.gl F.own F.d (assign tgt F.env) Y m σ λm σ=>AS F.C F.env F.vars F.gl F.own F.d (execs body F.env) m σ QB):∃xs P,Has σ X (.list xs) P/\z5X F.C F.env F.vars F.gl F.own F.d tgt body P (z18 (λm σ=>WE F Q c r m s σ) Q) xs m σ:=by
 obtain⟨xs,P,I,hH,h0,hb,he⟩:=w
 exact⟨xs,P,hH,z7d I _ _ _ (λj Y hY m σ hI QB hQB hQR=>h _ _ _ _ (hb j Y hY m σ hI QB hQB hQR)) (λm σ hI=>⟨n,he m σ hI⟩) h0⟩
theorem y2i{g:List V->List V}{tgt:Expr}{body:List Stmt}{n:Nat}{X:V}{B:V->(Fl->Loc->Sto->Prop)->Loc->Sto->Prop}(w:LoopG g X m σ Q B λm σ=>W F n Q c r m s σ)(h:∀Y QB m σ,B Y QB m σ->AA F.C F.env F.vars F.gl F.own F.d (assign tgt F.env) Y m σ λm σ=>AS F.C F.env F.vars F.gl F.own F.d (execs body F.env) m σ QB):∃Y xs P,[X]=[Y]/\Has σ Y (.list xs) P/\z5X F.C F.env F.vars F.gl F.own F.d tgt body P (z18 (λm σ=>WE F Q c r m s σ) Q) (g xs) m σ:=by
 obtain⟨xs,P,I,hH,h0,hb,he⟩:=w
 exact⟨X,xs,P,rfl,hH,z7d I _ _ _ (λj Y hY m σ hI QB hQB hQR=>h _ _ _ _ (hb j Y hY m σ hI QB hQB hQR)) (λm σ hI=>⟨n,he m σ hI⟩) h0⟩
set_option tactic.hygienic true in
theorem y5k [HM F.C](hf:∀a∈F.fns,z0l F.C (.ref a))(hm:(∀q∈F.ml,∃K,MethAt F.C K q.1 q.2.1 q.2.2)/\∀q∈F.al,∃K,AttrAt F.C K q.1 q.2)(t:T):z3D F (den t):=by
 induction t with
 |loc i x p=>
  refineλ(h:(F.vars[i]? ==some x)=true) Q c r m s σ w=> ?_
  obtain⟨n,w⟩:=WE.step w
  have w:y4z m[i]? λX=>W F n Q c r m (X::s) σ:=w
  unfold y4z at w
  split at w
  ·rename_i X hX;exact z78 (y4V (eq_of_beq h) hX) ⟨n,w⟩
  ·exact w.elim
 |glb i X x p=>exactλh Q c r m s σ w=>by obtain⟨n,w⟩:=WE.step w;exact z1A (List.mem_of_getElem? (z45 h)) ⟨n,w⟩
 |con k e p=>
  refineλh Q c r m s σ w=> ?_
  obtain⟨n,w⟩:=WE.step w
  cases k<;>first|exact ff h|skip
  all_goals first|exact z0p ⟨n,w⟩|exact z6W ⟨n,w⟩|exact z6F ⟨n,w⟩|exact z6H ⟨n,w⟩
 |raw e=>exactλ_ Q c r m s σ w=>by obtain⟨n,w⟩:=WE.step w;exact AT.mono (Leaf.out w) λX σ w=>⟨n,w⟩
 |no=>exactλc=>rfl
 |sub a b p ha hb=>exactλh Q c r m s σ w=>z0C (z3z (gE ha (z0g h).1) (gE hb (z0g h).2) w λn X Y σ w=>SubR.mono (Leaf.out w) λZ σ w=>⟨n,w⟩)
 |subT a k u q p ha=>
  refineλh Q c r m s σ w=>z0C ((gE ha (z0g h).1 _ _ _ _ _ _ w).mono λX σ₁ w=>z0p ?_)
  obtain⟨n,w⟩:=w.step
  exact y2n (Q:=λY σ=>W F n Q c r m (Y::s) σ) w (λZ e q=>y1K e (z0g h).2 ⟨n,q⟩) λw=>SubR.mono w λZ σ w=>⟨n,w⟩
 |binc o a b p ha hb=>exactλh Q c r m s σ w=>z0I (z3z (gE ha (z0g h).1) (gE hb (z0g h).2) w λn X Y σ w=>y2n (Q:=λY σ=>W F n Q c r m (Y::s) σ) w (λZ e q=>y26 e ⟨n,q⟩) λw=>AC2.mono w λZ σ w=>⟨n,w⟩)
 |cmpc o a b p ha hb=>exactλh Q c r m s σ w=>z9H (z3z (gE ha (z0g h).1) (gE hb (z0g (z0g h).2).1) w λn X Y σ w=>y2n (Q:=λY σ=>W F n Q c r m (Y::s) σ) w (λZ e q=>z3m e ⟨n,q⟩) λw=>AC2.mono w λZ σ w=>⟨n,w⟩) (Bool.not_eq_true' _▸(z0g (z0g h).2).2)
 |cmp2 o o2 a b e p ha hb he=>
  refineλh Q c r m s σ w=>y29 (z3z (gE ha (z0g h).1) (gE hb (z0g (z0g h).2).1) w λn X Y σ w=> ?_) (Bool.not_eq_true' _▸(z0g (z0g (z0g h).2).2).2)
  have key:∀n σ,W F n Q ((den e).c [.cmpc o2]) (c::r) m (Y::s) σ->F.at (eval (den e).ex F.env) m σ λW' σ₄=>AC2 F.C F.d (compareOp o2) Y W' σ₄ λX σ=>WE F Q c r m (X::s) σ:=λn σ w=>(gE he (z0g (z0g (z0g h).2).2).1 _ _ _ _ _ _ ⟨n,w⟩).mono λW' σ₄ w=>by
   obtain⟨n,w⟩:=WE.step w
   exact y2n (Q:=λY σ=>W F n Q [] (c::r) m (Y::s) σ) w (λZ e q=>z3m e (WE.end ⟨n,q⟩)) λw=>AC2.mono w λZ σ w=>WE.end ⟨n,w⟩
  refine y2X (P:=λb σ=>cIf b (W F n Q ((den e).c [.cmpc o2]) (c::r) m (Y::s) σ) (W F n Q c r m (.bool false::s) σ)) w (λb e q=>z3m e ⟨b,z2j,λhb=> ?_,λhb=>key n σ ((z4M q).1 hb)⟩) λw=>AC2.mono w λZ σ w=> ?_
  ·subst hb;exact⟨n,(z4M q).2 rfl⟩
  ·obtain⟨v,t1,t2,t3⟩:=w
   exact⟨v,t1,λe=>⟨n,t2 e⟩,λe=>key n σ (t3 e)⟩
 |una o a p ha=>exactλh Q c r m s σ w=>y2o ((gE ha h _ _ _ _ _ _ w).mono λX σ₁ w=>by obtain⟨n,w⟩:=w.step;exact AC1.mono (Leaf.out w) λZ σ w=>⟨n,w⟩)
 |vbo o as p has=>exactλh Q c r m s σ w=>z9X ((gL has (z0g h).1).v (λe=>by have:=(z0g h).2;rw[e] at this;cases this) _ _ _ _ _ _ _ _ w)
 |tup as k p has=>
  refineλh Q c r m s σ w=>z1a (AL.mono ((gL has (z0g h).1).l _ _ _ _ _ _ _ w) λXs σ₁ q=>⟨z0y (q.1▸Nat.le_trans (Nat.le_of_ble_eq_true (z0g h).2) (by decide)),?_⟩)
  obtain⟨n,w⟩:=q.2.step
  exact⟨n,z7w q.1 w⟩
 |lst as p has=>
  refineλh Q c r m s σ w=>z0P (AL.mono ((gL has (z0g h).1).l _ _ _ _ _ _ _ w) λXs σ₁ q=>⟨z0y (q.1▸Nat.le_trans (Nat.le_of_ble_eq_true (z0g h).2) (by decide)),?_⟩)
  obtain⟨n,w⟩:=q.2.step
  exact⟨n,z7w q.1 w⟩
 |call f G x q as p has=>
  refineλh Q c r m s σ w=> ?_
  have hF:=List.mem_of_getElem? (z45 (z0g (z0g h).1).1)
  have hc:=y25 hf (z0g (z0g h).1).2
  have gl:=gL has (z0g h).2
  have w:WE F Q ((den as).c (.call G (den as).exs.length::c)) r m s σ:=w
  show F.at (eval (.Call (.Name x q) (den as).exs [] p) F.env) m σ _
  have hl:=AL.mono (gl.l p _ _ _ _ _ _ w) λXs σ q=>by
   obtain⟨n,w⟩:=q.2.step
   exact KW.mono (Leaf.out (z7w (k:=λXs s=>Leaf (KW F.C F.d G Xs σ λY σ=>W F n Q c r m (Y::s) σ)) q.1 w)) λY σ w=>(⟨n,w⟩:WE F Q c r m (Y::s) σ)
  have hn:=λe=>(gl.n e (.call G (den as).exs.length::c)▸w:WE F Q (.call G (den as).exs.length::c) r m s σ)
  have hs:=gl.s
  generalize (den as).exs=es at hl hn hs
  cases es with
  |nil=>exact y1I (z1A hF ⟨hc,by obtain⟨n,w⟩:=(hn rfl).step;exact KW.mono (Leaf.out w) λY σ w=>⟨n,w⟩⟩)
  |cons e es=>exact z0i (z1A hF ⟨hc,hl⟩) (hs _ _ rfl).1 ((hs _ _ rfl).2 _)
 |len f x q a p ha=>
  refineλh Q c r m s σ w=>z0i (z1A (List.mem_of_getElem? (z7V (z0g (z0g h).2).2)) ⟨z0q,z0b ((gE ha (z0g h).1 _ _ _ _ _ _ w).mono λX σ₁ w=>z0c ?_) (z1B (z0g (z0g h).2).1)⟩) (z1B (z0g (z0g h).2).1) rfl
  obtain⟨n,w⟩:=w.step
  refine y4u (X:=X) w (λxs e w2=> ?_) λw=>KW.mono w λZ σ w=>⟨n,w⟩
  have w2:=z4M w2
  cases hb:Nat.ble xs.length 1000 with
  |true=>subst e;exact y1D (Nat.le_trans (Nat.le_of_ble_eq_true hb) (by decide)) ⟨n,w2.1 hb⟩
  |false=>exact KW.mono (w2.2 hb).out λZ σ w=>⟨n,w⟩
 |isi f g t x y q r' a p ha=>
  refineλh Q c r m s σ w=>z0i (z1A (List.mem_of_getElem? (z7V (z0g (z0g (z0g h).2).2).1)) ⟨z0q,z0b ((gE ha (z0g h).1 _ _ _ _ _ _ w).mono λX σ₁ w=>z0b (z1A (List.mem_of_getElem? (z5z (z0g (z0g (z0g h).2).2).2)) (z0c ?_)) rfl) (z1B (z0g (z0g h).2).1)⟩) (z1B (z0g (z0g h).2).1) rfl
  obtain⟨n,w⟩:=w.step
  refine y2n (Q:=λY σ=>W F n Q c r m (Y::s) σ) w (λZ e q=> ?_) λw=>KW.mono w λZ σ w=>⟨n,w⟩
  obtain⟨b,e1,rfl⟩:=Option.map_eq_some_iff.mp e
  exact z3A e1 ⟨n,q⟩
 |meth ty id a nm q as p ha has=>
  refineλh Q c r m s σ w=> ?_
  have h0:=z0g h
  have h1:=z0g h0.1
  have h3:=z0g h0.2
  have h5:=z0g (z0g h3.1).2
  have gl:=gL has h1.2
  refine y13 gl (y3e h3.2) ((gE ha h1.1 _ _ _ _ _ _ w).mono λX σ w=> ?_) (λX σ w=>y4U gl w) (λe X σ w=>y3w gl e w) (z9h (z0g h3.1).1) h5.1 h5.2
  obtain⟨n,w⟩:=w.step
  exact⟨(Leaf.out w).1,n,(Leaf.out w).2⟩
 |methI c' f a nm q as p ha has=>
  refineλh Q c r m s σ w=> ?_
  have h0:=z0g h
  have h1:=z0g h0.1
  have h3:=z0g h0.2
  have h5:=z0g (z0g h3.1).2
  obtain⟨K,hK⟩:=hm.1 _ (List.contains_iff_mem.mp h3.2)
  have gl:=gL has h1.2
  refine y0P gl hK ((gE ha h1.1 _ _ _ _ _ _ w).mono λX σ w=> ?_) (λX σ w=>y4U gl w) (λe X σ w=>y3w gl e w) (z9h (z0g h3.1).1) h5.1 h5.2
  obtain⟨n,w⟩:=w.step
  obtain⟨x,dx,fs,e1,e2,e3,w⟩:=Leaf.out w
  exact⟨x,dx,fs,e1,e2,e3,n,w⟩
 |slc a b e p ha hb he=>exactλh Q c r m s σ w=>z20 (gO ha (z0g h).1 w λX σ₁ w=>gO hb (z0g (z0g h).2).1 w λY σ₂ w=>gO he (z0g (z0g h).2).2 w λZ σ₃ w=>by obtain⟨n,w⟩:=w.step;exact⟨n,w⟩)
 |att k a nm p ha=>
  refineλh Q c r m s σ w=> ?_
  have h1:=z0g h
  have h2:=z0g h1.2
  obtain⟨K,hK⟩:=hm.2 _ (List.contains_iff_mem.mp h2.2)
  refine y1F hK ((gE ha h1.1 _ _ _ _ _ _ w).mono λX σ₁ w=> ?_) (y3k h2.1) (y3m h2.1)
  obtain⟨n,w⟩:=w.step
  obtain⟨x,dx,fs,Z,e1,e2,e3,e4,w⟩:=Leaf.out w
  exact⟨x,dx,fs,Z,e1,e2,e3,e4,n,w⟩
 |dic p=>exactλ_ Q c r m s σ w=>by obtain⟨n,w⟩:=WE.step w;exact z5p λa o hf=>⟨n,w a o hf⟩
 |nil=>exactλ_=>⟨λp Q c r m s σ w=>z0c ⟨rfl,w⟩,λh=>absurd rfl h,(λ_ c=>rfl),(λp=>rfl),λe r h=>nomatch h⟩
 |cons a as ha has=>
  refineλh=> ?_
  have he:=gE ha (z0g h).1
  obtain⟨hns,hk⟩:=z0g (z0g h).2
  have gl:=gL has hk
  refine⟨λp Q c r m s σ w=>z0b ((he _ _ _ _ _ _ w).mono λX σ₁ w=>AL.mono (gl.l p _ _ _ _ _ _ w) λXs σ₂ q=>⟨congrArg Nat.succ q.1,by rw[List.reverse_cons,List.append_assoc];exact q.2⟩) (z1B hns),λ_ o p Q c r m s σ w=> ?_,(λe=>nomatch e),(λp=> ?_),λe r h=> ?_⟩
  ·show F.at (boolOp p o (evalEach ((den a).ex::(den as).exs) F.env)) m σ _
   have w:WE F Q (match(den as).exs with
    |[]=>(den a).c c
    |_::_=>(den a).c (.vop o ((den as).cv o [])::c)) r m s σ:=w
   have gv:=gl.v
   generalize (den as).exs=es at w gv
   cases es with
   |nil=>cases o with
    |And=>exact y1R (he _ _ _ _ _ _ w)
    |Or=>exact y2T (he _ _ _ _ _ _ w)
   |cons y l=>
    have gv:=gv (λe=>nomatch e)
    have key:∀n σ,W F n Q ((den as).cv o []) (c::r) m s σ->F.at (boolOp p o (evalEach (y::l) F.env)) m σ λX σ=>WE F Q c r m (X::s) σ:=λn σ w=>(gv _ _ _ _ _ _ _ _ ⟨n,w⟩).mono λX σ w=>w.end
    have w:=he _ _ _ _ _ _ w
    cases o with
    |And=>
     refine y2N (w.mono λX σ₁ w=> ?_)
     obtain⟨n,w⟩:=w.step
     refine y1i w (λb e w=> ?_) λw=> ?_
     ·subst e;exact⟨b,z2j,λe=>key n _ ((z9Y w).1 e),λe=>⟨n,(z9Y w).2 e⟩⟩
     ·obtain⟨b,t1,w⟩:=w
      exact⟨b,t1,λe=>key n _ ((z9Y w).1 e),λe=>⟨n,(z9Y w).2 e⟩⟩
    |Or=>
     refine y4E (w.mono λX σ₁ w=> ?_)
     obtain⟨n,w⟩:=w.step
     refine y1i w (λb e w=> ?_) λw=> ?_
     ·subst e;exact⟨b,z2j,λe=>⟨n,(z90 w).1 e⟩,λe=>key n _ ((z90 w).2 e)⟩
     ·obtain⟨b,t1,w⟩:=w
      exact⟨b,t1,λe=>⟨n,(z90 w).1 e⟩,λe=>key n _ ((z90 w).2 e)⟩
  ·show(backTo p (starEach ((den a).ex::(den as).exs) F.env)).any (·.1)=false
   rw[z1B hns]
   exact gl.p p
  ·cases h
   exact⟨z1B hns,gl.p⟩
 |bnot a p ha=>exactλh Q c r m s σ w=>z1l (AB.mono (gB ha h _ _ _ _ _ _ w) λb σ w=>by obtain⟨n,w⟩:=w.step;exact⟨n,w⟩)
 |bcmpc o a b p ha hb=>exactλh Q c r m s σ w=>z0L (z3z (gE ha (z0g h).1) (gE hb (z0g (z0g h).2).1) w λn X Y σ w=>y2X (P:=λb σ=>W F n Q c r m (.bool b::s) σ) w (λb e q=>z3m e (z0h ⟨n,q⟩)) λw=>AC2.mono w λZ σ w=>by obtain⟨b,t,w⟩:=w;exact⟨b,t,n,w⟩) (Bool.not_eq_true' _▸(z0g (z0g h).2).2)
 |bcmp2 o o2 a b e p ha hb he=>
  refineλh Q c r m s σ w=>y2S (z3z (gE ha (z0g h).1) (gE hb (z0g (z0g h).2).1) w λn X Y σ w=> ?_) (Bool.not_eq_true' _▸(z0g (z0g (z0g h).2).2).2)
  have key:∀n σ,W F n Q ((den e).c [.tcmpc o2]) (c::r) m (Y::s) σ->F.at (eval (den e).ex F.env) m σ λW' σ₄=>AC2 F.C F.d (compareOp o2) Y W' σ₄ λZ σ=>TRX F.C F.d Z σ λb σ=>WE F Q c r m (.bool b::s) σ:=λn σ w=>(gE he (z0g (z0g (z0g h).2).2).1 _ _ _ _ _ _ ⟨n,w⟩).mono λW' σ₄ w=>by
   obtain⟨n,w⟩:=WE.step w
   exact y2X (P:=λb σ=>W F n Q [] (c::r) m (.bool b::s) σ) w (λb e q=>z3m e (z0h (WE.end ⟨n,q⟩))) λw=>AC2.mono w λZ σ w=>by obtain⟨b,t,w⟩:=w;exact⟨b,t,WE.end ⟨n,w⟩⟩
  refine y2X (P:=λb σ=>cIf b (W F n Q ((den e).c [.tcmpc o2]) (c::r) m (Y::s) σ) (W F n Q c r m (.bool false::s) σ)) w (λb e q=>z3m e ⟨b,z2j,λhb=>⟨n,(z4M q).2 hb⟩,λhb=>key n σ ((z4M q).1 hb)⟩) λw=>AC2.mono w λZ σ w=> ?_
  obtain⟨v,t1,t2,t3⟩:=w
  exact⟨v,t1,λe=>⟨n,t2 e⟩,λe=>key n σ (t3 e)⟩
 |bvalc a ha=>
  refineλh Q c r m s σ w=>z09 ((gE ha (z0g h).1 _ _ _ _ _ _ w).mono λX σ₁ w=> ?_) (y0g (z0g h).2)
  obtain⟨n,w⟩:=w.step
  exact y1i w (λb e w=>by subst e;exact z0h ⟨n,w⟩) λw=>by obtain⟨b,t,w⟩:=w;exact⟨b,t,n,w⟩
 |bbo o as p has=>exactλh Q c r m s σ w=>z16 (gM has h _ _ _ _ _ _ _ w)
 |bnil=>
  refineλ_ o Q c r m s σ w=> ?_
  cases o with
  |And=>obtain⟨n,w⟩:=WE.step w;exact z94 ⟨n,w⟩
  |Or=>obtain⟨n,w⟩:=WE.step w;exact z36 ⟨n,w⟩
 |bcons a as ha has=>
  refineλh o Q c r m s σ w=> ?_
  have w:=gB ha (z0g h).1 _ _ _ _ _ _ w
  have key:∀n σ,W F n Q ((den as).cv o []) (c::r) m s σ->AB F.C F.env F.vars F.gl F.own F.d (allTrue o (den as).exs F.env) m σ λb σ=>WE F Q c r m (.bool b::s) σ:=λn σ w=>AB.mono (gM has (z0g h).2 _ _ _ _ _ _ _ ⟨n,w⟩) λb σ w=>w.end
  cases o with
  |And=>exact y34 (AB.mono w λb σ₁ w=>by obtain⟨n,w⟩:=w.step;exact⟨λhb=>key n _ ((z9Y w).1 hb),λhb=>⟨n,(z9Y w).2 hb⟩⟩)
  |Or=>exact z2T (AB.mono w λb σ₁ w=>by obtain⟨n,w⟩:=w.step;exact⟨λhb=>⟨n,(z90 w).1 hb⟩,λhb=>key n _ ((z90 w).2 hb)⟩)
 |setI e a b u p he ha hb=>
  refineλh ho Q c r m s σ w=>z8u ((gE he (z0g (z0g h).2).1 _ _ _ _ _ _ w).mono λX σ₁ w=>z3z (gE ha (z0g (z0g (z0g h).2).2).1) (gE hb (z0g (z0g (z0g h).2).2).2) w λn O I σ w=> ?_) (z48 (z0g h).1)
  exact SetR.mono (Leaf.out w) λσ w=>⟨n,w⟩
 |rawS s=>exactλ_ _ Q c r m s σ w=>by obtain⟨n,w⟩:=WE.step w;exact AS.mono (Leaf.out w) (z62 λm σ w=>⟨n,w⟩)
 |asg i x q e p he=>
  refineλh ho Q c r m s σ w=>z1C ((gE he (z0g (z0g h).2).2 _ _ _ _ _ _ w).mono λX σ₁ w=> ?_) ho (z48 (z0g (z0g h).2).1)
  obtain⟨n,w⟩:=w.step
  obtain⟨m',p,w⟩:=z24 (k:=λm=>W F n Q c r m s σ₁) (eq_of_beq (z0g h).1) w
  exact⟨m',p,n,w⟩
 |asgL i x q r' p=>
  refineλh ho Q c r m s σ w=>z8B (λa o hf=> ?_) ho rfl
  obtain⟨n,w⟩:=WE.step w
  obtain⟨m',p,w⟩:=z24 (k:=λm=>W F n Q c r m s ((a,o,.list [])::σ)) (eq_of_beq h) (w a o hf)
  exact⟨m',p,n,w⟩
 |asgD i x q r' p=>
  refineλh ho Q c r m s σ w=>z5x (λa o hf=> ?_) ho rfl
  obtain⟨n,w⟩:=WE.step w
  obtain⟨m',p,w⟩:=z24 (k:=λm=>W F n Q c r m s ((a,o,.dict [])::σ)) (eq_of_beq h) (w a o hf)
  exact⟨m',p,n,w⟩
 |asg2 i j x y q r' k u e p he=>
  refineλh ho Q c r m s σ w=>z6B ((gE he (z0g (z0g (z0g (z0g h).2).2).2).2 _ _ _ _ _ _ w).mono λX σ₁ w=> ?_) rfl (y14 (z0g (z0g (z0g h).2).2).1) (z9W (z0g (z0g (z0g (z0g h).2).2).2).1)
  obtain⟨n,w⟩:=w.step
  obtain⟨X,Y,rfl,w1⟩:=y0B (k:=λx y=>z3r m i x λm=>z3r m j y λm=>W F n Q c r m s σ₁) w
  obtain⟨m1,p1,w⟩:=z24 (eq_of_beq (z0g h).1) w1
  obtain⟨m2,p2,w⟩:=z24 (eq_of_beq (z0g (z0g h).2).1) w
  exact y5c (z0w p1 (z0w p2 ⟨n,w⟩ (.inl ho)) (.inl ho)) rfl rfl
 |ret e p he=>exactλh _ Q c r m s σ w=>z5s ((gE he h _ _ _ _ _ _ w).mono λX σ₁ w=>by obtain⟨n,w⟩:=w.step;exact w)
 |exp e p he=>exactλh _ Q c r m s σ w=>y1T ((gE he (z0g h).2 _ _ _ _ _ _ w).mono λX σ₁ w=>by obtain⟨n,w⟩:=w.step;exact⟨n,w⟩) (z48 (z0g h).1)
 |ife e a b p he ha hb=>
  refineλh ho Q c r m s σ w=>y2K (AB.mono (gB he (z0g h).1 _ _ _ _ _ _ w) λv σ₁ w=> ?_)
  obtain⟨n,w⟩:=w.step
  have w:=z4M w
  exact⟨λe=>AS.mono (gS ha (z0g (z0g h).2).1 ho _ _ _ _ _ _ ⟨n,w.1 e⟩) (z62 λm σ w=>w.end),λe=>AS.mono (gS hb (z0g (z0g h).2).2 ho _ _ _ _ _ _ ⟨n,w.2 e⟩) (z62 λm σ w=>w.end)⟩
 |forR f x q a u i y q2 b p ha hb=>
  refineλh ho Q c r m s σ w=> ?_
  have h1:=z0g h
  have h2:=z0g h1.2
  have h3:=z0g h2.2
  have h4:=z0g h3.2
  refine z6w (z1u (z0i (z1A (List.mem_of_getElem? (z5z h3.1)) ⟨z0u,z0b ((gE ha h1.1 _ _ _ _ _ _ w).mono λX σ₁ w=>z0c ?_) (z1B h2.1)⟩) (z1B h2.1) rfl)) (λ_=>rfl)
  obtain⟨n,w⟩:=w.step
  obtain⟨k,I,rfl,hk,h0,hb1,he⟩:=Leaf.out w
  refine z1D ⟨_,_,_,k,rfl,z6S hk,z7b k,z7d I _ _ _ (λj Y hY m σ hI QB hQB hQR=> ?_) (λm σ hI=> ?_) h0⟩
  ·obtain⟨hj,rfl⟩:=z6s hY
   obtain⟨m',p,w⟩:=z24 (k:=λm=>W F n QB ((den b).c []) [] m [] σ) (eq_of_beq h4.1) (hb1 j hj m σ hI QB (λm σ h=>hQB m σ trivial h) hQR)
   exact z0w p (z7s (gS hb h4.2 ho) w) (.inl ho)
  ·rw[z1I] at hI;exact⟨n,he m σ hI⟩
 |forL a i y q2 b p ha hb=>
  exactλh ho Q c r m s σ w=>z6w (z0W ((gE ha (z0g h).1 _ _ _ _ _ _ w).mono λX σ₁ w=>by obtain⟨n,w⟩:=w.step;exact y1s (Leaf.out w) λY QB m σ w=>y3K (z0g (z0g (z0g h).2).2).1 (gS hb (z0g (z0g (z0g h).2).2).2) ho w)) (z67 (z0g (z0g h).2).1)
 |forDS a i y q2 b p ha hb=>
  refineλh ho Q c r m s σ w=> ?_
  have h1:=z0g h
  have h2:=z0g h1.2
  have h3:=z0g h2.2
  exact z9M (KK.str F.C.prog F.C.w) ho (z67 h2.1) (gS hb h3.2 ho) (eq_of_beq h3.1) ((gE ha h1.1 _ _ _ _ _ _ w).mono λX σ₁ w=>by obtain⟨n,w⟩:=w.step;exact⟨n,Leaf.out w⟩)
 |forDI a i y q2 b p ha hb=>
  refineλh ho Q c r m s σ w=> ?_
  have h1:=z0g h
  have h2:=z0g h1.2
  have h3:=z0g h2.2
  exact z9M (KK.int F.C.prog F.C.w) ho (z67 h2.1) (gS hb h3.2 ho) (eq_of_beq h3.1) ((gE ha h1.1 _ _ _ _ _ _ w).mono λX σ₁ w=>by obtain⟨n,w⟩:=w.step;exact⟨n,Leaf.out w⟩)
 |forV f x q a u i y q2 b p ha hb=>
  refineλh ho Q c r m s σ w=> ?_
  have h3:=z0g (z0g (z0g h).2).2
  have h5:=z0g (z0g h3.2).2
  obtain rfl:=eq_of_beq h3.1
  exact z6w (y3U (z1A (List.mem_of_getElem? (z5z (z0g h3.2).1)) ⟨rfl,z0b ((gE ha (z0g h).1 _ _ _ _ _ _ w).mono λX σ₁ w=>z0c (by obtain⟨n,w⟩:=w.step;exact y2i (Leaf.out w) λY QB m σ w=>y3K h5.1 (gS hb h5.2) ho w)) (z1B (z0g (z0g h).2).1)⟩) (z1B (z0g (z0g h).2).1) rfl) (λ_=>rfl)
 |done=>exactλ_ _ Q c r m s σ w=>z8c w
 |seq t r hs hr=>exactλh ho Q c r m s σ w=>z3d ((g1 hs (z0g h).1 ho _ _ _ _ _ _ w).mono (z5v λm σ w=>gS hr (z0g h).2 ho _ _ _ _ _ _ w))
 |dseq t r hs hr=>
  refineλh ho Q c r m s σ w=>z3d ((g1 hs (z0g h).1 ho _ _ _ _ _ _ w).mono (z5v λm σ w=> ?_))
  obtain⟨n,w⟩:=w.step
  obtain⟨τ,hs,w⟩:=Leaf.out w
  exactλA G D s hA R=>gS hr (z0g h).2 ho _ _ _ _ _ _ ⟨n,w⟩ A G D s hA (R.drop hs)
 |cut t r' hs hr=>
  refineλh ho Q c r m s σ w=> ?_
  obtain⟨n,w⟩:=WE.step w
  obtain⟨I,w1,w2⟩:=Leaf.out w
  refine z3d ((g1 hs (z0g h).1 ho _ _ _ _ _ _ ⟨n,w1 (z18 I (z18 (λm σ=>WE F Q c r m s σ) Q)) (λm σ h=>h) λf m σ hn q=> ?_⟩).mono λf m σ q=> ?_)
  ·cases f with
   |next=>exact(hn rfl).elim
   |brk=>exact q
   |cont=>exact q
   |ret x=>exact q
  ·cases f with
   |next=>exact gS hr (z0g h).2 ho _ _ _ _ _ _ ⟨n,w2 m σ (WE.fin q)⟩
   |brk=>exact q
   |cont=>exact q
   |ret x=>exact q
theorem z0n{C:Cx}[HM C]{env:Env}{vars:List Str}{gl:List (Str×V)}{d:Nat}{fns:List Nat}{ml:List (Nat×Str×Nat)}{al:List (Nat×Str)}(hf:∀a∈fns,z0l C (.ref a))(hm:(∀q∈ml,∃K,MethAt C K q.1 q.2.1 q.2.2)/\∀q∈al,∃K,AttrAt C K q.1 q.2)(t:TC){ss:List Stmt}(_:allK t.p ss λl=>l=t.r)
  (ok:(okS ⟨C,env,vars,gl,true,d,fns,ml,al⟩ (den (rdT gl t.k ss)),(den (rdT gl t.k ss)).sts,(den (rdT gl t.k ss)).c [])=(true,ss,t.k))
  {m:Loc} {σ:Sto} {Q:Fl->Loc->Sto->Prop} (w:let F:Fx:=⟨C,env,vars,gl,true,d,fns,ml,al⟩;let m':=m;W F 3000 Q t.k [] m' [] σ):AS C env vars gl true d (execs ss env) m σ Q:=by
 have h1:=congrArg (·.1) ok
 have h2:(den (rdT gl t.k ss)).sts=ss:=congrArg (·.2.1) ok
 have h3:(den (rdT gl t.k ss)).c []=t.k:=congrArg (·.2.2) ok
 have g:=gS (@y5k ⟨C,env,vars,gl,true,d,fns,ml,al⟩ ‹HM C› hf hm (rdT gl t.k ss)) h1 rfl Q [] [] m [] σ ⟨3000,by rw[h3];exact w⟩
 rw[h2] at g
 refine AS.mono g λf m σ q=> ?_
 cases f with
 |next=>exact WE.fin q
 |brk=>exact q
 |cont=>exact q
 |ret x=>exact q
theorem z3w{A:(Fl->Loc->Sto->Prop)->Prop}{B:Loc->Sto->Prop}{Q:Fl->Loc->Sto->Prop}{α:Type}(P:α->Prop)(m1:α->Loc)(σ1:Sto)(h1:∀K:Fl->Loc->Sto->Prop,(∀x,P x->K .next (m1 x) σ1)->(∀f m σ,(f= .next->False)->Q f m σ->K f m σ)->A K)(h2:∀x,P x->B (m1 x) σ1):
  Leaf (∃I:Loc->Sto->Prop,(∀K:Fl->Loc->Sto->Prop,(∀m σ,I m σ->K .next m σ)->(∀f m σ,(f= .next->False)->Q f m σ->K f m σ)->A K)/\∀m σ,I m σ->B m σ):=
 ⟨λm σ=>∃x,P x/\m=m1 x/\σ=σ1,λK hK hR=>h1 K (λx hx=>hK _ _ ⟨x,hx,rfl,rfl⟩) hR,λm σ h=>by obtain⟨x,hx,rfl,rfl⟩:=h;exact h2 x hx⟩
theorem y1W{A:(Fl->Loc->Sto->Prop)->Prop}{B:Loc->Sto->Prop}{Q:Fl->Loc->Sto->Prop}{α:Type}(P:α->Prop)(m1:α->Loc)(σ1:α->Sto)(h1:∀K:Fl->Loc->Sto->Prop,(∀x,P x->K .next (m1 x) (σ1 x))->(∀f m σ,(f= .next->False)->Q f m σ->K f m σ)->A K)(h2:∀x,P x->B (m1 x) (σ1 x)):
  Leaf (∃I:Loc->Sto->Prop,(∀K:Fl->Loc->Sto->Prop,(∀m σ,I m σ->K .next m σ)->(∀f m σ,(f= .next->False)->Q f m σ->K f m σ)->A K)/\∀m σ,I m σ->B m σ):=
 ⟨λm σ=>∃x,P x/\m=m1 x/\σ=σ1 x,λK hK hR=>h1 K (λx hx=>hK _ _ ⟨x,hx,rfl,rfl⟩) hR,λm σ h=>by obtain⟨x,hx,rfl,rfl⟩:=h;exact h2 x hx⟩
theorem y3y{A:(Fl->Loc->Sto->Prop)->Prop}{B:Loc->Sto->Prop}{Q:Fl->Loc->Sto->Prop}(m1:Loc)(σ1:Sto)(h1:∀K:Fl->Loc->Sto->Prop,K .next m1 σ1->(∀f m σ,(f= .next->False)->Q f m σ->K f m σ)->A K)(h2:B m1 σ1):
  Leaf (∃I:Loc->Sto->Prop,(∀K:Fl->Loc->Sto->Prop,(∀m σ,I m σ->K .next m σ)->(∀f m σ,(f= .next->False)->Q f m σ->K f m σ)->A K)/\∀m σ,I m σ->B m σ):=
 ⟨λm σ=>m=m1/\σ=σ1,λK hK hR=>h1 K (hK _ _ ⟨rfl,rfl⟩) hR,λm σ h=>by obtain⟨rfl,rfl⟩:=h;exact h2⟩
end
end
section
noncomputable def Asc(x:Str):Prop:=x.length<=100/\∀c∈x.cps.toList,c<128
inductive Dn(σ:Sto):Nat->V->V->Prop
 |none {n:Nat}:Dn σ n .none .none
 |bool {n:Nat} (b:Bool):Dn σ n (.bool b) (.bool b)
 |int {n:Nat} (i:Int):Dn σ n (.int i) (.int i)
 |str {n:Nat} (x:Str):Asc x->Dn σ n (.str x) (.str x)
 |dict {n:Nat} {a:Addr}:At σ a (.dict [])->Dn σ n (.ref a) (.ref a)
 |tup {n:Nat} {xs ys:List V}:xs.length=ys.length->xs.length<=200->(∀(j:Nat) X Y,xs[j]? =some X->ys[j]? =some Y->Dn σ n X Y)->Dn σ (n+1) (.tup xs) (.tup ys)
 |lst {n:Nat} {xs ys:List V}:xs.length=ys.length->xs.length<=200->(∀(j:Nat) X Y,xs[j]? =some X->ys[j]? =some Y->Dn σ n X Y)->Dn σ (n+1) (.lst xs) (.lst ys)
 |ref {n:Nat} {a:Addr} {xs ys:List V}:At σ a (.list xs)->xs.length=ys.length->xs.length<=200->(∀(j:Nat) X Y,xs[j]? =some X->ys[j]? =some Y->Dn σ n X Y)->Dn σ (n+1) (.ref a) (.lst ys)
section
variable {C:Cx} {d:Nat} {σ σ':Sto} {Q:V->Sto->Prop} {v t:V} {n m:Nat}
theorem Dn.mono(h:Dn σ n v t)(k:∀a x,At σ a x->At σ' a x):Dn σ' n v t:=by
 induction h with
 |none=>exact .none
 |bool b=>exact .bool b
 |int i=>exact .int i
 |str x hx=>exact .str x hx
 |dict ha=>exact .dict (k _ _ ha)
 |tup a b _ ih=>exact .tup a b ih
 |lst a b _ ih=>exact .lst a b ih
 |ref ha a b _ ih=>exact .ref (k _ _ ha) a b ih
theorem Dn.up(h:Dn σ n v t):∀{m:Nat},n<=m->Dn σ m v t:=by
 induction h with
 |none=>intro m _;exact .none
 |bool b=>intro m _;exact .bool b
 |int i=>intro m _;exact .int i
 |str x hx=>intro m _;exact .str x hx
 |dict ha=>intro m _;exact .dict ha
 |tup a b _ ih=>intro m hm;obtain⟨m,rfl⟩:=Nat.exists_eq_add_of_le hm;rw[Nat.add_right_comm];exact .tup a b λj X Y h1 h2=>ih j X Y h1 h2 (Nat.le_add_right _ _)
 |lst a b _ ih=>intro m hm;obtain⟨m,rfl⟩:=Nat.exists_eq_add_of_le hm;rw[Nat.add_right_comm];exact .lst a b λj X Y h1 h2=>ih j X Y h1 h2 (Nat.le_add_right _ _)
 |ref ha a b _ ih=>intro m hm;obtain⟨m,rfl⟩:=Nat.exists_eq_add_of_le hm;rw[Nat.add_right_comm];exact .ref ha a b λj X Y h1 h2=>ih j X Y h1 h2 (Nat.le_add_right _ _)
theorem y09{xs ys:List V}(hl:xs.length=ys.length){j:Nat}{Y:V}(h:ys[j]? =some Y):∃X,xs[j]? =some X:=
 ⟨_,List.getElem?_eq_getElem (by rw[hl];exact(List.getElem?_eq_some_iff.mp h).1)⟩
theorem Dn.eq(h:Dn σ n v t):EqV C σ n v t:=by
 induction h with
 |none=>exact EqV.none.le
 |bool b=>exact EqV.bool.le
 |int i=>exact EqV.int.le
 |str x hx=>exact EqV.str.le
 |dict ha=>exact EqV.ref.le
 |tup a _ _ ih=>exact EqV.tup a ih
 |lst a _ _ ih=>exact EqV.list (.lst _) (.lst _) a ih
 |ref ha a _ _ ih=>obtain⟨o,ha⟩:=ha;exact EqV.list (.refL ha) (.lst _) a ih
theorem z7m(hs:z0N C)(h:Dn σ n v t)(hn:n<=60)(q:Q (.bool false) σ):AC2 C d (compareOp .NotEq) v t σ Q:=by
 cases h with
 |none=>exact z9t .none .none rfl rfl q
 |bool b=>exact z9t (.bool b) (.bool b) rfl rfl (by cases b<;>exact q)
 |int i=>exact y3d (by rw[decide_eq_true rfl];exact q)
 |str x hx=>exact y3F (by rw[show(x !=x)=false by simp];exact q)
 |dict ha=>exact y48 (KK.str C.prog C.w) (kvs:=[]) hs ha List.nodup_nil ha q
 |tup a _ h=>exact y4A a (λj X Y h1 h2=>(h j X Y h1 h2).eq) (by lia) q
 |lst a _ h=>exact y1C (.lst _) (.lst _) a (λj X Y h1 h2=>(h j X Y h1 h2).eq) (by lia) q
 |ref ha a _ h=>obtain⟨o,ha⟩:=ha;exact y1C (.refL ha) (.lst _) a (λj X Y h1 h2=>(h j X Y h1 h2).eq) (by lia) q
noncomputable def tkB(t:V)(k:TK):Bool:=match tkOf t with
 |some (some j)=>j.is k
 |some none=>false
 |none=>TK.dct.is k
theorem y2F{x:V}{P:Sto->Prop}(h:Has σ x (.dict []) P){k:TK}(q:Q (.bool (TK.dct.is k)) σ):KW C d (.bi "isinstance") [x,.type k.n] σ Q:=z7g h q
theorem z9D{x:V}{xs:List V}{P:Sto->Prop}(h:Has σ x (.list xs) P){k:TK}(q:Q (.bool (TK.lst.is k)) σ):KW C d (.bi "isinstance") [x,.type k.n] σ Q:=z8L h q
theorem y0l(h:Dn σ n v t){k:TK}(q:Q (.bool (tkB t k)) σ):KW C d (.bi "isinstance") [v,.type k.n] σ Q:=by
 cases h with
 |none=>exact z3A (b:=false) rfl q
 |bool b=>exact z3A rfl q
 |int i=>exact z3A rfl q
 |str x hx=>exact z3A rfl q
 |dict ha=>obtain⟨o,ha⟩:=ha;exact y2F (.refD ha) q
 |tup a _ h=>exact z3A rfl q
 |lst a _ h=>exact z3A rfl q
 |ref ha a _ h=>obtain⟨o,ha⟩:=ha;exact z9D (.refL ha) q
theorem Dn.tupI(h:Dn σ n v t):tkB t .tup=true->∃m xs ys,n=m+1/\v= .tup xs/\t= .tup ys/\xs.length=ys.length/\xs.length<=200/\∀(j:Nat) X Y,xs[j]? =some X->ys[j]? =some Y->Dn σ m X Y:=
 h.casesOn (motive:=λn v t _=>tkB t .tup=true->∃m xs ys,n=m+1/\v= .tup xs/\t= .tup ys/\xs.length=ys.length/\xs.length<=200/\∀(j:Nat) X Y,xs[j]? =some X->ys[j]? =some Y->Dn σ m X Y)
  (λk=>ff k) (λ_ k=>ff k) (λ_ k=>ff k) (λ_ _ k=>ff k) (λ_ k=>ff k) (λa b c _=>⟨_,_,_,rfl,rfl,rfl,a,b,c⟩) (λ_ _ _ k=>ff k) (λ_ _ _ _ k=>ff k)
theorem Dn.lstI(h:Dn σ n v t):tkB t .lst=true->∃m xs ys P,n=m+1/\Has σ v (.list xs) P/\t= .lst ys/\xs.length=ys.length/\xs.length<=200/\∀(j:Nat) X Y,xs[j]? =some X->ys[j]? =some Y->Dn σ m X Y:=
 h.casesOn (motive:=λn v t _=>tkB t .lst=true->∃m xs ys P,n=m+1/\Has σ v (.list xs) P/\t= .lst ys/\xs.length=ys.length/\xs.length<=200/\∀(j:Nat) X Y,xs[j]? =some X->ys[j]? =some Y->Dn σ m X Y)
  (λk=>ff k) (λ_ k=>ff k) (λ_ k=>ff k) (λ_ _ k=>ff k) (λ_ k=>ff k) (λ_ _ _ k=>ff k) (λa b c _=>⟨_,_,_,_,rfl,.lst _,rfl,a,b,c⟩) (λha b c e _=>by obtain⟨o,ha⟩:=ha;exact⟨_,_,_,_,rfl,.refL ha,rfl,b,c,e⟩)
theorem Dn.strI(h:Dn σ n v t):tkB t .str=true->∃x,v= .str x/\t= .str x/\Asc x:=
 h.casesOn (motive:=λ_ v t _=>tkB t .str=true->∃x,v= .str x/\t= .str x/\Asc x)
  (λk=>ff k) (λ_ k=>ff k) (λ_ k=>ff k) (λ_ hx _=>⟨_,rfl,rfl,hx⟩) (λ_ k=>ff k) (λ_ _ _ k=>ff k) (λ_ _ _ k=>ff k) (λ_ _ _ _ k=>ff k)
theorem Dn.intI(h:Dn σ n v t):tkB t .int=true->tkB t .bool=false->∃x,v= .int x/\t= .int x:=
 h.casesOn (motive:=λ_ v t _=>tkB t .int=true->tkB t .bool=false->∃x,v= .int x/\t= .int x)
  (λk _=>ff k) (λ_ _ k=>tf k) (λ_ _ _=>⟨_,rfl,rfl⟩) (λ_ _ k _=>ff k) (λ_ k _=>ff k) (λ_ _ _ k _=>ff k) (λ_ _ _ k _=>ff k) (λ_ _ _ _ k _=>ff k)
end
end
section
section
variable {C:Cx} {env:Env} {vars:List Str} {gl:List (Str×V)} {own:Bool} {d:Nat} {m:Loc} {σ:Sto} {Q:V->Sto->Prop}
noncomputable def isN:Value->Bool
 | .none=>true
 |_=>false
theorem y3s{w:World}{D:Gh}:∀{vs:List Value} {xs:List V},VRs w D vs xs->(∀X∈xs,X= .none∨∃l,X= .tup l)->vs.any isN=xs.any V.isNone:=λ{vs}=>by
 induction vs with
 |nil=>intro xs h _;cases h;rfl
 |cons v vs ih=>
  intro xs h hk
  cases h with
  | @cons _ X _ xs a b=>
   rw[List.any_cons,List.any_cons,ih b λX hX=>hk X (.tail _ hX)]
   congr 1
   rcases hk _ (.head _) with rfl|⟨l,rfl⟩
   ·rw[a.noneI];rfl
   ·obtain⟨_,_,_,_,rfl,_⟩:=a.tupI;rfl
theorem z72{x:V}{xs:List V}{P:Sto->Prop}(h:Has σ x (.list xs) P)(hk:∀X∈xs,X= .none∨∃l,X= .tup l)(q:Q (.bool (xs.any V.isNone)) σ):AC2 C d (compareOp .In) .none x σ Q:=λA G D s v u hA R hv hu=>by
 apply Has.isListE h R hu;intro a ws n ho hr
 rw[hv.noneI]
 refine SeqAt.in_listAt isN ⟨_,ho,rfl,n,rfl⟩ (λy hy=> ?_) (PostC.now R (.bool _) ?_)
 ·obtain⟨j,hj,rfl⟩:=Array.mem_iff_getElem.mp hy
  obtain⟨X,eX,rX⟩:=hr.get' (i:=j) (u:=ws[j]) (by rw[Array.getElem?_toList];exact Array.getElem?_eq_getElem hj)
  rcases hk X (List.mem_of_getElem? eX) with rfl|⟨l,rfl⟩
  ·rw[rX.noneI];exact .same _
  ·obtain⟨b,us,e,_,hT,_⟩:=VR.isT R rX
   rw[e]
   exact SeqAt.EqAt.tuple_none hT (z5A hA (n:=1) (by decide))
 ·rw[<-Array.any_toList,y3s hr hk];exact q
noncomputable def y3N(k:Int):Value->Bool
 | .int i _=>i==k
 |_=>false
end
end
section
noncomputable abbrev fa(l:List Env):List Addr:=l.filterMap (·.frame)
structure ExcAt(h:Heap)(a T:Addr)(c fl:Value):Prop where
 ne:T≠a
 ex:∃oe vs,h.get? a=some oe/\oe.cls=c/\oe.data= .fields vs/\vs[1]? =some (.ref T)/\vs[2]? =some .none
 tr:∃oT ts,h.get? T=some oT/\oT.data= .fields ts/\ts[3]? =some fl
structure Moved(fs xs:List Addr)(h h':Heap):Prop where
 keep:∀b o,h.get? b=some o->b∉fs->b∉xs->h'.get? b=some o
 slot:∀b o,b∈fs->h.get? b=some o->∃sl,h'.get? b=some {o with slots:=sl}
section
variable {M:Model} {A:Around} {E:Value->Shared->Prop} {s:Shared} {env:Env} {outer:List Env} {L a T:Addr} {c:Value} {Q:Unit->Shared->Prop}
noncomputable def Frs(h:Heap)(l:List Env):Prop:=h.FunFrames {objs:= #[]} l
theorem Frs.at{h:Heap}{l:List Env}(hl:Frs h l){b:Addr}(hb:b∈fa l):∃o,h.get? b=some o/\∀vs,o.data≠ .fields vs:=(hl.mem hb).2
theorem z49{h:Heap}{l:List Env}(hl:Frs h l){b:Addr}{o:Obj}{vs:Array Value}(e:h.get? b=some o)(hd:o.data= .fields vs):b∉fa l:=λhm=>by
 obtain⟨o',h1,h2⟩:=hl.at hm
 rw[e] at h1;exact h2 vs (Option.some.inj h1▸hd)
theorem z7j{h:Heap}{b:Addr}{o:Obj}{vs:Array Value}(e:h.get? b=some o)(hd:o.data= .fields vs)(i:Nat)(v:Value):
  ∃o',(h.update b (Obj.mapFields (·.setIfInBounds i v))).get? b=some o'/\o'.cls=o.cls/\o'.data= .fields (vs.setIfInBounds i v):=
 ⟨_,Heap.get?_update_self _ e (Obj.isFreed_of_fields (Obj.data_mapFields hd _)),Obj.cls_mapFields _ _,Obj.data_mapFields hd _⟩
theorem z6u{oe:Obj}{vs:Array Value}{head:Value}{hn:Bool}(hfr:A.frames=some (env::outer))(hl:Frs s.heap (env::outer))(hf:env.frame=some L)(he:s.heap.get? a=some oe)(hd:oe.data= .fields vs)(hz:1<vs.size)(h2:vs[2]? =some .none)
  (hQ:∀h' T',ExcAt h' a T' oe.cls (rawInt L)->s.heap.get? T'=none->Moved (fa (env::outer)) [a] s.heap h'->Q () {s with heap:=h'}):
  wpAny M A (do let f <-frameOf env;let pl <-entryPlaceOf L hn;let b <-EntryCells.newEntry head f .none (rawInt L) .none pl;setField (.ref a) 1 b) Q E s:=by
 have hna:=z49 hl he hd
 refine wpAny_bind (wpAny_frameOf_fun hfr hl hf λh₁ x₁=>wpAny_bind (wpAny_entryPlaceOf λpl hpl=> ?_))
 unfold EntryCells.newEntry newFields
 refine wpAny_bind (wpAny_newObj_type ?_ (hpl.sizeOk5 _ _ _ _ _))
 generalize hE:([head,.ref L,.none,rawInt L,.none]++(if pl.isEmpty then List.replicate 6 Value.none else pl)).toArray=es
 have e3:es[3]? =some (rawInt L):=by subst hE;simp
 have e1:h₁.get? a=some oe:=(x₁.2.1 a hna).trans he
 have hTa:h₁.objs.size≠a:=Nat.ne_of_gt (Heap.lt_size e1)
 have e2:=Heap.get?_push_of_some (h:=h₁) {cls:= .type "traceback",dict:=none,data:= .fields es} e1
 refine wpAny_setField e2 hd hz ?_
 obtain⟨o',k1,k2,k3⟩:=z7j e2 hd 1 (.ref h₁.objs.size)
 refine hQ _ h₁.objs.size ⟨hTa,⟨o',_,k1,k2,k3,by simp[hz],by rw[Array.getElem?_setIfInBounds_ne (by decide)];exact h2⟩,⟨{cls:= .type "traceback",dict:=none,data:= .fields es},es,?_,rfl,e3⟩⟩ ?_ ⟨λb o e n n'=> ?_,λb o m e=> ?_⟩
 ·rw[Heap.get?_update_other _ _ (Ne.symm hTa)];exact Heap.get?_push_size h₁ rfl
 ·refine Option.eq_none_iff_forall_not_mem.mpr λo e=> ?_
  have:=Heap.lt_size (show s.heap.get? h₁.objs.size=some o from e)
  rw[x₁.1] at this;exact Nat.lt_irrefl _ this
 ·have hab:a≠b:=λq=>n' (by rw[q];exact .head _)
  rw[Heap.get?_update_other _ _ hab]
  exact Heap.get?_push_of_some _ ((x₁.2.1 b n).trans e)
 ·obtain⟨sl,e'⟩:=x₁.2.2 b o e
  have hab:a≠b:=λq=>hna (by rw[q];exact m)
  exact⟨sl,by rw[Heap.get?_update_other _ _ hab];exact Heap.get?_push_of_some _ e'⟩
theorem y0K{oe:Obj}{vs:Array Value}(hfr:A.frames=some (env::outer))(hl:Frs s.heap (env::outer))(hf:env.frame=some L)(he:s.heap.get? a=some oe)(hd:oe.data= .fields vs)(h1:vs[1]? =some .none)(h2:vs[2]? =some .none)
  (hQ:∀h' T',ExcAt h' a T' oe.cls (rawInt L)->s.heap.get? T'=none->Moved (fa (env::outer)) [a] s.heap h'->Q () {s with heap:=h'}):wpAny M A (noteFrame (.ref a) env) Q E s:=by
 unfold noteFrame
 simp only[hf]
 refine wpAny_bind (wpAny_field he hd h1 ?_)
 rw[if_neg (by decide)]
 exact z6u hfr hl hf he hd (Array.getElem?_eq_some_iff.mp h1).1 h2 hQ
theorem y3p(hfr:A.frames=some (env::outer))(hl:Frs s.heap (env::outer))(hf:env.frame=some L)(x:ExcAt s.heap a T c .none)
  (hQ:∀h' T',ExcAt h' a T' c (rawInt L)->s.heap.get? T'=none->Moved (fa (env::outer)) [a,T] s.heap h'->Q () {s with heap:=h'}):wpAny M A (noteFrame (.ref a) env) Q E s:=by
 obtain⟨hne,⟨oe,vs,he,hc,hd,h1,h2⟩,⟨oT,ts,hT,hdT,h3⟩⟩:=x
 subst hc
 unfold noteFrame
 simp only[hf]
 refine wpAny_bind (wpAny_field he hd h1 ?_)
 rw[if_pos (show(Value.ref T !=Value.none)=true from by simp)]
 refine wpAny_bind (wpAny_field hT hdT h3 ?_)
 rw[if_neg (show¬((Value.none==rawInt L)=true) from by simp[rawInt])]
 refine wpAny_bind (wpAny_setField hT hdT (Array.getElem?_eq_some_iff.mp h3).1 ?_)
 have hnT:=z49 hl hT hdT
 have oth:∀b,b≠T->(s.heap.update T (Obj.mapFields (·.setIfInBounds 3 Value.none))).get? b=s.heap.get? b:=λb hb=>Heap.get?_update_other _ _ (Ne.symm hb)
 refine z6u (s:={s with heap:=s.heap.update T (Obj.mapFields (·.setIfInBounds 3 Value.none))}) hfr (hl.of_keeps λb o e hn=>⟨o,(oth b λq=>hn ts (by rw[q,hT] at e;exact Option.some.inj e▸hdT)).trans e,rfl⟩) hf ((oth a (Ne.symm hne)).trans he) hd (Array.getElem?_eq_some_iff.mp h1).1 h2 λh' T' x' hn mv=>hQ h' T' x' ?_ ⟨λb o e n n'=> ?_,λb o m e=> ?_⟩
 ·by_cases q:T'=T
  ·obtain⟨o',k,_⟩:=z7j hT hdT 3 .none
   have hn:(s.heap.update T (Obj.mapFields (·.setIfInBounds 3 Value.none))).get? T'=none:=hn
   rw[q,k] at hn;cases hn
  ·exact(oth T' q).symm.trans hn
 ·exact mv.keep b o ((oth b λq=>n' (q▸ .tail _ (.head _))).trans e) n λm=>n' (List.mem_singleton.mp m▸ .head _)
 ·exact mv.slot b o m ((oth b λq=>hnT (q▸m)).trans e)
theorem z8K{fl:Value}{l:List Env}(hl:Frs s.heap l)(x:ExcAt s.heap a T c fl)(hQ:∀h',ExcAt h' a T c .none->Moved (fa l) [T] s.heap h'->Q () {s with heap:=h'}):wpAny M A (setFlight (.ref a) none) Q E s:=by
 obtain⟨hne,⟨oe,vs,he,hc,hd,h1,h2⟩,⟨oT,ts,hT,hdT,h3⟩⟩:=x
 unfold setFlight
 refine wpAny_bind (wpAny_field he hd h1 ?_)
 rw[if_pos (show(Value.ref T !=Value.none)=true from by simp)]
 have hz:=(Array.getElem?_eq_some_iff.mp h3).1
 refine wpAny_setField hT hdT hz ?_
 have hnT:=z49 hl hT hdT
 obtain⟨o',k1,k2,k3⟩:=z7j hT hdT 3 ((none:Option Addr).elim Value.none λf=>rawInt f)
 refine hQ _ ⟨hne,⟨oe,vs,(Heap.get?_update_other _ _ hne).trans he,hc,hd,h1,h2⟩,⟨o',_,k1,k3,by simp[hz]⟩⟩ ⟨λb o e n n'=> ?_,λb o m e=>⟨o.slots,?_⟩⟩
 ·have hab:T≠b:=λq=>n' (by rw[q];exact .head _)
  rw[Heap.get?_update_other _ _ hab];exact e
 ·have hab:T≠b:=λq=>hnT (by rw[q];exact m)
  rw[Heap.get?_update_other _ _ hab];exact e
end
end
section
structure FrA(C:Cx)(A:Around)(G D:Gh)(l:List Env):Prop where
 fr:A.frames=some l
 ok:∀env∈l,env.scope.kind≠ .module/\∃L o,env.frame=some L/\G L=some o/\frk o/\(∃es n,o.data= .dict es n)/\D L=none/\C.base.get? L=none
noncomputable def Nob(G D:Gh)(σ:Sto)(a:Addr):Prop:=G a=none/\D a=none/\a∉foot σ
inductive Fly(C:Cx)(c:Value)(G D:Gh)(σ:Sto)(e:Value)(s:Shared):Prop
 |mk (a T:Addr) (D':Gh):e= .ref a->DX G D D'->RelC C G D' σ s->ExcAt s.heap a T c .none->Nob G D' σ a->Nob G D' σ T->Fly C c G D σ e s
inductive Exc(h:Heap)(a:Addr)(c:Value)(L:Addr)(P:Addr->Prop):Prop
 |new (oe:Obj) (vs:Array Value):h.get? a=some oe->oe.cls=c->oe.data= .fields vs->vs[1]? =some .none->vs[2]? =some .none->Exc h a c L P
 |on (T:Addr) (fl:Value):ExcAt h a T c fl->(fl= .none∨fl=rawInt L)->P T->Exc h a c L P
inductive FlyF(C:Cx)(env:Env)(vars:List Str)(gl:List (Str×V))(G D:Gh)(EQ:Value->Sto->Prop)(e:Value)(s:Shared):Prop
 |mk (a:Addr) (D':Gh) (m:Loc) (τ:Sto) (c:Value):e= .ref a->DX G D D'->RelF C env vars gl true G D' m τ s->Nob G D' τ a->Exc s.heap a c env.locals (Nob G D' τ)->EQ c τ->FlyF C env vars gl G D EQ e s
inductive FlyN(C:Cx)(env:Env)(vars:List Str)(gl:List (Str×V))(G D:Gh)(EQ:Value->Sto->Prop)(fl e:Value)(s:Shared):Prop
 |mk (a T:Addr) (D':Gh) (m:Loc) (τ:Sto) (c:Value):e= .ref a->DX G D D'->RelF C env vars gl true G D' m τ s->Nob G D' τ a->ExcAt s.heap a T c fl->Nob G D' τ T->EQ c τ->FlyN C env vars gl G D EQ fl e s
structure Up(C:Cx)(env:Env)(A:Around)(G Gc D:Gh)(l:List Env):Prop where
 F:FrA C A G D l
 M:∀b o,G b=some o->frk o->Gc b=some o
 GG:∀b o,G b=some o->∃o',Gc b=some o'/\Eqs o o'
 B:∀b o,C.base.get? b=some o->G b=some o
 f:env.frame=some env.locals
noncomputable def CE(C:Cx)(d:Nat)(f:Value)(xs:List V)(σ:Sto)(Q:V->Sto->Prop)(EQ:Value->Sto->Prop):Prop:=
 ∀A G D s vs l,AOk C A d->FrA C A G D l->RelC C G D σ s->VRs C.w D vs xs->codeAny C.M A (.call f ⟨vs,[]⟩) (λr s'=>match r with
  | .ok (.ret v)=>PostC C G D Q v s'
  | .error e=>∃c τ,EQ c τ/\Fly C c G D τ e s'
  |_=>False) s
noncomputable def SE(C:Cx)(env:Env)(vars:List Str)(gl:List (Str×V))(d:Nat)(t:Sem Flow)(m:Loc)(σ:Sto)(Q:Fl->Loc->Sto->Prop)(EQ:Value->Sto->Prop):Prop:=
 ∀A G Gc D s l,AOk C (A.deeper env) d->Up C env A G Gc D l->RelF C env vars gl true Gc D m σ s->wpAny C.M (A.deeper env) t (PostS C env vars gl true Gc D Q) (FlyF C env vars gl Gc D EQ) s
noncomputable def TE(C:Cx)(env:Env)(vars:List Str)(gl:List (Str×V))(d:Nat)(t:Sem Value)(m:Loc)(σ:Sto)(Q:V->Sto->Prop)(EQ:Value->Sto->Prop):Prop:=
 ∀A G Gc D s l,AOk C (A.deeper env) d->Up C env A G Gc D l->RelF C env vars gl true Gc D m σ s->wpAny C.M (A.deeper env) t (PostE C env vars gl true Gc D m Q) (FlyF C env vars gl Gc D EQ) s
noncomputable def LE(C:Cx)(env:Env)(vars:List Str)(gl:List (Str×V))(d:Nat)(t:Sem (List Value))(m:Loc)(σ:Sto)(Q:List V->Sto->Prop)(EQ:Value->Sto->Prop):Prop:=
 ∀A G Gc D s l,AOk C (A.deeper env) d->Up C env A G Gc D l->RelF C env vars gl true Gc D m σ s->wpAny C.M (A.deeper env) t (PostL C env vars gl true Gc D m Q) (FlyF C env vars gl Gc D EQ) s
section
variable {C:Cx} {env:Env} {vars:List Str} {gl:List (Str×V)} {own:Bool} {G Gc D D' D₁:Gh} {m:Loc} {σ τ:Sto} {s s':Shared} {A:Around} {l:List Env} {c fl e:Value} {d:Nat} {EQ:Value->Sto->Prop}
theorem y4a{b:Addr}(h:b∈fa l):∃env∈l,env.frame=some b:=List.mem_filterMap.mp h
theorem FrA.at(F:FrA C A G D l){b:Addr}(h:b∈fa l):∃o,G b=some o/\frk o/\(∃es n,o.data= .dict es n)/\D b=none/\C.base.get? b=none:=by
 obtain⟨env,he,hf⟩:=y4a h
 obtain⟨_,L,o,h1,h2⟩:=F.ok env he
 rw[hf] at h1
 rw[Option.some.inj h1];exact⟨o,h2⟩
theorem FrA.dx(F:FrA C A G D l)(h:DX G D D'):FrA C A G D' l:=⟨F.fr,λenv he=>by
 obtain⟨a,L,o,h1,h2,h3,h4,h5,h6⟩:=F.ok env he
 exact⟨a,L,o,h1,h2,h3,h4,h.off L h5 (by rw[h2];exact nofun),h6⟩⟩
theorem dxG(hG:∀b o,G b=some o->∃o',Gc b=some o'/\Eqs o o')(a:DX Gc D D'):DX G D D':=a.less λb g=>by
 cases q:G b with
 |none=>exact absurd q g
 |some o=>obtain⟨o1,h1,_⟩:=hG b o q;rw[h1];exact nofun
theorem Up.dx(U:Up C env A G Gc D l)(h:DX Gc D D'):Up C env A G Gc D' l:=⟨U.F.dx (dxG U.GG h),U.M,U.GG,U.B,U.f⟩
theorem Up.fr(U:Up C env A G Gc D l):(A.deeper env).frames=some (env::l):=by show A.frames.map _=_;rw[U.F.fr];rfl
theorem RelC.known(R:RelC C G D σ s){b:Addr}(h:¬Nob G D σ b):∃o,s.heap.get? b=some o:=by
 refine Classical.byContradiction λn=>h ⟨?_,?_,λhf=>n (R.footLives hf)⟩
 ·exact R.noG λo e=>n ⟨o,e⟩
 ·exact Option.eq_none_iff_forall_not_mem.mpr λo e=>n ⟨o,R.d b o e⟩
theorem Nob.dead(R:RelC C G D σ s){b:Addr}(h:s.heap.get? b=none):Nob G D σ b:=Classical.byContradiction λn=>by
 obtain⟨o,e⟩:=R.known n
 exact nomatch h.symm.trans e
theorem RelC.moved{fs xs:List Addr}{h':Heap}(R:RelC C G D σ s)(mv:Moved fs xs s.heap h')(hfs:∀b∈fs,D b=none/\b∉foot σ/\C.base.get? b=none/\∀o,G b=some o->frk o)(hxs:∀b∈xs,Nob G D σ b):RelC C G D σ {s with heap:=h'} where
 same:=let⟨h,tk,e⟩:=R.same;⟨h',tk,by rw[e]⟩
 bs:=λb o e=>mv.keep b o (R.bs b o e) (λm=>nomatch (hfs b m).2.2.1.symm.trans e) λm=>nomatch (hxs b m).1.symm.trans (R.base b o e)
 g:=λb o e=>by
  obtain⟨o',h1,q⟩:=R.g b o e
  by_cases m:b∈fs
  ·obtain⟨sl,h2⟩:=mv.slot b o' m h1
   exact⟨_,h2,q.1,λhn=>absurd ((hfs b m).2.2.2 o e) hn⟩
  ·exact⟨o',mv.keep b o' h1 m (λm=>nomatch (hxs b m).1.symm.trans e),q⟩
 d:=λb o e=>mv.keep b o (R.d b o e) (λm=>nomatch (hfs b m).1.symm.trans e) λm=>nomatch (hxs b m).2.1.symm.trans e
 base:=R.base
 nd:=R.nd
 offG:=R.offG
 offD:=R.offD
 pl:=λp hp=>(R.pl p hp).at λb hb ob e=>have hf:=z2q (a:=p.1) (ob:=p.2.1) (o:=p.2.2) hp b hb;mv.keep b ob e (λm=>(hfs b m).2.1 hf) λm=>(hxs b m).2.2 hf
 sto:=R.sto
theorem FrA.frs(F:FrA C A G D l)(R:RelC C G D σ s):Frs s.heap l:=by
 have key:∀l',(∀e∈l',e∈l)->Frs s.heap l':=by
  intro l'
  induction l' with
  |nil=>exactλ_=>trivial
  |cons e r ih=>
   intro hs
   obtain⟨a,L,o,h1,h2,h3,⟨es,n,h4⟩,h5,h6⟩:=F.ok e (hs e (.head _))
   obtain⟨o',k1,k2⟩:=R.g L o h2
   exact⟨a,⟨L,o',h1,rfl,k1,λvs q=>nomatch (k2.1.symm.trans q).symm.trans h4⟩,ih λx hx=>hs x (.tail _ hx)⟩
 exact key l λ_ h=>h
theorem Up.push(U:Up C env A G Gc D l)(R:RelF C env vars gl true Gc D m σ s):FrA C (A.deeper env) (z2l env vars Gc s) D (env::l) where
 fr:=U.fr
 ok:=λe he=>by
  rcases List.mem_cons.mp he with rfl|he
  ·obtain⟨mm,⟨o,es,ep,ho,hd,_⟩,_⟩:=R.ns
   refine⟨by rw[R.ok.fn];exact nofun,e.locals,mkF o,U.f,by rw[lift_loc,ho];rfl,rfl,⟨es,ep,hd⟩,R.offL.2.1,?_⟩
   cases q:C.base.get? e.locals with
   |none=>rfl
   |some o'=>exact nomatch R.offL.1.symm.trans (R.base _ _ q)
  ·obtain⟨a,L,o,h1,h2,h3,h4,h5,h6⟩:=U.F.ok e he
   have hL:=U.M L o h2 h3
   refine⟨a,L,o,h1,?_,h3,h4,h5,h6⟩
   rw[z1R];exact hL
   rintro (q|⟨i,x,e1,e2,e3⟩)
   ·rw[q] at hL;exact nomatch R.offL.1.symm.trans hL
   ·exact nomatch ((R.cl i x L e1 e2 e3).2.2.1).symm.trans hL
theorem Up.frs(U:Up C env A G Gc D l)(R:RelF C env vars gl true Gc D m σ s):Frs s.heap (env::l):=(U.push R).frs R.lifted
theorem z69(U:Up C env A G Gc D l):fa (env::l)=env.locals::fa l:=by show List.filterMap _ (env::l)=_;rw[List.filterMap_cons,U.f]
theorem RelF.moved{xs:List Addr}{h':Heap}(U:Up C env A G Gc D l)(R:RelF C env vars gl true Gc D m σ s)(mv:Moved (fa (env::l)) xs s.heap h')(hxs:∀b∈xs,Nob Gc D σ b)(hd:∀b∈xs,∃o vs,s.heap.get? b=some o/\o.data= .fields vs):RelF C env vars gl true Gc D m σ {s with heap:=h'} where
 toRelC:=R.toRelC.moved mv (λb hb=>by
  rw[z69 U] at hb
  rcases List.mem_cons.mp hb with rfl|hb
  ·refine⟨R.offL.2.1,R.offL.2.2,?_,λo e=>nomatch R.offL.1.symm.trans e⟩
   cases q:C.base.get? env.locals with
   |none=>rfl
   |some o'=>exact nomatch R.offL.1.symm.trans (R.base _ _ q)
  ·obtain⟨o,h1,h2,h3,h4,h5⟩:=U.F.at hb
   refine⟨h4,(λq=>nomatch (R.offG b q).symm.trans (U.M b o h1 h2)),h5,λo' e=> ?_⟩
   rw[U.M b o h1 h2] at e;exact Option.some.inj e▸h2) hxs
 ok:=R.ok
 offL:=R.offL
 ns:=by
  obtain⟨mm,⟨o,es,ep,ho,hr⟩,h⟩:=R.ns
  obtain⟨sl,e⟩:=mv.slot _ _ (by rw[z69 U];exact .head _) ho
  exact⟨mm,⟨_,es,ep,e,hr⟩,h⟩
 cl:=λi x c h1 h2 h3=>by
  obtain⟨q1,⟨ov,⟨o,ho,hdt⟩,q2⟩,q3⟩:=R.cl i x c h1 h2 h3
  refine⟨q1,⟨ov,⟨o,mv.keep c o ho (λhm=> ?_) λhm=> ?_,hdt⟩,q2⟩,q3⟩
  ·rw[z69 U] at hm
   rcases List.mem_cons.mp hm with e|hm
   ·exact q1 e
   ·obtain⟨o,k1,k2,_⟩:=U.F.at hm
    exact nomatch q3.1.symm.trans (U.M _ _ k1 k2)
  ·obtain⟨o',vs,k1,k2⟩:=hd c hm
   rw[ho] at k1
   rw[Option.some.inj k1] at hdt
   exact nomatch hdt.symm.trans k2
theorem FlyF.note{E:Value->Shared->Prop}(U:Up C env A G Gc D l)(f:FlyF C env vars gl Gc D EQ e s):wpAny C.M (A.deeper env) (noteFrame e env) (λ_ s'=>FlyN C env vars gl Gc D EQ (rawInt env.locals) e s') E s:=by
 obtain⟨a,D',m,τ,c,rfl,dx,R,na,x,hq⟩:=f
 have U':=U.dx dx
 have hl:=U'.frs R
 cases x with
 |new oe vs h1 h2 h3 h4 h5=>
  refine y0K U.fr hl U.f h1 h3 h4 h5 λh' T' x' hn mv=> ?_
  have R':=R.moved U' mv (λb hb=>by rw[List.mem_singleton.mp hb];exact na) λb hb=>by rw[List.mem_singleton.mp hb];exact⟨_,_,h1,h3⟩
  exact⟨a,T',D',m,τ,c,rfl,dx,R',na,h2▸x',Nob.dead R.toRelC hn,hq⟩
 |on T fl h1 h2 h3=>
  rcases h2 with rfl|rfl
  ·obtain⟨oe,vs,g1,g2,g3,_⟩:=h1.ex
   obtain⟨oT,ts,g4,g5,_⟩:=h1.tr
   refine y3p U.fr hl U.f h1 λh' T' x' hn mv=> ?_
   have R':=R.moved U' mv (λb hb=>by
    rcases List.mem_cons.mp hb with rfl|hb
    ·exact na
    ·rw[List.mem_singleton.mp hb];exact h3) λb hb=>by
    rcases List.mem_cons.mp hb with rfl|hb
    ·exact⟨_,_,g1,g3⟩
    ·rw[List.mem_singleton.mp hb];exact⟨_,_,g4,g5⟩
   exact⟨a,T',D',m,τ,c,rfl,dx,R',na,x',Nob.dead R.toRelC hn,hq⟩
  ·obtain⟨oe,vs,g1,g2,g3,g6,_⟩:=h1.ex
   obtain⟨oT,ts,g4,g5,g7⟩:=h1.tr
   unfold noteFrame
   simp only[U.f]
   refine wpAny_bind (wpAny_field g1 g3 g6 ?_)
   rw[if_pos (show(Value.ref T !=Value.none)=true from by simp)]
   refine wpAny_bind (wpAny_field g4 g5 g7 ?_)
   rw[if_pos (show(rawInt env.locals==rawInt env.locals)=true from by simp)]
   exact wpAny_pure ⟨a,T,D',m,τ,c,rfl,dx,R,na,h1,h3,hq⟩
theorem FlyN.off{A':Around}{E:Value->Shared->Prop}(U:Up C env A G Gc D l)(f:FlyN C env vars gl Gc D EQ fl e s):wpAny C.M A' (setFlight e none) (λ_ s'=>FlyN C env vars gl Gc D EQ .none e s') E s:=by
 obtain⟨a,T,D',m,τ,c,rfl,dx,R,na,x,nT,hq⟩:=f
 obtain⟨oT,ts,g4,g5,_⟩:=x.tr
 refine z8K ((U.dx dx).frs R) x λh' x' mv=> ?_
 exact⟨a,T,D',m,τ,c,rfl,dx,R.moved (U.dx dx) mv (λb hb=>by rw[List.mem_singleton.mp hb];exact nT) (λb hb=>by rw[List.mem_singleton.mp hb];exact⟨_,_,g4,g5⟩),na,x',nT,hq⟩
theorem RelF.out(R:RelF C env vars gl own Gc D m σ s)(hG:∀b o,G b=some o->∃o',Gc b=some o'/\Eqs o o')(hb:∀b o,C.base.get? b=some o->G b=some o):RelC C G D σ s where
 same:=R.same
 bs:=R.bs
 g:=λb o e=>by
  obtain⟨o1,h1,q1⟩:=hG b o e
  obtain⟨o2,h2,q2⟩:=R.g b o1 h1
  exact⟨o2,h2,q1.trans q2⟩
 d:=R.d
 base:=hb
 nd:=R.nd
 offG:=λb h=>by
  cases e:G b with
  |none=>rfl
  |some o=>obtain⟨o1,h1,_⟩:=hG b o e;exact nomatch (R.offG b h).symm.trans h1
 offD:=R.offD
 pl:=R.pl
 sto:=R.sto
theorem Nob.less(hG:∀b o,G b=some o->∃o',Gc b=some o'/\Eqs o o'){a:Addr}(h:Nob Gc D σ a):Nob G D σ a:=⟨by
 cases e:G a with
 |none=>rfl
 |some o=>obtain⟨o1,h1,_⟩:=hG a o e;exact(nomatch h.1.symm.trans h1),h.2⟩
theorem FlyF.leave{E:Value->Shared->Prop}(U:Up C env A G Gc D l)(f:FlyF C env vars gl Gc D EQ e s):wpAny C.M (A.deeper env) (leaving env e) (λ_ s'=>∃c τ,EQ c τ/\Fly C c G D τ e s') E s:=by
 unfold leaving
 refine wpAny_bind (wpAny_mono (f.note U) (λ_ s₁ f₁=>wpAny_mono (f₁.off U) (λ_ s₂ f₂=> ?_) λ_ _ e=>e) λ_ _ e=>e)
 obtain⟨a,T,D',m,τ,c,rfl,dx,R,na,x,nT,hq⟩:=f₂
 exact⟨c,τ,hq,a,T,D',rfl,dxG U.GG dx,R.out U.GG U.B,x,na.less U.GG,nT.less U.GG⟩
theorem Fly.here{D₀:Gh}{σ₀:Sto}{s₀:Shared}(R:RelF C env vars gl true Gc D₀ m σ₀ s₀)(dx:DX Gc D D₀)(f:Fly C c (z2l env vars Gc s₀) D₀ τ e s)(hq:EQ c τ):FlyF C env vars gl Gc D EQ e s:=by
 obtain⟨a,T,D',rfl,dx',RC,x,na,nT⟩:=f
 exact⟨a,D',m,τ,c,rfl,dx.trans (R.dx dx'),R.back RC dx',na.less λb o e=>R.over e,.on T .none x (.inl rfl) (nT.less λb o e=>R.over e),hq⟩
theorem FlyF.weak(dx:DX Gc D D₁)(f:FlyF C env vars gl Gc D₁ EQ e s):FlyF C env vars gl Gc D EQ e s:=by
 obtain⟨a,D',m,τ,c,rfl,dx',R,na,x,hq⟩:=f
 exact⟨a,D',m,τ,c,rfl,dx.trans dx',R,na,x,hq⟩
theorem z7R{a b:Sto}(h:a.Sublist b):(foot a).Sublist (foot b):=by
 induction h with
 |slnil=>exact .slnil
 |cons p _ ih=>obtain⟨c,o,x⟩:=p;exact ih.trans (List.sublist_append_right _ _)
 |cons_cons p _ ih=>obtain⟨c,o,x⟩:=p;exact List.Sublist.append (List.Sublist.refl _) ih
theorem Fly.drop(f:Fly C c G D σ e s)(h:τ.Sublist σ):Fly C c G D τ e s:=by
 obtain⟨a,T,D',rfl,dx,RC,x,na,nT⟩:=f
 exact⟨a,T,D',rfl,dx,RC.drop h,x,⟨na.1,na.2.1,λq=>na.2.2 ((z7R h).subset q)⟩,nT.1,nT.2.1,λq=>nT.2.2 ((z7R h).subset q)⟩
end
end
section
section
variable {C:Cx} {env:Env} {vars:List Str} {gl:List (Str×V)} {m:Loc} {σ:Sto} {d:Nat} {Q:Fl->Loc->Sto->Prop} {P:V->Sto->Prop} {EQ:Value->Sto->Prop}
theorem z2u{t:Sem Flow}(h:AS C env vars gl true d t m σ Q):SE C env vars gl d t m σ Q EQ:=λA G Gc D s l hA U R=>wpAny_mono (h _ Gc D s hA R) (λ_ _ q=>q) λ_ _ q=>q.elim
theorem z1V{t:Sem Value}(h:AT C env vars gl true d t m σ P):TE C env vars gl d t m σ P EQ:=λA G Gc D s l hA U R=>wpAny_mono (h _ Gc D s hA R) (λ_ _ q=>q) λ_ _ q=>q.elim
noncomputable def y1G(C:Cx)(env:Env)(vars:List Str)(gl:List (Str×V))(d:Nat)(rest:List Stmt)(Q:Fl->Loc->Sto->Prop)(EQ:Value->Sto->Prop):Fl->Loc->Sto->Prop
 | .next,m,σ=>SE C env vars gl d (execs rest env) m σ Q EQ
 |f,m,σ=>Q f m σ
theorem z0F(q:Q .next m σ):SE C env vars gl d (execs [] env) m σ Q EQ:=z2u (z8c q)
theorem z0k{st:Stmt}{rest:List Stmt}(h:SE C env vars gl d (exec st env) m σ (y1G C env vars gl d rest Q EQ) EQ):SE C env vars gl d (execs (st::rest) env) m σ Q EQ:=λA G Gc D s l hA U R=>by
 refine wpAny_execs_cons (wpAny_mono (h A G Gc D s l hA U R) (λf s' q=> ?_) λ_ _ q=>q)
 obtain⟨fl,m',D',σ',a,b,c,e⟩:=q
 cases f<;>cases fl<;>first|exact b.elim|skip
 ·exact wpAny_mono (e A G Gc D' s' l hA (U.dx a) c) (λ_ _ q=>q.weak a) λ_ _ q=>q.weak a
 ·exact⟨.brk,m',D',σ',a,b,c,e⟩
 ·exact⟨.cont,m',D',σ',a,b,c,e⟩
 ·exact⟨.ret _,m',D',σ',a,b,c,e⟩
theorem z1Z{t:Expr}{b o:List Stmt}{p:Pos}(h:AB C env vars gl true d (isTrue t env (eval t env)) m σ λv σ₁=>(v=true->SE C env vars gl d (execs b env) m σ₁ Q EQ)/\(v=false->SE C env vars gl d (execs o env) m σ₁ Q EQ)):SE C env vars gl d (exec (.If t b o p) env) m σ Q EQ:=λA G Gc D s l hA U R=>
 wpAny_If (wpAny_mono (h _ Gc D s hA R) (λv s₁ q=>by
  obtain⟨D',σ',a,R',q⟩:=q
  cases v with
  |true=>exact wpAny_mono (q.1 rfl A G Gc D' s₁ l hA (U.dx a) R') (λ_ _ q=>q.weak a) λ_ _ q=>q.weak a
  |false=>exact wpAny_mono (q.2 rfl A G Gc D' s₁ l hA (U.dx a) R') (λ_ _ q=>q.weak a) λ_ _ q=>q.weak a) λ_ _ e=>e.elim)
theorem z1X{e:Expr}{p:Pos}(h:TE C env vars gl d (eval e env) m σ (λX σ₁=>Q (.ret X) m σ₁) EQ):SE C env vars gl d (exec (.Return (some e) p) env) m σ Q EQ:=λA G Gc D s l hA U R=>
 wpAny_Return_some (wpAny_mono (h A G Gc D s l hA U R) (λv s₁ q=>by obtain⟨X,D₁,σ₁,a,b,c,q⟩:=q;exact⟨.ret X,m,D₁,σ₁,a,b,c,q⟩) λ_ _ q=>q)
theorem z2n{e:Expr}{p:Pos}(h:TE C env vars gl d (eval e env) m σ (λ_ σ₁=>Q .next m σ₁) EQ)(hs:autoParam (swapsWith e none p.line env=pure false) auR):SE C env vars gl d (exec (.Expr e p) env) m σ Q EQ:=λA G Gc D s l hA U R=>by
 have hi:interactive env=false:=by unfold interactive;rw[R.ok.fn];rfl
 rw[exec_Expr env e p hi hs]
 refine wpAny_bind (wpAny_standAt (wpAny_bind (wpAny_mono (h A G Gc D s l hA U R) (λv s₁ q=> ?_) λ_ _ q=>q)))
 obtain⟨X,D₁,σ₁,a,b,c,q⟩:=q
 have fin:PostS C env vars gl true Gc D Q .next s₁:=⟨.next,m,D₁,σ₁,a,trivial,c,q⟩
 exact wpAny_dropValue fin
variable {L:List V->Sto->Prop}
theorem y3Y{p:Pos}(q:L [] σ):LE C env vars gl d (spliced (backTo p (starEach [] env))) m σ L EQ:=λA G Gc D s l hA U R=>wpAny_items_nil ⟨[],D,σ,DX.refl _ _,.nil,R,q⟩
theorem z43{p:Pos}{e:Expr}{rest:List Expr}(h:TE C env vars gl d (eval e env) m σ (λX σ₁=>LE C env vars gl d (spliced (backTo p (starEach rest env))) m σ₁ (λXs σ₂=>L (X::Xs) σ₂) EQ) EQ)
  (he:autoParam (starEach (e::rest) env=(false,eval e env)::starEach rest env) auR):LE C env vars gl d (spliced (backTo p (starEach (e::rest) env))) m σ L EQ:=λA G Gc D s l hA U R=>
 wpAny_items_cons (wpAny_mono (h A G Gc D s l hA U R) (λv s₁ q=>by
  obtain⟨X,D₁,σ₁,a,b,c,e⟩:=q
  refine wpAny_mono (e A G Gc D₁ s₁ l hA (U.dx a) c) (λvs s₂ q=> ?_) λ_ _ q=>q.weak a
  obtain⟨Xs,D₂,σ₂,a',b',c',q⟩:=q
  exact⟨X::Xs,D₂,σ₂,a.trans a',.cons (b.mono a'.sub) b',c',q⟩) λ_ _ q=>q) he
theorem y1t{t:Sem (List Value)}(h:AL C env vars gl true d t m σ L):LE C env vars gl d t m σ L EQ:=λA G Gc D s l hA U R=>wpAny_mono (h _ Gc D s hA R) (λ_ _ q=>q) λ_ _ q=>q.elim
theorem y0N{f:Value}{xs:List V}(h:CW C d f xs σ P):CE C d f xs σ P EQ:=λA G D s vs l hA F R hv=>codeAny_mono (h A G D s vs hA R hv) λr s' q=>by
 cases r with
 |error e=>exact q.elim
 |ok fl=>cases fl<;>exact q
theorem CE.mono{P':V->Sto->Prop}{EQ':Value->Sto->Prop}{f:Value}{xs:List V}(h:CE C d f xs σ P EQ)(h1:∀x σ,P x σ->P' x σ)(h2:∀c τ,EQ c τ->EQ' c τ):CE C d f xs σ P' EQ':=λA G D s vs l hA F R hv=>codeAny_mono (h A G D s vs l hA F R hv) λr s' q=>by
 cases r with
 |error e=>obtain⟨c,τ,a,b⟩:=q;exact⟨c,τ,h2 _ _ a,b⟩
 |ok fl=>
  cases fl with
  |ret v=>obtain⟨x,D',σ',a,b,c,e⟩:=q;exact⟨x,D',σ',a,b,c,h1 _ _ e⟩
  |_=>exact q
theorem z9O{x:Str}{np p:Pos}{e:Expr}{rest:List Expr}{ad:Addr}(hx:(x,V.ref ad)∈gl)(hF:z0l C (.ref ad))(h:LE C env vars gl d (spliced (backTo p (starEach (e::rest) env))) m σ (λXs σ₂=>CE C d (.ref ad) Xs σ₂ P EQ) EQ)
  (he:autoParam (starEach (e::rest) env=(false,eval e env)::starEach rest env) auR) (hplain:autoParam ((backTo p (starEach rest env)).any (·.1)=false) auR):
  TE C env vars gl d (eval (.Call (.Name x np) (e::rest) [] p) env) m σ P EQ:=λA G Gc D s l hA U R=>
 wpAny_Call_ofName (wpAny_mono (z1A hx (Q:=λX σ'=>X= .ref ad/\σ'=σ) ⟨rfl,rfl⟩ _ Gc D s hA R) (λv s₁ q=>by
  obtain⟨X,D₂,σ₁,a,b,R₁,rfl,rfl⟩:=q
  refine z1L hF b (by rw[he];exact hplain) ?_
  rw[he] at h⊢
  refine Calls.evalArgs_plain (wpAny_mono (h A G Gc D₂ s₁ l hA (U.dx a) R₁) (λvs s₂ q=> ?_) λ_ _ q=>q.weak a)
  obtain⟨Xs,D₃,σ₂,a',b',R₂,q⟩:=q
  have ev:=b.refI
  subst ev
  have dx₃:=a.trans a'
  refine⟨R₂.toRelC.baseIn,wpAny_call (codeAny_mono (q _ _ D₃ s₂ vs (env::l) hA ((U.dx dx₃).push R₂) R₂.lifted b') λr s' q=> ?_)⟩
  cases r with
  |error e=>obtain⟨c,τ,hq,f⟩:=q;exact f.here R₂ dx₃ hq
  |ok fl=>
   cases fl with
   |ret v=>obtain⟨x,D',σ',k1,k2,k3,k4⟩:=q;exact⟨x,D',σ',dx₃.trans (R₂.dx k1),k2,R₂.back k3 k1,k4⟩
   |_=>exact q.elim) λ_ _ e=>e.elim)
theorem y06 [HM C]{x:Str}{np cpos pos tp:Pos}{t:Str}{k:Nat}{cA:Addr}{bm:List Value}{B newId initId:String}(O:PyProof.Rows.OwnCls x cA bm newId C.mg C.base)(FB:ExcBaseFacts B newId initId bm)(hx:(x,V.ref cA)∈gl)(hq:EQ (.ref cA) σ):
  SE C env vars gl d (exec (.Raise (some (.Call (.Name x np) [.Constant (.str t) k tp] [] cpos)) none pos) env) m σ Q EQ:=λA G Gc D s l hA U R=>by
 obtain⟨tl,N,nm,q,bs,hdct,sn,sub,ab,col,dd,k0,k1,k2,k3,k5,mN,hC,hN,hni,T⟩:=O.obj
 refine wpAny_Raise_call_subT (C:=cA) (nm:=nm) (q:=q) (N:=N) (bs:=bs) (bm:=tl) (hdct:=hdct) (sn:=sn) (sub:=sub) (ab:=ab) (col:=col) (dd:=dd) (k0:=k0) (k1:=k1) (k2:=k2) (k3:=k3) (k5:=k5) FB (mN:=mN) (T.hasType FB.hasBase) hA.hh rfl hni (wpAny_mono (z1A hx (Q:=λX σ'=>X= .ref cA/\σ'=σ) ⟨rfl,rfl⟩ _ Gc D s hA R) (λf s₁ q=> ?_) λ_ _ e=>e.elim)
 obtain⟨X,D₂,σ₁,a,b,R₁,rfl,rfl⟩:=q
 refine⟨b.refI,?_⟩
 have hal:AL C env vars gl true d (spliced (backTo cpos (starEach [.Constant (.str t) k tp] env))) m σ₁ λXs σ₂=>σ₂=σ₁/\Xs=[.str t]:=z0b (z6W (z0c ⟨rfl,rfl⟩)) rfl
 refine Calls.evalArgs_plain (wpAny_mono (hal _ Gc D₂ s₁ hA R₁) (λvs s₂ q=> ?_) λ_ _ e=>e.elim)
 obtain⟨Xs,D₃,σ₂,a',b',R₂,rfl,rfl⟩:=q
 have kp:=R₂.toRelC.baseIn
 refine⟨rfl,by rw[b'.length];exact(by decide:1<=sizeLine),kp _ _ hC,hN.keeps kp,T.keeps kp,λh' e hm=> ?_⟩
 obtain⟨t0,g1,g2,g3⟩:=hm.there
 have R₃:RelF C env vars gl true Gc D₃ m σ₂ {s₂ with heap:=h'}:=R₂.back (R₂.lifted.keep s₂.toks hm.keeps) (DX.refl _ _)
 exact⟨e,D₃,m,σ₂,_,rfl,a.trans a',R₃,Nob.dead R₂.toRelC hm.new,.new _ _ g1 rfl rfl rfl rfl,hq⟩
theorem y4K [NF C]{a:Addr}{fd:FuncData}{body:List Stmt}{params others:List Str}{xs:List V}(F:FnIs C a fd body params)(hlen:xs.length=params.length)
  (hst:z34 fd.scope (params++others) (gl.map (·.1))=true) (hgl:∀p∈gl,z0j C p.1 p.2)
  (h:∀env,env.scope=fd.scope->SE C env (params++others) gl d (execs body env) (xs.map some++others.map λ_=>none) σ (y2t P) EQ):CE C (d+1) (.ref a) xs σ P EQ:=λA G D s vs l hA hF R hv=>by
 refine y1Y F hlen hst hgl hA R hv λE Gc s₁ hsc hfr hle hM hG RF=> ?_
 have U:Up C E A G Gc D l:=⟨hF,hM,hG,R.base,hfr⟩
 refine wpAny_mono (h E hsc A G Gc D s₁ l hA.deeper U RF) (λf s' q=> ?_) λe s' q=>wpAny_mono (q.leave (E:=λ_ _=>False) U) (λ_ _ q=>q) λ_ _ q=>q.elim
 obtain⟨fl,m',D',σ',a,b,c,q⟩:=q
 have dx:DX G D D':=dxG hG a
 have RC':RelC C G D' σ' s':=c.out hG R.base
 cases f<;>cases fl<;>first|exact b.elim|exact q.elim|skip
 ·exact⟨.none,D',σ',dx,.none,RC',q⟩
 ·exact⟨_,D',σ',dx,b,RC',q⟩
theorem z4g [NF C]{K:W.Frag}(H:K.In C.base){a:Addr}(vars:List Str)(gl:List (Str×V)){xs:List V}(e:y2u K a vars (gl.map (·.1))=true)(e8:∀vs:List Value,vs.length=xs.length->bindArgs (z3C K a) ⟨vs,[]⟩=pure ((vars.take xs.length).zip vs))(e9:Nat.ble xs.length vars.length=true)(hgl:∀p∈gl,z0j C p.1 p.2)
  (h:∀env,env.scope=(z3C K a).scope->SE C env vars gl d (execs (z7n (z3C K a)) env) (xs.map some++(vars.drop xs.length).map λ_=>none) σ (y2t P) EQ):CE C (d+1) (.ref a) xs σ P EQ:=by
 unfold y2u at e
 simp only[Bool.and_eq_true] at e
 obtain⟨e1,e2,e3,e4,e5,e6,e7⟩:=e
 obtain⟨o,k1,k2⟩:=y1l e1
 have hl:(vars.take xs.length).length=xs.length:=by rw[List.length_take];exact Nat.min_eq_left (Nat.le_of_ble_eq_true e9)
 refine y4K (params:=vars.take xs.length) (others:=vars.drop xs.length) ⟨⟨o,H a o k1,k2⟩,y0w e2,List.isEmpty_iff.mp e3,W.codeRec_of H e4,Nat.eq_of_beq_eq_true e5,Nat.eq_of_beq_eq_true e6,λvs hv=>e8 vs (hv.trans hl)⟩ hl.symm ?_ hgl ?_
 ·rw[List.take_append_drop];exact e7
 ·rw[List.take_append_drop];exact h
noncomputable def z6p(C:Cx)(env:Env)(vars:List Str)(gl:List (Str×V))(d:Nat)(tgt:Expr)(body:List Stmt)(Pp:Sto->Prop)(Q:Fl->Loc->Sto->Prop)(EQ:Value->Sto->Prop):List V->Loc->Sto->Prop
 |[],m,σ=>Q .next m σ
 |X::xs,m,σ=>AA C env vars gl true d (assign tgt env) X m σ λm₁ σ₁=>SE C env vars gl d (execs body env) m₁ σ₁ (λfl m₂ σ₂=>match fl with
  | .next=>Pp σ₂/\z6p C env vars gl d tgt body Pp Q EQ xs m₂ σ₂
  | .cont=>Pp σ₂/\z6p C env vars gl d tgt body Pp Q EQ xs m₂ σ₂
  | .brk=>Q .next m₂ σ₂
  | .ret v=>Q (.ret v) m₂ σ₂) EQ
inductive LoopEI(C:Cx)(env:Env)(vars:List Str)(gl:List (Str×V))(d:Nat)(tgt:Expr)(body:List Stmt)(Pp:Sto->Prop)(Q:Fl->Loc->Sto->Prop)(EQ:Value->Sto->Prop)(G D₁:Gh)(St:Nat->Heap->Prop)(wr:List Addr)(xs:List V)(k:Nat)(s':Shared):Prop
 |mk (i:Nat) (m':Loc) (D':Gh) (σ':Sto):k=xs.length-i->i<=xs.length->DX G D₁ D'->St i s'.heap->RelF C env vars gl true G D' m' σ' s'->Off env vars G D' σ' wr->Pp σ'->z6p C env vars gl d tgt body Pp Q EQ (xs.drop i) m' σ'->LoopEI C env vars gl d tgt body Pp Q EQ G D₁ St wr xs k s'
theorem Up.withW{A:Around}{G Gc D:Gh}{l:List Env}{wr:List Addr}{h:Heap}(U:Up C env A G Gc D l)(hw:Off env vars Gc D σ wr):Up C env A G (z3e Gc wr h) D l:=⟨U.F,λb o e n=>by
  have q:=U.M b o e n
  rw[z0U λhb=>nomatch (hw b hb).1.symm.trans q];exact q,λb o e=>by
  obtain⟨o',q,r⟩:=U.GG b o e
  exact⟨o',by rw[z0U λhb=>nomatch (hw b hb).1.symm.trans q];exact q,r⟩,U.B,U.f⟩
theorem FlyF.lessW{Gc D₀:Gh}{σ₀:Sto}{wr:List Addr}{h:Heap}{e:Value}{s:Shared}(f:FlyF C env vars gl (z3e Gc wr h) D₀ EQ e s)(hw:Off env vars Gc D₀ σ₀ wr)(hb:∀a o,C.base.get? a=some o->Gc a=some o)(hl:∀a∈wr,∃o,h.get? a=some o):FlyF C env vars gl Gc D₀ EQ e s:=by
 obtain⟨a,D',m,τ,c,rfl,dx,R,na,x,hq⟩:=f
 obtain⟨R',dx',_⟩:=R.lessW hw hb dx hl
 have nb:∀b,Nob (z3e Gc wr h) D' τ b->Nob Gc D' τ b:=λb n=>⟨by
  by_cases hbw:b∈wr
  ·exact(hw b hbw).1
  ·exact(z0U hbw).symm.trans n.1,n.2⟩
 exact⟨a,D',m,τ,c,rfl,dx',R',nb a na,by
  cases x with
  |new oe vs h1 h2 h3 h4 h5=>exact .new oe vs h1 h2 h3 h4 h5
  |on T fl h1 h2 h3=>exact .on T fl h1 h2 (nb T h3),hq⟩
theorem FlyF.back{A:Around}{G Gc D:Gh}{l:List Env}{e:Value}{s:Shared}(U:Up C env A G Gc D l)(f:FlyF C env vars gl Gc D EQ e s):notedBy C.M (A.deeper env) env (λe s'=>cameBackBy C.M (A.deeper env) env (FlyF C env vars gl Gc D EQ) e s') e s:=by
 refine wpAny_mono (f.note U) (λ_ s₁ f₁=> ?_) λ_ _ q=>q
 obtain⟨a,T,D',m,τ,c,rfl,dx,R,na,x,nT,hq⟩:=f₁
 obtain⟨oe,vs,g1,g2,g3,g6,g7⟩:=x.ex
 obtain⟨oT,ts,g4,g5,g8⟩:=x.tr
 unfold cameBackBy
 refine wpAny_bind (wpAny_field g1 g3 g6 ?_)
 rw[if_neg (show¬((Value.ref T==Value.none)=true) from by simp)]
 show wpAny _ _ (setFlight (.ref a) env.frame) _ _ _
 unfold setFlight
 refine wpAny_bind (wpAny_field g1 g3 g6 ?_)
 rw[if_pos (show(Value.ref T !=Value.none)=true from by simp),U.f]
 have hz:=(Array.getElem?_eq_some_iff.mp g8).1
 refine wpAny_setField g4 g5 hz ?_
 obtain⟨o',k1,k2,k3⟩:=z7j g4 g5 3 ((some env.locals:Option Addr).elim Value.none λf=>rawInt f)
 have hl:=(U.dx dx).frs R
 have mv:Moved (fa (env::l)) [T] s₁.heap (s₁.heap.update T (Obj.mapFields (·.setIfInBounds 3 ((some env.locals:Option Addr).elim Value.none λf=>rawInt f)))):=⟨λb o e n n'=>by
   have hab:T≠b:=λq=>n' (by rw[q];exact .head _)
   rw[Heap.get?_update_other _ _ hab];exact e,λb o m e=>⟨o.slots,by
   have hab:T≠b:=λq=>z49 hl g4 g5 (by rw[q];exact m)
   rw[Heap.get?_update_other _ _ hab];exact e⟩⟩
 refine⟨a,D',m,τ,c,rfl,dx,R.moved (U.dx dx) mv (λb hb=>by rw[List.mem_singleton.mp hb];exact nT) (λb hb=>by rw[List.mem_singleton.mp hb];exact⟨_,_,g4,g5⟩),na,.on T (rawInt env.locals) ⟨x.ne,⟨oe,vs,(Heap.get?_update_other _ _ x.ne).trans g1,g2,g3,g6,g7⟩,⟨o',_,k1,k3,by simp[hz]⟩⟩ (.inr rfl) nT,hq⟩
theorem z7e{tgt iter:Expr}{body:List Stmt}{p:Pos}(h:AI C env vars gl true d iter tgt m σ λxs Pp σ₁=>z6p C env vars gl d tgt body Pp Q EQ xs m σ₁)
  (hs:autoParam (∀x,foldedSetIterable iter env x=pure x) auF):SE C env vars gl d (exec (.For tgt iter body [] p) env) m σ Q EQ:=λA G Gc D s l hA U R=>by
 refine wpAny_For (wpAny_mono (h _ Gc D s hA R) (λx s₁ h₁=>wpAny_mono h₁ (λit s₂ h₂=> ?_) λ_ _ e=>e.elim) λ_ _ e=>e.elim) hs
 obtain⟨D₁,σ₁,xs,P,dx₁,⟨I,fp,wr,St,rfl,W,st₀,R₁,off₁,hP₁,stay⟩,hL⟩:=h₂
 have hb:=R.base
 refine codeAny_forLoop_any (LoopEI C env vars gl d tgt body P Q EQ Gc D₁ St wr xs) ?_ (xs.length-0) ⟨0,m,D₁,σ₁,rfl,Nat.zero_le _,DX.refl _ _,st₀,R₁,off₁,hP₁,hL⟩
 rintro k s' ⟨i,m',D',σ',rfl,hi,dx',st',R',off',hP',hL'⟩
 by_cases hlt:i<xs.length
 ·have hX:xs[i]? =some xs[i]:=List.getElem?_eq_getElem hlt
  rw[List.drop_eq_getElem_cons hlt] at hL'
  refine wpAny_mono (W.item i _ s' _ hX st' λv s₁ hgo=> ?_) (λ_ _ e=>e) λ_ _ e=>e.elim
  refine wpAny_mono (hgo _ λh' tk hitem st₂ kept=> ?_) (λ_ _ e=>e) λ_ _ e=>e.elim
  obtain⟨D₂,dx₂,R₂,hv,offS⟩:=z6K (t:=tk) R' dx'.sub off' kept hitem
  have off₂:=offS wr (W.lives st') off'
  have R₃:=R₂.withW off₂
  have dxa:=(dx₁.trans dx').trans dx₂
  refine wpAny_mono (hL' _ _ D₂ _ v hA R₃ hv) (λ_ s₃ q₃=> ?_) λ_ _ e=>e.elim
  obtain⟨m₃,D₃,σ₃,dx₃,R₄,hbody⟩:=q₃
  have U₃:Up C env A G (z3e Gc wr h') D₃ l:=((U.dx dxa).withW off₂).dx dx₃
  refine wpAny_mono (hbody A G _ D₃ s₃ l hA U₃ R₄) (λf s₄ q=> ?_) λe s₄ q=> ?_
  ·obtain⟨fl,m₄,D₄,σ₄,dx₄,hfl,R₅,q⟩:=q
   obtain⟨R₆,dx₆,off₆⟩:=R₅.lessW off₂ hb (dx₃.trans dx₄) (W.lives st₂)
   have cont:(P σ₄/\z6p C env vars gl d tgt body P Q EQ (xs.drop (i+1)) m₄ σ₄)->∃k',k'<xs.length-i/\LoopEI C env vars gl d tgt body P Q EQ Gc D₁ St wr xs k' s₄:=λh=>⟨xs.length-(i+1),Nat.sub_lt_sub_left hlt (Nat.lt_succ_self i),i+1,m₄,D₄,σ₄,rfl,hlt,(dx'.trans dx₂).trans dx₆,W.go st₂ st₀ stay R₂.toRelC (dx'.trans dx₂).sub hP' R₆.toRelC ((dx'.trans dx₂).trans dx₆).sub h.1 λb o hb e=>R₅.ge ((z1x hb).trans e) (W.nf st₂ hb e),R₆,off₆,h.1,h.2⟩
   cases f<;>cases fl<;>first|exact hfl.elim|skip
   ·exact cont q
   ·exact⟨.next,m₄,D₄,σ₄,dxa.trans dx₆,trivial,R₆,q⟩
   ·exact cont q
   ·exact⟨.ret _,m₄,D₄,σ₄,dxa.trans dx₆,hfl,R₆,q⟩
  ·have f₂:FlyF C env vars gl Gc D₂ EQ e s₄:=(q.weak dx₃).lessW off₂ hb (W.lives st₂)
   exact(f₂.weak dxa).back U
 ·have hie:i=xs.length:=Nat.le_antisymm hi (Nat.not_lt.mp hlt)
  subst hie
  rw[List.drop_length] at hL'
  refine wpAny_mono (W.done s' _ st' λh' tk kept=> ?_) (λ_ _ e=>e) λ_ _ e=>e.elim
  exact wpAny_execs_nil ⟨.next,m',D',σ',dx₁.trans dx',trivial,R'.keepBut tk off' kept,hL'⟩
end
end
section
open PySem PySem.Calls PyProof.Rows
section
variable {prog:Program} {w:World} {A:Around} {E:Value->Shared->Prop} {s:Shared}
theorem entry_unchain:entryFor table "proto.unchain"=some Builtin.«proto.unchain»:=entryFor_of_tree (by kernel_rfl)
theorem z5Y{α:Type}{a x:Addr}{oa ox:Obj}{vs ws:Array Value}{Q:α->Shared->Prop}(hh:A.handled=some (.ref x))(hne:x≠a)(hx:s.heap.get? x=some ox)(hd:ox.data= .fields vs)(h2:vs[2]? =some .none)(ha:s.heap.get? a=some oa)(hda:oa.data= .fields ws)(hi:2<ws.size)
  (h:E (.ref a) {s with heap:=s.heap.update a (Obj.mapFields (·.setIfInBounds 2 (.ref x)))}):wpAny (model prog w) A (raiseNew (.ref a):Sem α) Q E s:=by
 simp only[raiseNew]
 refine wpAny_bind (wpAny_handled ?_)
 rw[hh]
 show wpAny _ _ (if((Value.ref x !=Value.ref a)=true) then _ else _) _ _ _
 rw[if_pos (by simpa using hne)]
 refine wpAny_bind (wpAny_holding (runValue_entry entry_unchain ?_))
 unfold Builtin.«proto.unchain»
 show wpAny _ _ (field (.ref x) 2>>=_) _ _ _
 refine wpAny_bind (wpAny_field hx hd h2 ?_)
 show wpAny _ _ (if((Value.none==Value.none)=true) then _ else _) _ _ _
 rw[if_pos (show(Value.none==Value.none)=true from rfl)]
 refine wpAny_pure ⟨_,rfl,?_⟩
 refine wpAny_bind (m:=setField (.ref a) 2 (.ref x)) (wpAny_setField ha hda hi ?_)
 exact wpAny_throw h
theorem z4d{it x:Addr}{n left step:Int}{ox:Obj}{vs:Array Value}{Q:Option Value->Shared->Prop}(hh:A.handled=some (.ref x))(hx:s.heap.get? x=some ox)(hd:ox.data= .fields vs)(h2:vs[2]? =some .none)(hit:IsRangeIter s.heap it n left step)(hleft:left<=0)
  (hQ:∀h',Heap.ExtBut it s.heap h'->Q none {s with heap:=h'}):wpAny (model prog w) A (pyNext (.ref it)) Q E s:=by
 have hT:s.TypeIs (.ref it) "range_iterator":=⟨_,hit,rfl⟩
 unfold pyNext
 refine wpAny_bind (wpAny_attempt (wpAny_callSpecial?_slot (name:=Str.ofString "__next__") hT F.slot_range_iterator_next
  (wpAny_call_entry F.slot_range_iterator_next hT F.entry_range_iterator_next ?_ (F.args_range_iterator_next_1 _))))
 show wpAny _ _ (field (.ref it) 0>>=_) _ _ s
 refine wpAny_bind (wpAny_field hit rfl (x:=rawInt n) rfl ?_)
 show wpAny _ _ (field (.ref it) 1>>=_) _ _ s
 refine wpAny_bind (wpAny_field hit rfl (x:=rawInt left) rfl ?_)
 show wpAny _ _ (field (.ref it) 2>>=_) _ _ s
 refine wpAny_bind (wpAny_field hit rfl (x:=rawInt step) rfl ?_)
 show wpAny _ _ (if left<=0 then _ else _) _ _ s
 rw[if_pos hleft]
 refine wpAny_bind (wpAny_rule ?_)
 refine wpAny_bind ?_
 show wpAny _ _ (newExc (.type "StopIteration") []>>=_) _ _ _
 refine wpAny_bind ?_
 simp only[newExc,newTuple]
 refine wpAny_bind (wpAny_newObj_type ?_ (by size_fits))
 refine wpAny_bind (m:=firstArgMember _ _) (wpAny_of_eq (a:=Value.none) (by first|rfl|(simp only[firstArgMember];rfl)) ?_)
 refine wpAny_newObj_type ?_ (by size_fits)
 have hlt:=Heap.lt_size hx
 refine z5Y (x:=x) hh (Nat.ne_of_lt (by rw[Heap.size_push];exact Nat.lt_succ_of_lt hlt)) (Heap.get?_push_of_some _ (Heap.get?_push_of_some _ hx)) hd h2 (Heap.get?_push_size _ rfl) rfl (by simp;lia) ?_
 have hself:=Heap.get?_update_self (h:=(s.heap.push {cls:= .type "tuple",data:= .seq #[]}).push {cls:= .type "StopIteration",data:= .fields (#[.ref s.heap.objs.size,.none,.none,.none,.bool false,.none]++ownMembersOf (.type "StopIteration") [])}) (Obj.mapFields (·.setIfInBounds 2 (.ref x))) (Heap.get?_push_size _ rfl) rfl
 refine wpAny_bind (wpAny_isInstance (T:="StopIteration") (b:=true) ⟨_,hself,rfl⟩ isSubtype_stop ?_)
 refine wpAny_pure (hQ _ λb o hb e=> ?_)
 have hlt':=Heap.lt_size e
 rw[Heap.get?_update_other _ _ (Nat.ne_of_gt (by rw[Heap.size_push];exact Nat.lt_succ_of_lt hlt'))]
 exact Heap.get?_push_of_some _ (Heap.get?_push_of_some _ e)
end
end
section
open PySem PySem.W PySem.Calls PyProof.Rows PySem.Builtin PySem.Builtin.ObjectAttr PySem.Builtin.Getset_descriptor
structure ExcK(K:Frag)(D:Addr):Prop where
 ga:findIn K (.ref D) "__getattribute__"=some (some (.builtin "BaseException.__getattribute__"))
 gn:findIn K (.ref D) "__getattr__"=some none
 fc:findIn K (.ref D) "__class__"=some (some (.builtin "object.__class__"))
 be:mroIn K D (.type "BaseException")=some true
 ob:mroIn K D (.type "object")=some true
 is:(clsIn K D).isSome=true
section
variable {prog:Program} {w:World} {A:Around} {E:Value->Shared->Prop} {h:Heap} {g:Array GenState} {d:Drawn} {t:Nat} {os:OsState} {a D:Addr} {o:Obj} {K:Frag}
theorem y4f{M:Model}{n:Str}{r:Option Value}{Q:Option Value->Shared->Prop}(X:K.In h)(e:findIn K (.ref D) n=some r)(q:Q r ⟨h,g,d,t,os⟩):wpAny M A (typeLookup (.ref D) n) Q E ⟨h,g,d,t,os⟩:=(looks_findIn X e).at q
theorem y5p{M:Model}{b:Value}{r:Bool}{Q:Bool->Shared->Prop}(X:K.In h)(e:mroIn K D b=some r)(q:Q r ⟨h,g,d,t,os⟩):wpAny M A (isSubtype (.ref D) b) Q E ⟨h,g,d,t,os⟩:=(looks_mroIn X e).at q
theorem y00{R:Result->Shared->Prop}(X:K.In h)(Z:ExcK K D)(hx:h.get? a=some o)(hc:o.cls= .ref D)(hq:R (.ok (.ret (.ref D))) ⟨h,g,d,t,os⟩):
  codeAny (model prog w) A (.call (.builtin "getset_descriptor.__get__") ⟨[.builtin "object.__class__",.ref a,.ref D],[]⟩) R ⟨h,g,d,t,os⟩:=by
 have L0:Looks (model prog w) h (typeOf (.ref a)) (.ref D):=hc▸(Looks.ld hx).andThen .now
 have L1:=looks_mroIn (M:=model prog w) X Z.ob
 refine codeAny_call_builtin KF.slot_gs.plain KF.entry_gs (KF.slot_gs.check _ _ _ _ _ _ _ _ KF.type_class (KF.args_gs _ _ _) ?_)
 unfold Builtin.«getset_descriptor.__get__» descrGet
 rw[dga_obj]
 refine wpAny_bind (wpAny_pure ?_)
 unfold descrGetter descrCheckInstance descrNameAndClass isInstance
 simp only[KF.owner_class]
 repeat lk
 refine⟨Code.quiet_builtin _ (by decide+kernel),codeAny_builtin KF.entry_class ?_⟩
 unfold Builtin.«object.__class__» shownTypeOf
 repeat lk
 exact hq
theorem z8F{tk:Tok}{Q:Fin->Shared->Prop}(X:K.In h)(Z:ExcK K D)(hx:h.get? a=some o)(hc:o.cls= .ref D)(hq:Q (.done (.ret (.ref D))) ⟨h,g,d,t,os⟩):
  wpAny (model prog w) A (Builtin.«object.__getattribute__» ⟨[.ref a,.str "__class__" tk],[]⟩) Q E ⟨h,g,d,t,os⟩:=by
 have hT5:(⟨h,g,d,t,os⟩:Shared).TypeIs (.builtin "object.__class__") "getset_descriptor":=F.typeOf_object_class
 have f5:=F.typeOf_object_class
 have f6:=F.slot_gs_get.lookup
 have f7:=F.slot_gs_set.lookup
 repeat (any_goals (first|assumption|(with_reducible refine wpAny_loadPart_at hx ?_;rw[hc])|with_reducible refine y4f X Z.fc ?_|wp_step))
 refine y00 X Z hx hc ?_
 repeat (any_goals (first|assumption|wp_step))
theorem z8U{M:Model}{nameV:Value}{Q:Unit->Shared->Prop}(X:K.In h)(Z:ExcK K D)(hx:h.get? a=some o)(hc:o.cls= .ref D)(hq:Q () ⟨h,g,d,t,os⟩):wpAny M A (checkBuiltinCall "BaseException.__getattribute__" ⟨[.ref a,nameV],[]⟩) Q E ⟨h,g,d,t,os⟩:=by
 have hk:builtinKind "BaseException.__getattribute__"=some .slot:=by decide+kernel
 have hsplit:splitId "BaseException.__getattribute__"=some ("BaseException","__getattribute__"):=by decide+kernel
 have ha:=F.args_bexc_ga (.ref a) nameV
 simp only[checkBuiltinCall,hk,hsplit]
 refine wpAny_bind ?_
 ·unfold isInstance
  repeat (first|(with_reducible refine wpAny_loadPart_at hx ?_;rw[hc])|(with_reducible refine y5p X Z.be ?_)|wp_step)
  exact hq
theorem y2x{tk:Tok}{fill expr:Bool}{Q:Value->Shared->Prop}(X:K.In h)(Z:ExcK K D)(hx:h.get? a=some o)(hc:o.cls= .ref D)(hq:Q (.ref D) ⟨h,g,d,t,os⟩):
  wpAny (model prog w) A (getAttrBy (.ref a) (.str "__class__" tk) fill expr) Q E ⟨h,g,d,t,os⟩:=by
 have f3:=F.excAttr_ValueError.ga.bind (.ref a)
 have hx0:(expr&&onTheHeap (Value.builtin "BaseException.__getattribute__"))=false:=by cases expr<;>rfl
 have hx2:(Value.builtin "BaseException.__getattribute__"==Value.builtin "object.__getattribute__")=false:=by decide+kernel
 have hx1:(onTheHeap (Value.ref D)&&Value.builtin "BaseException.__getattribute__"==Value.builtin "object.__getattribute__")=false:=by rw[hx2];rfl
 repeat (any_goals (first|assumption|(with_reducible refine wpAny_loadPart_at hx ?_;rw[hc])|with_reducible refine y4f X Z.ga ?_|with_reducible refine y4f X Z.gn ?_|wp_step))
 refine codeAny_call_builtin F.excAttr_ValueError.ga.plain F.entry_bexc_ga (z8U X Z hx hc (z8F X Z hx hc ?_))
 repeat (any_goals (first|assumption|wp_step))
theorem z9R{Q:Option Value->Shared->Prop}(X:K.In h)(Z:ExcK K D)(hx:h.get? a=some o)(hc:o.cls= .ref D)(hq:Q (some (.ref D)) ⟨h,g,d,t+1,os⟩):wpAny (model prog w) A (getAttr? (.ref a) "__class__") Q E ⟨h,g,d,t,os⟩:=by
 unfold getAttr? getAttrBy?
 repeat (any_goals (first|assumption|with_reducible apply y2x X Z hx hc|wp_step))
set_option tactic.hygienic true in
theorem y0X(Z:ExcK K D):KitX K (.ref a) (.ref D) (λh=>∃o,h.get? a=some o/\o.cls= .ref D) where
 ty:=λ_ _ _ ⟨_,h1,h2⟩=>h2▸(Looks.ld h1).andThen .now
 it:=λ_ _ X _=>by
  have hcD:=Z.is
  unfold clsIn at hcD
  split at hcD
  ·rename_i c' d' cd' sl' ho
   intro A' Q' E' s' k q
   unfold isType loadHead
   exact wpAny_bind (wpAny_loadPart (k _ _ (X _ _ ho)) (wpAny_pure q))
  ·cases hcD
 ne:=λh tp dd its n sl X htp=>by
  have hcD:=Z.is
  refine Bool.eq_false_iff.mpr λq=> ?_
  have e:D=tp:=Value.ref.inj (beq_iff_eq.mp q)
  subst e
  unfold clsIn at hcD
  split at hcD
  ·rename_i c' d' cd' sl' ho
   have z:=(X _ _ ho).symm.trans htp
   cases z
  ·cases hcD
 ca:=λ{_ _ _ _ _ s} X p k=>by
  obtain⟨o,h1,h2⟩:=p
  obtain⟨h,g,d,t,os⟩:=s
  exact z9R X Z h1 h2 k
end
end
section
open Classical in
noncomputable def z9E(B h:Heap)(x:Addr):Heap:=W.hideAll h ((List.range h.objs.size).filter λb=>decide (B.get? b=none/\b≠x))
theorem z6m{B h:Heap}{x b:Addr}{o:Obj}(e:h.get? b=some o)(k:B.get? b≠none∨b=x):(z9E B h x).get? b=some o:=W.hideAll_get _ e λhm=>by
 have:=(List.mem_filter.mp hm).2
 simp only[decide_eq_true_eq] at this
 rcases k with k|k
 ·exact k this.1
 ·exact this.2 k
theorem z6c{B h:Heap}{x b:Addr}{o:Obj}(e:(z9E B h x).get? b=some o):h.get? b=some o/\(B.get? b≠none∨b=x):=by
 have e':=W.of_hideAll _ e
 refine⟨e',Classical.byContradiction λn=> ?_⟩
 have n1:B.get? b=none:=Classical.byContradiction λq=>n (.inl q)
 have n2:b≠x:=λq=>n (.inr q)
 have hm:b∈(List.range h.objs.size).filter λb=>decide (B.get? b=none/\b≠x):=List.mem_filter.mpr ⟨List.mem_range.mpr (Heap.lt_size e'),by simp only[decide_eq_true_eq];exact⟨n1,n2⟩⟩
 exact nomatch (W.hideAll_none _ hm).symm.trans e
theorem z14{B h:Heap}{x:Addr}(k:∀b o,B.get? b=some o->h.get? b=some o):∀b o,B.get? b=some o->(z9E B h x).get? b=some o:=λb o e=>z6m (k b o e) (.inl (by rw[e];exact nofun))
noncomputable def z3s(C:Cx)(h:Heap)(x:Addr)(k:∀b o,C.base.get? b=some o->h.get? b=some o):Cx:=⟨C.prog,C.w,z9E C.base h x,C.s₀,C.mg,C.mb,C.hg.keeps (z14 k),C.hb.keeps (z14 k),C.lim.keeps (z14 k),some (some x),none⟩
section
variable {C:Cx} {env:Env} {vars:List Str} {gl:List (Str×V)} {m:Loc} {σ τ:Sto} {d:Nat} {Q:Fl->Loc->Sto->Prop} {EQ EB:Value->Sto->Prop} {G Gc D D':Gh} {s s':Shared} {h:Heap} {x:Addr} {k:∀b o,C.base.get? b=some o->h.get? b=some o}
theorem FmOk.held{own:Bool}(F:FmOk C env vars gl own):FmOk (z3s C h x k) env vars gl own:=⟨F.fn,F.nd,F.vk,F.ap,F.gk,F.gg,F.gb⟩
theorem FmOk.unheld{own:Bool}(F:FmOk (z3s C h x k) env vars gl own):FmOk C env vars gl own:=⟨F.fn,F.nd,F.vk,F.ap,F.gk,F.gg,F.gb⟩
theorem RelF.held{k:∀b o,C.base.get? b=some o->s.heap.get? b=some o}(R:RelF C env vars gl true G D m σ s)(off:Off env vars G D σ [x])(hx:∃o,s.heap.get? x=some o):RelF (z3s C s.heap x k) env vars gl true (Mine.z3e G [x] s.heap) D m σ s:=by
 have R':=R.withW off
 refine⟨⟨R'.same,λb o e=>(z6c e).1,R'.g,R'.d,λb o e=> ?_,R'.nd,R'.offG,R'.offD,R'.pl,R'.sto⟩,R'.ok.held,R'.offL,R'.ns,R'.cl⟩
 obtain⟨e1,e2⟩:=z6c e
 by_cases q:b=x
 ·subst q;rw[z1x (.head _)];exact e1
 ·rw[z0U λhm=>q (List.mem_singleton.mp hm)]
  rcases e2 with e2|e2
  ·cases e3:C.base.get? b with
   |none=>exact absurd e3 e2
   |some o'=>
    have:=R.bs b o' e3
    rw[e1] at this
    rw[Option.some.inj this];exact R.base b o' e3
  ·exact absurd e2 q
theorem RelF.unheld(R:RelF (z3s C h x k) env vars gl true G D m σ s):RelF C env vars gl true G D m σ s:=
 ⟨⟨R.same,λb o e=>R.bs b o (z14 k b o e),R.g,R.d,λb o e=>R.base b o (z14 k b o e),R.nd,R.offG,R.offD,R.pl,R.sto⟩,R.ok.unheld,R.offL,R.ns,R.cl⟩
theorem RelF.forget{vs:Loc}(hv:∀(i:Nat) X,vs[i]?≠some (some X))(R:RelF C env vars gl true G D m σ s):RelF C env vars gl true G D vs σ s:=
 ⟨R.toRelC,R.ok,R.offL,(by obtain⟨mm,a,b⟩:=R.ns;exact⟨mm,a,λi x X _ _ e=>absurd e (hv i X)⟩),λi x c h1 h2 h3=>by
  obtain⟨q1,⟨ov,q2,q3⟩,q4⟩:=R.cl i x c h1 h2 h3
  exact⟨q1,⟨ov,q2,λX e=>absurd e (hv i X)⟩,q4⟩⟩
noncomputable abbrev noL(vars:List Str):Loc:=vars.map λ_=>none
theorem z8X(vars:List Str)(i:Nat)(X:V):(noL vars)[i]?≠some (some X):=by
 rw[List.getElem?_map]
 cases vars[i]? <;>exact nofun
theorem y02{n:Str}{X:V}:∀{vars:List Str},n∈vars->∃m₂,Put vars (noL vars) n X m₂
 |[],h=>nomatch h
 |y::r,h=>by
  rcases List.mem_cons.mp h with rfl|h
  ·exact⟨_,.head⟩
  ·obtain⟨m₂,q⟩:=y02 (X:=X) h
   exact⟨_,.tail q⟩
theorem RelF.gone{A:Around}{n:Str}{pos:Pos}{K:Unit->Shared->Prop}{E:Value->Shared->Prop}(R:RelF C env vars gl true G D m σ s)(hl:env.kindOf n=some .local)(hK:∀s',RelF C env vars gl true G D (noL vars) σ s'->K () s'):wpAny C.M A (do bindName env n .none;unbindBehindTheSuite env n pos) K E s:=by
 obtain⟨mm,hn,_⟩:=R.ns
 refine wpAny_nameGoes hl hn (by rw[R.ok.fn];rfl) λh' m' hn' hs'=>hK _ ?_
 have RC:=R.toRelC.keepBut (s.toks+1) [env.locals] (h':=h') (λa ha=>List.mem_singleton.mp ha▸R.offL) λb o hb e=>hs'.extBut b o (λq=>hb (List.mem_singleton.mpr q)) e
 refine⟨RC,R.ok,R.offL,⟨m',hn',λi x X _ _ e=>absurd e (z8X vars i X)⟩,λi x c h1 h2 h3=> ?_⟩
 obtain⟨q1,⟨ov,⟨o,ho,hd⟩,q3⟩,q4⟩:=R.cl i x c h1 h2 h3
 exact⟨q1,⟨ov,⟨o,hs'.extBut c o q1 ho,hd⟩,λX e=>absurd e (z8X vars i X)⟩,q4⟩
theorem y0U{A:Around}{y:Str}{p:Pos}{a:Addr}{K:Value->Shared->Prop}{E:Value->Shared->Prop}(hx:(y,V.ref a)∈gl)(R:RelF C env vars gl true G D m σ s)(hK:K (.ref a) s):wpAny C.M A (eval (.Name y p) env) K E s:=by
 obtain⟨h1,h2,v,hv,h3⟩:=R.ok.gk _ hx
 have keep:∀b o,C.base.get? b=some o->s.heap.get? b=some o:=R.bs
 have ng:s.heap.Ns env.globals C.mg:=by rw[R.ok.gg];exact C.hg.keeps keep
 have nb:s.heap.Ns env.builtins C.mb:=by rw[R.ok.gb];exact C.hb.keeps keep
 have hv':v= .ref a:=hv.refI
 subst hv'
 refine Calls.Name_function_global R.ok.fn h2 ?_ h1
 rcases h3 with h3|⟨h3,h4⟩
 ·exact Calls.loadGlobal_global ng h3 hK
 ·exact Calls.loadGlobal_builtin ng h3 nb h4 hK
theorem y4d{body:List Stmt}{y n:Str}{np pos hp:Pos}{b₀:Stmt}{suite:List Stmt}{K:W.Frag}{cP:Addr}(HK:K.In C.base)(hP:(y,V.ref cP)∈gl)(hn:env.kindOf n=some .local)(hv:n∈vars)(hnf:C.fs=none)(h:SE C env vars gl d (execs body env) m σ Q EB)
  (hh:∀c τ,EB c τ->W.exmOne K c (.ref cP)=some true/\∀h a k m₂,(∃oe vs,(z3s C h a k).base.get? a=some oe/\oe.cls=c/\oe.data= .fields vs/\vs[2]? =some .none)->Put vars (noL vars) n (.ref a) m₂->AS (z3s C h a k) env vars gl true d (execs (b₀::suite) env) m₂ τ λf _ σ'=>Q f (noL vars) σ'):
  SE C env vars gl d (exec (.Try body [.ExceptHandler (some (.Name y np)) (some n) (b₀::suite) hp] [] [] pos) env) m σ Q EQ:=λA G Gc D s l hA U R=>by
 refine wpAny_Try_except (wpAny_mono (h A G Gc D s l hA U R) (λf s₁ q=> ?_) λe s₁ q=> ?_)
 ·cases f with
  |next=>exact wpAny_execs_nil q
  |_=>exact q
 ·refine wpAny_mono (q.note U) (λ_ s₂ q=>wpAny_mono (q.off U) (λ_ s₃ q=> ?_) λ_ _ q=>q) λ_ _ q=>q
  obtain⟨a,T,D',m',τ,c,rfl,dx,R₃,na,x,nT,hq⟩:=q
  obtain⟨hm,hk⟩:=hh c τ hq
  refine wpAny_handleBy_cons (codeAny_handlers_test (y0U hP R₃ ?_)) (by intro q;cases q)
  obtain⟨oe,vs,g1,g2,g3,g6,g7⟩:=x.ex
  refine(W.exm_one (K:=K) (h:=s₃.heap) (λb o e=>R₃.bs b o (HK b o e)) (g2▸(W.Looks.ld g1).andThen .now) hm).here ?_
  show codeAny _ _ _ _ s₃
  have f₃:FlyN C env vars gl Gc D (λc' τ'=>c=c'/\τ=τ') .none (.ref a) s₃:=⟨a,T,D',m',τ,c,rfl,dx,R₃,na,x,nT,rfl,rfl⟩
  refine codeAny_handlers_suite_as (wpAny_mono (f₃.off U) (λ_ s₄ q=> ?_) λ_ _ q=>q)
  obtain⟨a',T',D₄,m₄,_,_,ea,dx₄,R₄,na₄,x₄,nT₄,rfl,rfl⟩:=q
  have ea:a=a':=Value.ref.inj ea
  subst ea
  obtain⟨oe,vs,g1,g2,g3,g6,g7⟩:=x₄.ex
  have off:Off env vars Gc D₄ τ [a]:=λb hb=>by
   rw[List.mem_singleton.mp hb]
   refine⟨na₄.1,na₄.2.1,na₄.2.2,?_⟩
   rintro (q|⟨i,z,e1,e2,e3⟩)
   ·obtain⟨mm,⟨o,es,ep,ho,hd',_⟩,_⟩:=R₄.ns
    rw[<-q,g1] at ho
    rw[Option.some.inj ho] at g3
    exact nomatch hd'.symm.trans g3
   ·obtain⟨_,⟨ov,⟨o,ho,hd'⟩,_⟩,_⟩:=R₄.cl i z a e1 e2 e3
    rw[g1] at ho
    rw[Option.some.inj ho] at g3
    exact nomatch hd'.symm.trans g3
  have kk:∀b o,C.base.get? b=some o->s₄.heap.get? b=some o:=R₄.bs
  have R₅:RelF (z3s C s₄.heap a kk) env vars gl true (z3e Gc [a] s₄.heap) D₄ (noL vars) τ s₄:=RelF.forget (z8X vars) (R₄.held (k:=kk) off ⟨oe,g1⟩)
  obtain⟨m₂,hput⟩:∃m₂,Put vars (noL vars) n (.ref a) m₂:=y02 hv
  have hA':AOk (z3s C s₄.heap a kk) ((A.deeper env).mark (some (.ref a))) d:=⟨λy e=>by cases e;rfl,(λl e=>nomatch e),hA.depth,hA.units⟩
  have hob:∃oe vs,(z3s C s₄.heap a kk).base.get? a=some oe/\oe.cls=c/\oe.data= .fields vs/\vs[2]? =some .none:=⟨oe,vs,z6m g1 (.inr rfl),g2,g3,g7⟩
  refine wpAny_mono (R₅.store hput (.ref a) (.inl rfl) λs₅ R₆=> ?_) (λ_ _ q=>q) λ_ _ q=>q.elim
  refine wpAny_mono (hk s₄.heap a kk m₂ hob hput _ _ D₄ s₅ hA' R₆) (λf s₆ q=> ?_) λ_ _ q=>q.elim
  obtain⟨fl,m₇,D₇,σ₇,dx₇,hfl,R₇,q⟩:=q
  obtain⟨R₈,dx₈,_⟩:=R₇.unheld.lessW off R₄.base dx₇ (λb hb=>by rw[List.mem_singleton.mp hb];exact⟨oe,g1⟩)
  exact R₈.gone hn λs' R'=>⟨fl,noL vars,D₇,σ₇,dx₄.trans dx₈,hfl,R',q⟩
end
end
section
theorem y2h{M:Model}{A:Around}{env:Env}{rest:List Stmt}{Q:Flow->Shared->Prop}{E:Value->Shared->Prop}:∀{ss:List Stmt} {s:Shared},wpAny M A (execs ss env) (λf s'=>match f with| .next=>wpAny M A (execs rest env) Q E s'|f=>Q f s') E s->wpAny M A (execs (ss++rest) env) Q E s:=λ{ss} {s} h Γ p hΓ=>by
 have key:∀(ss:List Stmt) (p) (s:Shared),Sem.wp M Γ (execs ss env) (λf p' s'=>match f with| .next=>Sem.wp M Γ (execs rest env) (λa _ s'=>Q a s') (λe _ s'=>E e s') p' s'|f=>Q f s') (λe _ s'=>E e s') p s->Sem.wp M Γ (execs (ss++rest) env) (λa _ s'=>Q a s') (λe _ s'=>E e s') p s:=by
  intro ss
  induction ss with
  |nil=>intro p s h;exact h
  |cons st ss ih=>
   intro p s h
   rw[List.cons_append,execs_cons,Sem.wp_bind']
   rw[execs_cons,Sem.wp_bind'] at h
   refine Sem.wp_mono M Γ _ (λf p' s' h'=> ?_) (λ_ _ _ h'=>h') _ _ h
   cases f with
   |next=>exact ih p' s' h'
   |_=>exact h'
 refine key ss p s (Sem.wp_mono M Γ _ (λf p' s' h'=> ?_) (λ_ _ _ h'=>h') _ _ (h Γ p hΓ))
 cases f with
 |next=>exact h' Γ p' hΓ
 |_=>exact h'
section
variable {C:Cx} {env:Env} {vars:List Str} {gl:List (Str×V)} {m:Loc} {σ:Sto} {d:Nat} {Q:Fl->Loc->Sto->Prop} {P:Bool->Sto->Prop} {EQ:Value->Sto->Prop}
noncomputable def BE(C:Cx)(env:Env)(vars:List Str)(gl:List (Str×V))(d:Nat)(t:Sem Bool)(m:Loc)(σ:Sto)(P:Bool->Sto->Prop)(EQ:Value->Sto->Prop):Prop:=
 ∀A G Gc D s l,AOk C (A.deeper env) d->Up C env A G Gc D l->RelF C env vars gl true Gc D m σ s->wpAny C.M (A.deeper env) t (PostB C env vars gl true Gc D m P) (FlyF C env vars gl Gc D EQ) s
theorem z7y{l r:Expr}{op:CmpOp}{p:Pos}{whole:Sem Value}(h:TE C env vars gl d (eval l env) m σ (λX σ₁=>AT C env vars gl true d (eval r env) m σ₁ λY σ₂=>AC2 C d (compareOp op) X Y σ₂ λZ σ₃=>TRX C d Z σ₃ P) EQ)
  (hm:autoParam (behindInMarks op r=false) auR):BE C env vars gl d (isTrue (.Compare l [op] [r] p) env whole) m σ P EQ:=λA G Gc D s ls hA U R=>
 wpAny_isTrue_Compare1 (wpAny_mono (h A G Gc D s ls hA U R) (λv s₁ hpp=>by
  obtain⟨X,D₁,σ₁,a,b,c,e⟩:=hpp
  refine wpAny_mono (e _ Gc D₁ s₁ hA c) (λu s₂ hpp=> ?_) λ_ _ q=>q.elim
  obtain⟨Y,D₂,σ₂,a',b',c',e'⟩:=hpp
  refine wpAny_mono (e'.inF hA c' (b.mono a'.sub) b') (λz s₃ hpp=> ?_) λ_ _ q=>q.elim
  obtain⟨Z,D₃,σ₃,a'',b'',c'',t,ht,hp⟩:=hpp
  exact wpAny_mono (ht.inF hA c'' b'' (K:=PostB C env vars gl true Gc D m P) λtk=>⟨D₃,σ₃,(a.trans a').trans a'',c''.tok tk,hp⟩) (λ_ _ q=>q) λ_ _ q=>q.elim) λ_ _ q=>q) hm
theorem z8Y{t:Expr}{b o:List Stmt}{p:Pos}(h:BE C env vars gl d (isTrue t env (eval t env)) m σ (λv σ₁=>(v=true->SE C env vars gl d (execs b env) m σ₁ Q EQ)/\(v=false->SE C env vars gl d (execs o env) m σ₁ Q EQ)) EQ):SE C env vars gl d (exec (.If t b o p) env) m σ Q EQ:=λA G Gc D s l hA U R=>
 wpAny_If (wpAny_mono (h A G Gc D s l hA U R) (λv s₁ q=>by
  obtain⟨D',σ',a,R',q⟩:=q
  cases v with
  |true=>exact wpAny_mono (q.1 rfl A G Gc D' s₁ l hA (U.dx a) R') (λ_ _ q=>q.weak a) λ_ _ q=>q.weak a
  |false=>exact wpAny_mono (q.2 rfl A G Gc D' s₁ l hA (U.dx a) R') (λ_ _ q=>q.weak a) λ_ _ q=>q.weak a) λ_ _ e=>e)
theorem y3T{ss rest:List Stmt}(h:AS C env vars gl true d (execs ss env) m σ (y1G C env vars gl d rest Q EQ)):SE C env vars gl d (execs (ss++rest) env) m σ Q EQ:=λA G Gc D s l hA U R=>by
 refine y2h (wpAny_mono (h _ Gc D s hA R) (λf s' q=> ?_) λ_ _ q=>q.elim)
 obtain⟨fl,m',D',σ',a,b,c,e⟩:=q
 cases f<;>cases fl<;>first|exact b.elim|skip
 ·exact wpAny_mono (e A G Gc D' s' l hA (U.dx a) c) (λ_ _ q=>q.weak a) λ_ _ q=>q.weak a
 ·exact⟨.brk,m',D',σ',a,b,c,e⟩
 ·exact⟨.cont,m',D',σ',a,b,c,e⟩
 ·exact⟨.ret _,m',D',σ',a,b,c,e⟩
theorem z33(n:Nat){ss:List Stmt}(h:AS C env vars gl true d (execs (ss.take n) env) m σ (y1G C env vars gl d (ss.drop n) Q EQ)):SE C env vars gl d (execs ss env) m σ Q EQ:=by
 have:=y3T h
 rw[List.take_append_drop] at this
 exact this
end
end
section
theorem z60{prog:Program}{w:World}{A:Around}{x:Addr}{ox:Obj}{vs:Array Value}(hh:A.handled=some (.ref x))(hd:ox.data= .fields vs)(h2:vs[2]? =some .none){I:Addr}(hne:x≠I)(a c:Int)(n:Nat):
  Walks prog w A I [I,x] [I] n (λi v=>∃t,v= .int (a+i*c) t) (λi h=>IsRangeIter h I (a+(i:Nat)*c) ((n:Int)-(i:Nat)) c/\h.get? x=some ox) where
 sub:=λb hb=>by rw[List.mem_singleton.mp hb];exact .head _
 frame:=λ_ _ _ st hk=>⟨hk I (.head _) _ st.1,hk x (.tail _ (.head _)) _ st.2⟩
 item:=λi s Q E hi st hQ=>by
  refine wpAny_pyNext_range_item st.1 (by lia) λh' hit' hs'=> ?_
  refine hQ _ h' _ ⟨_,rfl⟩ ⟨?_,hs'.extBut x ox hne st.2⟩ λb o hb e=>hs'.extBut b o (λh=>hb (by simp[h])) e
  have e1:a+((i+1:Nat):Int)*c=a+(i:Int)*c+c:=by push_cast;rw[Int.add_mul,Int.one_mul,Int.add_assoc]
  have e2:(n:Int)-((i+1:Nat):Int)=(n:Int)-(i:Int)-1:=by push_cast;lia
  rw[e1,e2];exact hit'
 done:=λs Q E st hQ=>z4d hh st.2 hd h2 st.1 (by lia) λh' he'=>hQ h' s.toks λb o hb e=>he' b o (λh=>hb (by simp[h])) e
 self:=λ_ _ _ _ st hQ=>wpAny_pyIter_rangeiter st.1 hQ
section
variable {C:Cx} {env:Env} {vars:List Str} {gl:List (Str×V)} {own:Bool} {d:Nat} {m:Loc} {σ:Sto} {Q:List V->(Sto->Prop)->Sto->Prop}
theorem y0r{x:Addr}{ox:Obj}{vs:Array Value}(hm:C.hm=some (some x))(hb:C.base.get? x=some ox)(hd:ox.data= .fields vs)(h2:vs[2]? =some .none){iter tgt:Expr}(h:AT C env vars gl own d (eval iter env) m σ λX σ₁=>∃(a b c:Int) (n:Nat),X= .rng a b c/\Builtin.Range.small a b c=true/\Builtin.Range.rangeSize a b c=(n:Int)/\Q (z0R a c n) (λ_=>True) σ₁):
  AI C env vars gl own d iter tgt m σ Q:=λA G D s hA R=>
 h.run hA R λv s₁ X D₁ σ₁ dx b c hpp=>by
  obtain⟨p,y,z,n,hX,hsm,hsz,q⟩:=hpp
  subst hX
  obtain⟨_,_,_,_,rfl,e⟩:=VR.rngI b
  have ho:=c.d _ _ e
  have hx:=c.bs _ _ hb
  have hne:x≠s₁.heap.objs.size:=Nat.ne_of_lt (Heap.lt_size hx)
  refine wpAny_pyIter_range ho hsm ⟨D₁,σ₁,_,λ_=>True,dx,⟨s₁.heap.objs.size,[_,x],[_],_,rfl,IW.two (z60 (hA.h _ hm) hd h2 hne p z n) (by simp[z0R]) ?_ ?_ ?_,⟨?_,?_⟩,c.push _,c.offNew (z0D #[] 0),trivial,keep2 hx λG' D' σ' s' R' _ _=>R'.bs _ _ hb⟩,q⟩
  ·rintro i u X ⟨t,rfl⟩ hX
   have hlt:i<n:=by simpa[z0R] using(List.getElem?_eq_some_iff.mp hX).1
   simp[z0R,hlt] at hX
   subst hX
   exact .int _ _
  ·rintro i h st;exact⟨_,_,st.1,rfl,by decide⟩
  ·rintro h st;exact⟨_,st.2⟩
  ·show IsRangeIter _ _ _ _ _
   rw[hsz];simpa using Heap.get?_push_size _ rfl
  ·exact Heap.get?_push_of_some _ hx
end
section
variable {C:Cx} {d:Nat} {σ:Sto} {Q:V->Sto->Prop}
theorem y3C{K:W.Frag}{D a:Addr}{o:Obj}{c:V}{cv:Value}{b:Bool}(HK:K.In C.base)(Z:ExcK K D)(ho:C.base.get? a=some o)(hc:o.cls= .ref D)(hv:∀D' v,VR C.w D' v c->v=cv)(e:W.kitOne K (.ref D) cv=some b)(q:Q (.bool b) σ):
  KW C d (.bi "isinstance") [.ref a,c] σ Q:=λA G D' s v vs hA R hv' hs=>by
 apply VR.biE hv';apply VRs.consE hs;intro _ _ h1 h2;apply VRs.consE h2;intro _ _ h3 h4;apply VRs.nilE h4
 rw[hv _ _ h3];apply VR.refE h1
 exact W.kia_one (y0X (a:=a) Z) (λb o e=>R.bs b o (HK b o e)) ⟨o,R.bs _ _ ho,hc⟩ e nofun λtk=>PostC.now (R.tok tk) (.bool b) q
theorem z3f{K:W.Frag}{D a c:Addr}{o:Obj}{b:Bool}(HK:K.In C.base)(Z:ExcK K D)(ho:C.base.get? a=some o)(hc:o.cls= .ref D)(e:W.kitOne K (.ref D) (.ref c)=some b)(q:Q (.bool b) σ):KW C d (.bi "isinstance") [.ref a,.ref c] σ Q:=y3C HK Z ho hc (λ_ _ h=>h.refI) e q
theorem y4v{K:W.Frag}{D a:Addr}{n:String}{o:Obj}{b:Bool}(HK:K.In C.base)(Z:ExcK K D)(ho:C.base.get? a=some o)(hc:o.cls= .ref D)(e:W.kitOne K (.ref D) (.type n)=some b)(q:Q (.bool b) σ):KW C d (.bi "isinstance") [.ref a,.type n] σ Q:=y3C HK Z ho hc (λ_ _ h=>h.typeI) e q
end
end
section
section
variable {C:Cx} {env:Env} {vars:List Str} {gl:List (Str×V)} {d:Nat} {Q:Fl->Loc->Sto->Prop} {EQ:Value->Sto->Prop} {tgt:Expr} {body:List Stmt} {Pp:Sto->Prop}
theorem AA.mono{X:V}{f:Value->Sem Unit}{m:Loc}{σ:Sto}{K K':Loc->Sto->Prop}(h:AA C env vars gl true d f X m σ K)(hk:∀m σ,K m σ->K' m σ):AA C env vars gl true d f X m σ K':=λA G D s v hA R hv=>
 wpAny_mono (h A G D s v hA R hv) (λ_ _ q=>by obtain⟨m',D',σ',a,b,c⟩:=q;exact⟨m',D',σ',a,b,hk _ _ c⟩) λ_ _ e=>e
theorem y2J(I:Nat->Loc->Sto->Prop):∀(ys:List V) (k:Nat) (m:Loc) (σ:Sto),I k m σ->
  (∀(i:Nat) X,ys[i]? =some X->∀m σ,I (k+i) m σ->∀QB:Fl->Loc->Sto->Prop,(∀m σ,Pp σ->I (k+i+1) m σ->QB .next m σ)->(∀Z m σ,Q (.ret Z) m σ->QB (.ret Z) m σ)->AA C env vars gl true d (assign tgt env) X m σ λm₁ σ₁=>SE C env vars gl d (execs body env) m₁ σ₁ QB EQ)->
  (∀m σ,I (k+ys.length) m σ->Q .next m σ)->z6p C env vars gl d tgt body Pp Q EQ ys m σ:=by
 intro ys
 induction ys with
 |nil=>intro k m σ hI _ hq;exact hq m σ hI
 |cons X ys ih=>
  intro k m σ hI hb hq
  refine hb 0 X rfl m σ hI _ (λm σ hP hI=>⟨hP,ih (k+1) m σ hI (λi Y hY m σ hI QB h1 h2=> ?_) λm σ hI=> ?_⟩) λZ m σ q=>q
  ·have:=hb (i+1) Y hY m σ (by rw[Nat.add_assoc,Nat.add_comm 1 i] at hI;exact hI) QB (λm σ hP hI=>h1 m σ hP (by rw[show k+1+i+1=k+(i+1)+1 by lia];exact hI)) h2
   exact this
  ·exact hq m σ (by rw[List.length_cons,show k+(ys.length+1)=k+1+ys.length by lia];exact hI)
theorem z41(I:Nat->Loc->Sto->Prop){iter:Expr}{p:Pos}{m:Loc}{σ:Sto}(h:AI C env vars gl true d iter tgt m σ λxs Pp σ₁=>I 0 m σ₁/\
  (∀(i:Nat) X,xs[i]? =some X->∀m σ,I i m σ->∀QB:Fl->Loc->Sto->Prop,(∀m σ,Pp σ->I (i+1) m σ->QB .next m σ)->(∀Z m σ,Q (.ret Z) m σ->QB (.ret Z) m σ)->AA C env vars gl true d (assign tgt env) X m σ λm₁ σ₁=>SE C env vars gl d (execs body env) m₁ σ₁ QB EQ)/\
  ∀m σ,I xs.length m σ->Q .next m σ)
  (hs:autoParam (∀x,foldedSetIterable iter env x=pure x) auF):SE C env vars gl d (exec (.For tgt iter body [] p) env) m σ Q EQ:=by
 refine z7e ?_ hs
 intro A G D s hA R
 refine wpAny_mono (h A G D s hA R) (λx s₁ h₁=>wpAny_mono h₁ (λit s₂ hpp=> ?_) λ_ _ e=>e) λ_ _ e=>e
 obtain⟨D',σ',xs,P,a,b,c1,c2,c3⟩:=hpp
 refine⟨D',σ',xs,P,a,b,y2J I xs 0 _ _ c1 (λi X hX m σ hI=> ?_) λm σ hI=>c3 m σ (by rw[Nat.zero_add] at hI;exact hI)⟩
 rw[Nat.zero_add] at hI⊢
 exact c2 i X hX m σ hI
end
end
section
theorem z8H(l:List (Array Value)):∀acc:Array Value,(l.foldl (λx1 x2=>x1++x2) acc).toList=acc.toList++(l.map Array.toList).flatten:=by
 induction l with
 |nil=>intro acc;simp
 |cons a l ih=>intro acc;rw[List.foldl_cons,ih];simp
theorem z8C(items:Array Value)(k:Nat):(List.foldl (λx1 x2=>x1++x2) #[] (List.replicate (if items.isEmpty=true then 0 else k) items)).toList=(List.replicate k items.toList).flatten:=by
 rw[z8H,List.map_replicate]
 by_cases h:items.isEmpty=true
 ·rw[if_pos h,show items.toList=[] by simpa using h];simp
 ·rw[if_neg h];simp
theorem VRs.rep{w:World}{D:Gh}{vs:List Value}{xs:List V}(h:VRs w D vs xs):∀k:Nat,VRs w D (List.replicate k vs).flatten (List.replicate k xs).flatten
 |0=> .nil
 |k+1=>by rw[List.replicate_succ,List.replicate_succ,List.flatten_cons,List.flatten_cons];exact h.append (h.rep k)
section
variable {C:Cx} {d:Nat} {σ:Sto} {Q:V->Sto->Prop}
set_option tactic.hygienic true in
theorem z84{x:V}{xs:List V}{P:Sto->Prop}{z:Int}{k:Nat}(hzk:z=(k:Int))(h:Has σ x (.list xs) P)(hl:xs.length*k<=1000)(hk:k<=1000)(q:NLf Q (List.replicate k xs).flatten σ):AC2 C d (binaryOp .Mult) x (.int z) σ Q:=λA G D s v u hA R hv hu=>by
 apply Has.isListE h R hv;intro a ws n ho hr
 apply VR.intE hu;intro _
 rename_i t
 have hz:ws.size=xs.length:=by rw[<-hr.length];simp
 have hzt:z.toNat=k:=by rw[hzk];rfl
 have hz1:0<=z:=by lia
 have hz2:z<=1000:=by lia
 have hm:ws.size*z.toNat<=1000:=by rw[hz,hzt];exact hl
 clear hzk
 refine wpAny_binaryOp_repeat_ref (T:="list") (U:="int") (by decide) ⟨_,ho,rfl⟩ (λs'=>typeIs_int s' _ t) noFill_list_mul F.fills_int_mul F.slot_int_rmul repeat_list F.slot_int_index.lookup
  (call_meets F.slot_int_rmul (typeIs_int s _ t) F.entry_int_rmul (F.args_int_rmul_2 _ _) (lm_int_rmul_list_any _ t a ws n none #[])
   ⟨ho,rfl,⟨_,ho,rfl⟩,call_meets F.slot_list_mul ⟨_,ho,rfl⟩ F.entry_list_mul (F.args_list_mul_2 _ _)
    (lm_list_mul_any a ws n none #[] _ t (by simp[Builtin.List.listFitsIndex];lia) (by have:(2^63-1)/8>1000:=(by decide);lia) (by simp[Builtin.List.listTooLong,sizeLine] at hm⊢;lia)) ⟨ho,?_⟩⟩)
 have hr':=hr.rep k
 rw[<-z8C,<-hzt] at hr'
 have:=R.mkLf hr' (by rw[hzt];exact q)
 rw[Array.toArray_toList] at this
 exact this
theorem F2.at{α β:Type}{R:α->β->Prop}{xs:List α}{ys:List β}(h:F2 R xs ys):xs.length=ys.length/\∀(j:Nat) X Y,xs[j]? =some X->ys[j]? =some Y->R X Y:=by
 induction h with
 |nil=>exact⟨rfl,λj X Y h=>by cases h⟩
 |cons a _ ih=>
  refine⟨congrArg (·+1) ih.1,λj X Y h1 h2=> ?_⟩
  cases j with
  |zero=>cases h1;cases h2;exact a
  |succ j=>exact ih.2 j X Y h1 h2
theorem Dn.tF{n:Nat}{xs ys:List V}(h:F2 (Dn σ n) xs ys)(hl:xs.length<=200:=by with_unfolding_all exact Nat.le_of_ble_eq_true rfl):Dn σ (n+1) (.tup xs) (.tup ys):= .tup h.at.1 hl h.at.2
theorem Dn.lF{n:Nat}{xs ys:List V}(h:F2 (Dn σ n) xs ys)(hl:xs.length<=200:=by with_unfolding_all exact Nat.le_of_ble_eq_true rfl):Dn σ (n+1) (.lst xs) (.lst ys):= .lst h.at.1 hl h.at.2
end
end
section
theorem z3j{α:Type}(l:List α):∀n,(List.range n).filterMap (l[·]?)=l.take n
 |0=>rfl
 |n+1=>by
  rw[List.range_succ,List.filterMap_append,z3j l n,List.take_succ]
  cases h:l[n]? <;>simp[h]
set_option tactic.hygienic true in
theorem z88{x:Str}{l u:Option Int}{is:List Nat}(e:Builtin.Str.strSliceIndices l u 1 x.length=is)(h:is.length=x.length->is.filterMap (x.cps.toList[·]?)=x.cps.toList):(Txt.slice x l u).cps.toList=is.filterMap (x.cps.toList[·]?):=by
 unfold Txt.slice
 rw[e]
 split
 ·rename_i h1
  exact(h (by simpa using h1)).symm
 ·simp only[Array.getElem?_toList]
theorem z97{x:Str}{n:Nat}(h:n<=x.length):(Txt.slice x none (some (n:Int))).cps.toList=x.cps.toList.take n:=by
 have e:Builtin.Str.strSliceIndices none (some (n:Int)) 1 x.length=List.range n:=by
  show sliceRange ((0:Nat):Int) (max 0 (min (if(n:Int)<0 then(n:Int)+x.length else n) (x.length:Int))) 1=_
  rw[z6b h,sr1 (Nat.zero_le n),Nat.sub_zero]
  simp
 rw[z88 e,z3j]
 intro hl
 rw[z3j,List.take_of_length_le]
 rw[List.length_range] at hl
 rw[hl];exact Nat.le_refl _
theorem y0d{x:Str}{n:Nat}(h:n<=x.length):(Txt.slice x (some (n:Int)) none).cps.toList=x.cps.toList.drop n:=by
 have e:Builtin.Str.strSliceIndices (some (n:Int)) none 1 x.length=(List.range (x.length-n)).map λk=>n+k:=by
  show sliceRange (max 0 (min (if(n:Int)<0 then(n:Int)+x.length else n) (x.length:Int))) (x.length:Int) 1=_
  rw[z6b h,sr1 h]
 have key:((List.range (x.length-n)).map λk=>n+k).filterMap (x.cps.toList[·]?)=x.cps.toList.drop n:=by
  rw[List.filterMap_map,show((λi=>x.cps.toList[i]?)∘λk=>n+k)=λk=>(x.cps.toList.drop n)[k]? from funext λk=>by rw[List.getElem?_drop];rfl,z3j,List.take_of_length_le]
  rw[List.length_drop];exact Nat.le_refl _
 rw[z88 e,key]
 intro hl
 rw[key]
 rw[List.length_map,List.length_range] at hl
 have:n=0∨x.length=0:=by lia
 rcases this with rfl|h0
 ·rfl
 ·have:x.cps.toList=[]:=List.eq_nil_of_length_eq_zero h0
  rw[this];simp
theorem y38(cs:List Nat):∀acc:Array Nat,((cs.map λc=>(⟨#[c]⟩:Str)).foldl (λacc p=>acc++(Str.ofString "").cps++p.cps) acc).toList=acc.toList++cs:=by
 have e0:(Str.ofString "").cps= #[]:=by decide+kernel
 rw[e0]
 induction cs with
 |nil=>intro acc;simp
 |cons c cs ih=>intro acc;rw[List.map_cons,List.foldl_cons,ih];simp
theorem y4M(cs:List Nat):(Txt.join "" (cs.map λc=>(⟨#[c]⟩:Str))).cps.toList=cs:=by
 unfold Txt.join Builtin.Str.glued
 cases cs with
 |nil=>rfl
 |cons c cs=>exact y38 cs #[c]
theorem y20{g:Nat->Nat}{M:Int}(hg:∀j:Nat,(g j:Int)=97+(M+5*(j:Int))%26){c n x:Nat}(hn:n<=c):((List.range c).map g).take n++[x]++((List.range c).map g).drop n≠[110,111,116,104,105,110,103]:=by
 intro h
 have hl:=congrArg List.length h
 simp only[List.length_append,List.length_take,List.length_drop,List.length_map,List.length_range,List.length_cons,List.length_nil] at hl
 have hc:c=6:=by lia
 subst hc
 have g0:=hg 0
 have g1:=hg 1
 have g2:=hg 2
 have g3:=hg 3
 have g4:=hg 4
 have g5:=hg 5
 have hR:(List.range 6).map g=[g 0,g 1,g 2,g 3,g 4,g 5]:=rfl
 rw[hR] at h
 have:n=0∨n=1∨n=2∨n=3∨n=4∨n=5∨n=6:=by lia
 rcases this with rfl|rfl|rfl|rfl|rfl|rfl|rfl<;>simp at h<;>lia
end
section
section
variable {nx nx':Str->List Str}
theorem Bf.cl{n:Nat}{f w r:List Str}(h:Bf nx n f w r):(∀x∈f,x∈r)/\(∀x∈w,x∈r)/\∀x∈r,x∈f∨∀y∈nx x,y∈r:=by
 induction h with
 |nil=>exact⟨λ_ h=>h,(λ_ h=>by cases h),λx hx=> .inl hx⟩
 |skip hx _ ih=>
  refine⟨ih.1,λy hy=> ?_,ih.2.2⟩
  rcases List.mem_cons.mp hy with rfl|hy
  ·exact ih.1 _ hx
  ·exact ih.2.1 y hy
 | @take n f w r x hx _ ih=>
  obtain⟨h1,h2,h3⟩:=ih
  have hxr:=h1 x (List.mem_append_right _ (.head _))
  refine⟨λy hy=>h1 y (List.mem_append_left _ hy),λy hy=> ?_,λy hy=> ?_⟩
  ·rcases List.mem_cons.mp hy with rfl|hy
   ·exact hxr
   ·exact h2 y (List.mem_append_left _ hy)
  ·rcases h3 y hy with h|h
   ·rcases List.mem_append.mp h with h|h
    ·exact .inl h
    ·rw[List.mem_singleton.mp h];exact .inr λz hz=>h2 z (List.mem_append_right _ hz)
   ·exact .inr h
theorem Bf.inn{S:Str->Prop}(hn:∀x,S x->∀y∈nx x,S y){n:Nat}{f w r:List Str}(h:Bf nx n f w r):(∀x∈f,S x)->(∀x∈w,S x)->∀x∈r,S x:=by
 induction h with
 |nil=>exactλh _=>h
 |skip _ _ ih=>exactλh1 h2=>ih h1 λx hx=>h2 x (.tail _ hx)
 | @take n f w r x _ _ ih=>
  intro h1 h2
  have hx:=h2 x (.head _)
  refine ih (λy hy=> ?_) λy hy=> ?_
  ·rcases List.mem_append.mp hy with h|h
   ·exact h1 y h
   ·rw[List.mem_singleton.mp h];exact hx
  ·rcases List.mem_append.mp hy with h|h
   ·exact h2 y (.tail _ h)
   ·exact hn x hx y h
theorem y32{N N':Nat}{W R R':List Str}(h:Bf nx N [] W R)(h':Bf nx' N' [] W R')(ha:∀x∈R',nx x=nx' x):∀x∈R,x∈R':=
 h.inn (S:=(·∈R')) (λx hx y hy=>by
  rw[ha x hx] at hy
  rcases h'.cl.2.2 x hx with q|q
  ·cases q
  ·exact q y hy) (λ_ h=>by cases h) h'.cl.2.1
end
end
section
noncomputable abbrev K1(C:Cx):W.Frag:=Tp.K C.w.params
structure G1(C:Cx):Prop where
 kin:(K1 C).In C.base
 bi:∀x:Str,x≠"__name__"->C.mb x=bootBuiltins x
 ns:z0N C
 own:∀(x:Str) (a:Addr) (bm:List Value) (n:String),W.nsIn (K1 C) mainGlobals x=some (some (.ref a))->W.excIn (K1 C) a bm n=true->PyProof.Rows.OwnCls x a bm n C.mg C.base
section
variable {C:Cx}
theorem glF(H:G1 C){x:Str}{v:Value}{X:V}(e:W.nsIn (K1 C) mainGlobals x=some (some v))(hv:VR C.w (λ_=>none) v X):z0j C x X:=⟨v,hv,.inl (W.mg_of H.kin C.hg e)⟩
theorem glB(H:G1 C){x:Str}{v:Value}{X:V}(e:W.nsIn (K1 C) mainGlobals x=some none)(hb:bootBuiltins x=some v)(hv:VR C.w (λ_=>none) v X)(hn:x≠"__name__":=by decide+kernel):z0j C x X:=
 ⟨v,hv,.inr ⟨W.mg_none_of H.kin C.hg e,(H.bi x hn).trans hb⟩⟩
end
section
variable {C:Cx}
theorem z0t(H:G1 C):z0j C "isinstance" (.bi "isinstance"):=glB H (by rfl) (by decide+kernel) (.bi _)
theorem y2c(H:G1 C):z0j C "str" (.type "str"):=glB H (by rfl) (by decide+kernel) (.type _)
theorem z00(H:G1 C):z0j C "len" (.bi "len"):=glB H (by rfl) (by decide+kernel) (.bi _)
theorem z5d(H:G1 C):z0j C "MOST_LETTERS" (.int 8):=glF H (by rfl) (.int _ _)
theorem z6y(H:G1 C):z0j C "all" (.bi "all"):=glB H (by rfl) (by decide+kernel) (.bi _)
theorem y0b(H:G1 C):z0j C "LETTERS" (.str "abcdefghijklmnopqrstuvwxyz"):=glF H (by rfl) (.str _ _)
theorem y1V(H:G1 C):z0j C "int" (.type "int"):=glB H (by rfl) (by decide+kernel) (.type _)
theorem y1k(H:G1 C):z0j C "bool" (.type "bool"):=glB H (by rfl) (by decide+kernel) (.type _)
theorem z7O(H:G1 C):z0j C "MOST_MAKE" (.int 999):=glF H (by rfl) (.int _ _)
theorem z12(H:G1 C):z0j C "tuple" (.type "tuple"):=glB H (by rfl) (by decide+kernel) (.type _)
theorem z1K(H:G1 C):z0j C "is_ware" (.ref 135):=glF H (by rfl) (.ref _)
theorem z2o(H:G1 C):z0j C "is_make" (.ref 142):=glF H (by rfl) (.ref _)
theorem z03(H:G1 C):z0j C "list" (.type "list"):=glB H (by rfl) (by decide+kernel) (.type _)
theorem z3v(H:G1 C):z0j C "MOST_WISHES" (.int 8):=glF H (by rfl) (.int _ _)
theorem z6z(H:G1 C):z0j C "BadWish" (.ref 116):=glF H (by rfl) (.ref _)
theorem z6x(H:G1 C):z0j C "is_need" (.ref 149):=glF H (by rfl) (.ref _)
theorem z3x(H:G1 C):z0j C "dict" (.type "dict"):=glB H (by rfl) (by decide+kernel) (.type _)
theorem z1J(H:G1 C):z0j C "BadPick" (.ref 128):=glF H (by rfl) (.ref _)
theorem z8t(H:G1 C):z0j C "within" (.ref 156):=glF H (by rfl) (.ref _)
theorem z2C(H:G1 C):z0j C "sorted" (.bi "sorted"):=glB H (by rfl) (by decide+kernel) (.bi _)
theorem z3a(H:G1 C):z0j C "agenda_of" (.ref 173):=glF H (by rfl) (.ref _)
theorem z7H(H:G1 C):z0j C "is_met" (.ref 180):=glF H (by rfl) (.ref _)
theorem z1P(H:G1 C):z0j C "need_wish" (.ref 161):=glF H (by rfl) (.ref _)
theorem z29(H:G1 C):z0j C "need_pick" (.ref 166):=glF H (by rfl) (.ref _)
theorem z4I(H:G1 C):z0j C "meets_all" (.ref 185):=glF H (by rfl) (.ref _)
theorem z8g(H:G1 C):z0j C "is_number" (.ref 213):=glF H (by rfl) (.ref _)
theorem z68(H:G1 C):z0j C "is_granted" (.ref 227):=glF H (by rfl) (.ref _)
theorem z8T(H:G1 C):z0j C "reversed" (.type "reversed"):=glB H (by rfl) (by decide+kernel) (.type _)
theorem z9Q(H:G1 C):z0j C "left_by" (.ref 239):=glF H (by rfl) (.ref _)
theorem z4R(H:G1 C):z0j C "is_branch_row" (.ref 246):=glF H (by rfl) (.ref _)
theorem z5H(H:G1 C):z0j C "holds_by" (.ref 251):=glF H (by rfl) (.ref _)
theorem z6U(H:G1 C):z0j C "stretch_of" (.ref 234):=glF H (by rfl) (.ref _)
theorem z6Q(H:G1 C):z0j C "granted_of" (.ref 220):=glF H (by rfl) (.ref _)
theorem z2H(H:G1 C):z0j C "range" (.type "range"):=glB H (by rfl) (by decide+kernel) (.type _)
theorem y0j(H:G1 C):z0j C "settled" (.ref 282):=glF H (by rfl) (.ref _)
theorem z6Z(H:G1 C):z0j C "MOST_NEEDS" (.int 6):=glF H (by rfl) (.int _ _)
theorem z6A(H:G1 C):z0j C "BadNeed" (.ref 68):=glF H (by rfl) (.ref _)
theorem z4q(H:G1 C):z0j C "BadWare" (.ref 44):=glF H (by rfl) (.ref _)
theorem z6k(H:G1 C):z0j C "BadMake" (.ref 56):=glF H (by rfl) (.ref _)
theorem z66(H:G1 C):z0j C "need_needs" (.ref 296):=glF H (by rfl) (.ref _)
theorem z9u(H:G1 C):z0j C "Twice" (.ref 80):=glF H (by rfl) (.ref _)
theorem z61(H:G1 C):z0j C "MOST_WARES" (.int 12):=glF H (by rfl) (.int _ _)
theorem y0u(H:G1 C):z0j C "Full" (.ref 92):=glF H (by rfl) (.ref _)
theorem z63(H:G1 C):z0j C "MOST_MAKES" (.int 8):=glF H (by rfl) (.int _ _)
theorem z7E(H:G1 C):z0j C "NoMake" (.ref 104):=glF H (by rfl) (.ref _)
theorem z1d(H:G1 C):z0j C "_law_mixed" (.ref 366):=glF H (by rfl) (.ref _)
theorem y4J(H:G1 C):z0j C "min" (.bi "min"):=glB H (by rfl) (by decide+kernel) (.bi _)
theorem y3I(H:G1 C):z0j C "max" (.bi "max"):=glB H (by rfl) (by decide+kernel) (.bi _)
theorem z2Z(H:G1 C):z0j C "_law_stretch" (.ref 378):=glF H (by rfl) (.ref _)
theorem z3U(H:G1 C):z0j C "_law_names" (.ref 371):=glF H (by rfl) (.ref _)
theorem z7a(H:G1 C):z0j C "_law_needs" (.ref 383):=glF H (by rfl) (.ref _)
theorem y3Z(H:G1 C):z0j C "Shop" (.ref 355):=glF H (by rfl) (.ref _)
theorem z51(H:G1 C):z0j C "_law_agenda" (.ref 407):=glF H (by rfl) (.ref _)
theorem z3T(H:G1 C):z0j C "_law_meets" (.ref 414):=glF H (by rfl) (.ref _)
theorem z2W(H:G1 C):z0j C "_law_bad_pair" (.ref 429):=glF H (by rfl) (.ref _)
theorem y0t(H:G1 C):z0j C "agenda" (.ref 192):=glF H (by rfl) (.ref _)
theorem y2W(H:G1 C):z0j C "meets" (.ref 199):=glF H (by rfl) (.ref _)
theorem y3a(H:G1 C):z0j C "newer" (.ref 206):=glF H (by rfl) (.ref _)
theorem y3g(H:G1 C):z0j C "holds" (.ref 258):=glF H (by rfl) (.ref _)
theorem y18(H:G1 C):z0j C "settle" (.ref 289):=glF H (by rfl) (.ref _)
theorem z65(H:G1 C):z0j C "_law_asked" (.ref 446):=glF H (by rfl) (.ref _)
theorem z7X(H:G1 C):z0j C "PickError" (.ref 31):=glF H (by rfl) (.ref _)
theorem z6J(H:G1 C):z0j C "ValueError" (.type "ValueError"):=glB H (by rfl) (by decide+kernel) (.type _)
theorem z4v(H:G1 C):z0j C "_law_bad_pairs" (.ref 439):=glF H (by rfl) (.ref _)
theorem z4W(H:G1 C):z0j C "_law_bad_pick" (.ref 434):=glF H (by rfl) (.ref _)
theorem z4X(H:G1 C):z0j C "_law_bad_wish" (.ref 424):=glF H (by rfl) (.ref _)
theorem z79(H:G1 C):z0j C "_law_rows" (.ref 388):=glF H (by rfl) (.ref _)
theorem z8a(H:G1 C):z0j C "_law_wish" (.ref 395):=glF H (by rfl) (.ref _)
theorem z8l(H:G1 C):z0j C "_law_shop" (.ref 402):=glF H (by rfl) (.ref _)
theorem z4l(H:G1 C):z0j C "_law_all_picks" (.ref 419):=glF H (by rfl) (.ref _)
theorem z74(H:G1 C):z0j C "_law_deed" (.ref 458):=glF H (by rfl) (.ref _)
theorem z5D(H:G1 C):z0j C "_law_refused" (.ref 451):=glF H (by rfl) (.ref _)
theorem y3j(H:G1 C):z0l C (.ref 21):=z0e H.kin rfl rfl
theorem z96(H:G1 C):z0l C (.ref 135):=z0e H.kin rfl rfl
theorem z91(H:G1 C):z0l C (.ref 142):=z0e H.kin rfl rfl
theorem z6h(H:G1 C):z0l C (.ref 149):=z0e H.kin rfl rfl
theorem z7K(H:G1 C):z0l C (.ref 156):=z0e H.kin rfl rfl
theorem z1q(H:G1 C):z0l C (.ref 161):=z0e H.kin rfl rfl
theorem z1U(H:G1 C):z0l C (.ref 166):=z0e H.kin rfl rfl
theorem z25(H:G1 C):z0l C (.ref 173):=z0e H.kin rfl rfl
theorem z5G(H:G1 C):z0l C (.ref 180):=z0e H.kin rfl rfl
theorem z2h(H:G1 C):z0l C (.ref 185):=z0e H.kin rfl rfl
theorem z8d(H:G1 C):z0l C (.ref 192):=z0e H.kin rfl rfl
theorem z9C(H:G1 C):z0l C (.ref 199):=z0e H.kin rfl rfl
theorem z6R(H:G1 C):z0l C (.ref 206):=z0e H.kin rfl rfl
theorem z7F(H:G1 C):z0l C (.ref 213):=z0e H.kin rfl rfl
theorem z4h(H:G1 C):z0l C (.ref 220):=z0e H.kin rfl rfl
theorem z6D(H:G1 C):z0l C (.ref 227):=z0e H.kin rfl rfl
theorem z2I(H:G1 C):z0l C (.ref 234):=z0e H.kin rfl rfl
theorem y0a(H:G1 C):z0l C (.ref 239):=z0e H.kin rfl rfl
theorem z4U(H:G1 C):z0l C (.ref 246):=z0e H.kin rfl rfl
theorem z5Q(H:G1 C):z0l C (.ref 251):=z0e H.kin rfl rfl
theorem z9d(H:G1 C):z0l C (.ref 258):=z0e H.kin rfl rfl
theorem z5U(H:G1 C):z0l C (.ref 263):=z0e H.kin rfl rfl
theorem y2P(H:G1 C):z0l C (.ref 270):=z0e H.kin rfl rfl
theorem y0c(H:G1 C):z0l C (.ref 277):=z0e H.kin rfl rfl
theorem y0e(H:G1 C):z0l C (.ref 282):=z0e H.kin rfl rfl
theorem z7G(H:G1 C):z0l C (.ref 289):=z0e H.kin rfl rfl
theorem z6M(H:G1 C):z0l C (.ref 296):=z0e H.kin rfl rfl
theorem z4S(H:G1 C):z0l C (.ref 310):=z0e H.kin rfl rfl
theorem z5I(H:G1 C):z0l C (.ref 317):=z0e H.kin rfl rfl
theorem z5E(H:G1 C):z0l C (.ref 324):=z0e H.kin rfl rfl
theorem z4N(H:G1 C):z0l C (.ref 331):=z0e H.kin rfl rfl
theorem z3V(H:G1 C):z0l C (.ref 338):=z0e H.kin rfl rfl
theorem z3R(H:G1 C):z0l C (.ref 345):=z0e H.kin rfl rfl
theorem z3I(H:G1 C):z0l C (.ref 352):=z0e H.kin rfl rfl
theorem z7x(H:G1 C):z0l C (.ref 366):=z0e H.kin rfl rfl
theorem z6Y(H:G1 C):z0l C (.ref 371):=z0e H.kin rfl rfl
theorem z5N(H:G1 C):z0l C (.ref 378):=z0e H.kin rfl rfl
theorem z6O(H:G1 C):z0l C (.ref 383):=z0e H.kin rfl rfl
theorem z8q(H:G1 C):z0l C (.ref 388):=z0e H.kin rfl rfl
theorem z8b(H:G1 C):z0l C (.ref 395):=z0e H.kin rfl rfl
theorem z8z(H:G1 C):z0l C (.ref 402):=z0e H.kin rfl rfl
theorem z53(H:G1 C):z0l C (.ref 407):=z0e H.kin rfl rfl
theorem z3N(H:G1 C):z0l C (.ref 414):=z0e H.kin rfl rfl
theorem z4s(H:G1 C):z0l C (.ref 419):=z0e H.kin rfl rfl
theorem z4T(H:G1 C):z0l C (.ref 424):=z0e H.kin rfl rfl
theorem z2S(H:G1 C):z0l C (.ref 429):=z0e H.kin rfl rfl
theorem z2X(H:G1 C):z0l C (.ref 434):=z0e H.kin rfl rfl
theorem z2t(H:G1 C):z0l C (.ref 439):=z0e H.kin rfl rfl
theorem z4b(H:G1 C):z0l C (.ref 446):=z0e H.kin rfl rfl
theorem z1z(H:G1 C):z0l C (.ref 451):=z0e H.kin rfl rfl
theorem z4E(H:G1 C):z0l C (.ref 458):=z0e H.kin rfl rfl
theorem y4O(H:G1 C):z0l C (.ref 463):=z0e H.kin rfl rfl
theorem y1N(H:G1 C):ClassAt C (K1 C) 355 310:=⟨H.kin,rfl,rfl,rfl,rfl⟩
theorem z3y(H:G1 C):MethAt C (K1 C) 355 "has" 317:=⟨H.kin,rfl,rfl,rfl,rfl,z5I H⟩
theorem z5h(H:G1 C):MethAt C (K1 C) 355 "put" 324:=⟨H.kin,rfl,rfl,rfl,rfl,z5E H⟩
theorem z76(H:G1 C):MethAt C (K1 C) 355 "take" 331:=⟨H.kin,rfl,rfl,rfl,rfl,z4N H⟩
theorem z6T(H:G1 C):MethAt C (K1 C) 355 "makes" 338:=⟨H.kin,rfl,rfl,rfl,rfl,z3V H⟩
theorem z4a(H:G1 C):MethAt C (K1 C) 355 "needs" 345:=⟨H.kin,rfl,rfl,rfl,rfl,z3R H⟩
theorem z7k(H:G1 C):MethAt C (K1 C) 355 "wares" 352:=⟨H.kin,rfl,rfl,rfl,rfl,z3I H⟩
theorem z8h(H:G1 C):AttrAt C (K1 C) 355 "kept":=⟨H.kin,rfl,⟨_,rfl,rfl⟩,rfl⟩
theorem z75(H:G1 C):StoreAt C (K1 C) 355 "kept":=⟨H.kin,rfl,rfl,rfl,rfl⟩
end
end
section
set_option tactic.hygienic true in
theorem z4c{a b:Int}(h:b.natAbs<2^63):IntMulOk a b:=by
 refine IntMulOk.of_right ?_
 unfold Builtin.Int.intBits
 have:=z8P (n:=b) (by lia)
 split
 ·lia
 ·rename_i h0
  have:b.natAbs.log2<63:=(Nat.log2_lt (by simpa using h0)).mpr h
  lia
section
variable {C:Cx} [HM C] [NF C] {d:Nat} {σ:Sto} {Q:V->Sto->Prop}
theorem z9V{x:Str}{X:V}(h:X∈z1y x):∃c∈x.cps.toList,X= .str ⟨#[c]⟩:=by
 unfold z1y at h
 apply z0o h;intro c hc
 exact⟨c,hc,rfl⟩
theorem z92(x:Str):(z1y x).length=x.length:=by simp[z1y,Str.length]
noncomputable def wareV:V->Bool
 | .str x=>decide (1<=x.length)&&(decide (x.length<=8)&&x.cps.toList.all z22)
 |_=>false
noncomputable def letV:V->V
 | .str x=> .bool (z22 (x.cps.getD 0 0))
 |v=>v
theorem y0m(x:Str):(z1y x).map letV=(x.cps.toList.map z22).map V.bool:=by
 simp[z1y,letV]
theorem y2d{t:V}(h:tkB t .str=false):wareV t=false:=by cases t<;>first|rfl|exact tf h|exact ff h
theorem z4f{x:Str}(h:Ware x):wareV (.str x)=true:=by
 show(decide (1<=x.length)&&(decide (x.length<=8)&&x.cps.toList.all z22))=true
 rw[decide_eq_true h.lo,decide_eq_true h.hi,List.all_eq_true.mpr h.lt];rfl
theorem z5t{x:Str}(h:wareV (.str x)=true):Ware x:=by
 have h:(decide (1<=x.length)&&(decide (x.length<=8)&&x.cps.toList.all z22))=true:=h
 rw[Bool.and_eq_true,Bool.and_eq_true] at h
 exact⟨of_decide_eq_true h.1,of_decide_eq_true h.2.1,List.all_eq_true.mp h.2.2⟩
theorem Ware.asc{x:Str}(h:Ware x):Asc x:=⟨Nat.le_trans h.hi (by decide),λc hc=>by have:=h.lt c hc;simp[z22] at this;lia⟩
noncomputable def fnL:List Nat:=[21,135,142,149,156,161,166,173,180,185,192,199,206,213,220,227,234,239,246,251,258,263,270,277,282,289,296,310,317,324,331,338,345,352,366,371,378,383,388,395,402,407,414,419,424,429,434,439,446,451,458,463]
noncomputable def mtL:List (Nat×Str×Nat):=[(355,"has",317),(355,"put",324),(355,"take",331),(355,"makes",338),(355,"needs",345),(355,"wares",352)]
theorem z0x(H:G1 C):∀a∈fnL,z0l C (.ref a):=(List.forall_mem_cons.mpr ⟨y3j H,(List.forall_mem_cons.mpr ⟨z96 H,(List.forall_mem_cons.mpr ⟨z91 H,(List.forall_mem_cons.mpr ⟨z6h H,(List.forall_mem_cons.mpr ⟨z7K H,(List.forall_mem_cons.mpr ⟨z1q H,(List.forall_mem_cons.mpr ⟨z1U H,(List.forall_mem_cons.mpr ⟨z25 H,(List.forall_mem_cons.mpr ⟨z5G H,(List.forall_mem_cons.mpr ⟨z2h H,(List.forall_mem_cons.mpr ⟨z8d H,(List.forall_mem_cons.mpr ⟨z9C H,(List.forall_mem_cons.mpr ⟨z6R H,(List.forall_mem_cons.mpr ⟨z7F H,(List.forall_mem_cons.mpr ⟨z4h H,(List.forall_mem_cons.mpr ⟨z6D H,(List.forall_mem_cons.mpr ⟨z2I H,(List.forall_mem_cons.mpr ⟨y0a H,(List.forall_mem_cons.mpr ⟨z4U H,(List.forall_mem_cons.mpr ⟨z5Q H,(List.forall_mem_cons.mpr ⟨z9d H,(List.forall_mem_cons.mpr ⟨z5U H,(List.forall_mem_cons.mpr ⟨y2P H,(List.forall_mem_cons.mpr ⟨y0c H,(List.forall_mem_cons.mpr ⟨y0e H,(List.forall_mem_cons.mpr ⟨z7G H,(List.forall_mem_cons.mpr ⟨z6M H,(List.forall_mem_cons.mpr ⟨z4S H,(List.forall_mem_cons.mpr ⟨z5I H,(List.forall_mem_cons.mpr ⟨z5E H,(List.forall_mem_cons.mpr ⟨z4N H,(List.forall_mem_cons.mpr ⟨z3V H,(List.forall_mem_cons.mpr ⟨z3R H,(List.forall_mem_cons.mpr ⟨z3I H,(List.forall_mem_cons.mpr ⟨z7x H,(List.forall_mem_cons.mpr ⟨z6Y H,(List.forall_mem_cons.mpr ⟨z5N H,(List.forall_mem_cons.mpr ⟨z6O H,(List.forall_mem_cons.mpr ⟨z8q H,(List.forall_mem_cons.mpr ⟨z8b H,(List.forall_mem_cons.mpr ⟨z8z H,(List.forall_mem_cons.mpr ⟨z53 H,(List.forall_mem_cons.mpr ⟨z3N H,(List.forall_mem_cons.mpr ⟨z4s H,(List.forall_mem_cons.mpr ⟨z4T H,(List.forall_mem_cons.mpr ⟨z2S H,(List.forall_mem_cons.mpr ⟨z2X H,(List.forall_mem_cons.mpr ⟨z2t H,(List.forall_mem_cons.mpr ⟨z4b H,(List.forall_mem_cons.mpr ⟨z1z H,(List.forall_mem_cons.mpr ⟨z4E H,(List.forall_mem_cons.mpr ⟨y4O H,(λ_ h=>by cases h)⟩)⟩)⟩)⟩)⟩)⟩)⟩)⟩)⟩)⟩)⟩)⟩)⟩)⟩)⟩)⟩)⟩)⟩)⟩)⟩)⟩)⟩)⟩)⟩)⟩)⟩)⟩)⟩)⟩)⟩)⟩)⟩)⟩)⟩)⟩)⟩)⟩)⟩)⟩)⟩)⟩)⟩)⟩)⟩)⟩)⟩)⟩)⟩)⟩)⟩)⟩)⟩)
noncomputable def atL:List (Nat×Str):=[(355,"kept")]
theorem z0A(H:G1 C):(∀q∈mtL,∃K,MethAt C K q.1 q.2.1 q.2.2)/\∀q∈atL,∃K,AttrAt C K q.1 q.2:=⟨(List.forall_mem_cons.mpr ⟨⟨_,z3y H⟩,(List.forall_mem_cons.mpr ⟨⟨_,z5h H⟩,(List.forall_mem_cons.mpr ⟨⟨_,z76 H⟩,(List.forall_mem_cons.mpr ⟨⟨_,z6T H⟩,(List.forall_mem_cons.mpr ⟨⟨_,z4a H⟩,(List.forall_mem_cons.mpr ⟨⟨_,z7k H⟩,(λ_ h=>by cases h)⟩)⟩)⟩)⟩)⟩)⟩),(List.forall_mem_cons.mpr ⟨⟨_,z8h H⟩,(λ_ h=>by cases h)⟩)⟩
noncomputable def z4t(r1:Expr):TC:=⟨[.loc 0,.isi .str,.tvalc,.not,.mop .Or [.psh (.int 1),.loc 0,.len,.tcm2 .LtE [.psh (.int 8),.tcmpc .LtE],.not,.mop .Or [.psh (.bool false)]],.ife [.psh (.bool false),.ret] [],.raw r1,.call (.bi "all") 1,.ret],[.inr r1],[([1],some [1])]⟩
--z4t 1
noncomputable def t_is_make:TC:=⟨[.loc 0,.isi .int,.vop .And [.loc 0,.isi .bool,.una .Not,.vop .And [.psh (.int 1),.loc 0,.cm2 .LtE [.psh (.int 999),.cmpc .LtE]]],.ret],[],[]⟩
--t_is_make 0
noncomputable def t_is_need:TC:=⟨[.loc 0,.isi .tup,.tvalc,.not,.mop .Or [.loc 0,.len,.psh (.int 3),.tcmpc .NotEq,.mop .Or [.psh (.bool false)]],.ife [.psh (.bool false),.ret] [],.loc 0,.subT 0,.call (.ref 135) 1,.vop .And [.loc 0,.subT 1,.call (.ref 142) 1,.vop .And [.loc 0,.subT 2,.call (.ref 142) 1,.vop .And [.loc 0,.subT 1,.loc 0,.subT 2,.cmpc .LtE]]],.ret],[],[]⟩
--t_is_need 0
noncomputable def t__law_mixed:TC:=⟨[.psh (.int 0),.asg 2,.cut [.loc 0,.len,.psh (.int 0),.tcmpc .Gt,.ife [.loc 0,.loc 1,.loc 0,.len,.binc .Mod,.sub,.asg 2] []],.loc 2,.psh (.int 7919),.loc 1,.binc .Mult,.binc .Add,.psh (.int 48271),.binc .Mult,.psh (.int 2147483647),.binc .Mod,.asg 3,.loc 3,.psh (.int 16807),.loc 1,.loc 1,.binc .Mult,.binc .Add,.binc .Mult,.psh (.int 2147483629),.binc .Mod,.ret],[],[]⟩
--t__law_mixed 0
theorem z8A{v t:V}{n:Nat}{k:TK}{b:Bool}(h:Dn σ n v t)(hb:tkB t k=b)(q:Q (.bool b) σ):cQ ((y4l v k).map .bool) σ Q (KW C d (.bi "isinstance") [v,.type k.n] σ Q):=by
 subst hb
 cases h with
 |dict ha=>exact⟨y0l (n:=0) (.dict ha) q⟩
 |ref ha a b c=>exact⟨y0l (.ref ha a b c) q⟩
 |none=>exact q
 |bool b=>exact q
 |int i=>exact q
 |str x hx=>exact q
 |tup a b c=>exact q
 |lst a b c=>exact q
inductive StrSh(σ:Sto):V->V->Prop
 |no {n:Nat} {v t:V}:Dn σ n v t->tkB t .str=false->StrSh σ v t
 |str {x:Str}:Asc x->StrSh σ (.str x) (.str x)
theorem Dn.ssh{v t:V}{n:Nat}(h:Dn σ n v t):StrSh σ v t:=by
 cases hk:tkB t .str with
 |false=>exact .no h hk
 |true=>obtain⟨x,rfl,rfl,hx⟩:=h.strI hk;exact .str hx
inductive IntSh(σ:Sto):V->V->Prop
 |no {n:Nat} {v t:V}:Dn σ n v t->tkB t .int=false->IntSh σ v t
 |bool {b:Bool}:IntSh σ (.bool b) (.bool b)
 |int {i:Int}:IntSh σ (.int i) (.int i)
theorem Dn.ish{v t:V}{n:Nat}(h:Dn σ n v t):IntSh σ v t:=by
 cases hk:tkB t .int with
 |false=>exact .no h hk
 |true=>cases h<;>first|exact .bool|exact .int|cases hk
theorem z3B(H:G1 C){v t:V}{n:Nat}(h:Dn σ n v t)(q:Q (.bool (wareV t)) σ):CW C (d+1) (.ref 135) [v] σ Q:=by
 refine z08 (G1.kin (by assumption)) ["thing"] [("isinstance",.bi "isinstance"),("str",.type "str"),("len",.bi "len"),("MOST_LETTERS",.int 8),("all",.bi "all")] (by kernel_rfl) (vs1 λ_=>by kernel_rfl) rfl (z0a (z0t (by assumption)) (z0a (y2c (by assumption)) (z0a (z00 (by assumption)) (z0a (z5d (by assumption)) (z0a (z6y (by assumption)) GL_nil))))) ?_
 intro env hsc
 cases h.ssh with
 |no h hk=>
  rw[y2d hk] at q
  refine z0n (z0x H) (z0A H) (z4t _) (by exact rfl) (by kernel_rfl) ?_
  intro F m0
  exact z8A h hk q
 | @str x hx=>
  have hxs:x.length<=sizeLine:=z0y (Nat.le_trans hx.1 (by decide))
  refine z0n (z0x H) (z0A H) (z4t _) (by exact rfl) (by kernel_rfl) ?_
  intro F m0
  refine Leaf.mk (y1o hxs ?_)
  have q:Q (.bool (decide (1<=x.length)&&(decide (x.length<=8)&&x.cps.toList.all z22))) σ:=q
  refine z0T (λh1=> ?_) λh1=> ?_
  rotate_left
  ·exact qB q (by rw[decide_eq_false (λh=>of_decide_eq_false h1 (Int.ofNat_le.mpr h))];rfl)
  refine z0T (λh8=> ?_) λh8=> ?_
  ·exact qB q (by rw[decide_eq_false (λh=>of_decide_eq_false ((Bool.not_eq_true' _).mp h8) (Int.ofNat_le.mpr h)),Bool.false_and,Bool.and_false])
  have e1:decide (1<=x.length)=true:=decide_eq_true (Int.ofNat_le.mp (of_decide_eq_true h1))
  have e2:decide (x.length<=8)=true:=decide_eq_true (Int.ofNat_le.mp (of_decide_eq_true ((Bool.not_eq_false' _).mp h8)))
  have q:=qB q (show _=x.cps.toList.all z22 by rw[e1,e2];rfl)
  clear e1 e2 h1 h8
  refine Leaf.mk ?_
  show AT C env ["thing"] _ true _ (eval _ env) [some (.str x)] _ _
  refine z0H "sign" [] [("LETTERS",.str "abcdefghijklmnopqrstuvwxyz")] (by rw[hsc];kernel_rfl) (z0a (y0b H) GL_nil) .nil (y3R (z0d ⟨x,rfl,by rw[z92];exact hxs,λenv' he=>z0K (f:=letV) (z0r he (by decide+kernel)) trivial _ _ _ (λX hX K hK=> ?_) ?_⟩))
  ·obtain⟨c,hc,rfl⟩:=z9V hX
   repeat' with_reducible first|refine z0d ?_|refine z0s ?_|refine z9H ?_|refine y4W ?_
   rw[let_small c (hx.2 c hc)];exact hK
  ·rw[List.nil_append,y0m]
   refine Leaf.mk (z59 (.lst _) ?_)
   exact qB q (by rw[List.all_map];rfl)
theorem z2B(H:G1 C){x:Str}(h:Ware x)(q:Q (.bool true) σ):CW C (d+1) (.ref 135) [.str x] σ Q:=z3B H (n:=0) (.str x h.asc) (by rw[z4f h];exact q)
noncomputable def makeV:V->Bool
 | .int i=>decide (1<=i)&&decide (i<=999)
 |_=>false
theorem y0L{t:V}(h:tkB t .int=false):makeV t=false:=by cases t<;>first|rfl|exact tf h|exact ff h
set_option tactic.hygienic true in
theorem z3q{t:V}(h:makeV t=true):∃i,t= .int i/\1<=i/\i<=999:=by
 cases t<;>first|(cases h;done)|skip
 rename_i i
 have h:(decide (1<=i)&&decide (i<=999))=true:=h
 rw[Bool.and_eq_true] at h
 exact⟨i,rfl,of_decide_eq_true h.1,of_decide_eq_true h.2⟩
theorem z2G(H:G1 C){v t:V}{n:Nat}(h:Dn σ n v t)(q:Q (.bool (makeV t)) σ):CW C (d+1) (.ref 142) [v] σ Q:=by
 refine z08 (G1.kin (by assumption)) ["thing"] [("isinstance",.bi "isinstance"),("int",.type "int"),("bool",.type "bool"),("MOST_MAKE",.int 999)] (by kernel_rfl) (vs1 λ_=>by kernel_rfl) rfl (z0a (z0t (by assumption)) (z0a (y1V (by assumption)) (z0a (y1k (by assumption)) (z0a (z7O (by assumption)) GL_nil)))) ?_
 intro env hsc
 clear hsc
 refine z0n (z0x H) (z0A H) t_is_make rfl (by kernel_rfl) ?_
 intro F m0
 cases h.ish with
 |no h hk=>exact z8A h hk (qB q (y0L hk))
 |bool=>exact⟨z30 z2j q⟩
 | @int i=>
  refine Leaf.mk (z30 z2j ?_)
  have q:Q (.bool (decide (1<=i)&&decide (i<=999))) σ:=q
  exact z0T (λh=>qB q (by rw[h];rfl)) λh=>qB q (by rw[h];rfl)
theorem z3k(H:G1 C){i:Int}(h1:1<=i)(h2:i<=999)(q:Q (.bool true) σ):CW C (d+1) (.ref 142) [.int i] σ Q:=z2G H (n:=0) (.int i) (qB q (by show true=(decide (1<=i)&&decide (i<=999));rw[decide_eq_true h1,decide_eq_true h2];rfl))
noncomputable def z0m(n:Str×Int×Int):V:= .tup [.str n.1,.int n.2.1,.int n.2.2]
structure NeedOk(n:Str×Int×Int):Prop where
 w:Ware n.1
 lo:1<=n.2.1
 le:n.2.1<=n.2.2
 hi:n.2.2<=999
theorem z99(H:G1 C){n:Str×Int×Int}(h:NeedOk n)(q:Q (.bool true) σ):CW C (d+2) (.ref 149) [z0m n] σ Q:=by
 refine z08 (G1.kin (by assumption)) ["thing"] [("isinstance",.bi "isinstance"),("tuple",.type "tuple"),("len",.bi "len"),("is_ware",.ref 135),("is_make",.ref 142)] (by kernel_rfl) (vs1 λ_=>by kernel_rfl) rfl (z0a (z0t (by assumption)) (z0a (z12 (by assumption)) (z0a (z00 (by assumption)) (z0a (z1K (by assumption)) (z0a (z2o (by assumption)) GL_nil))))) ?_
 intro env hsc
 clear hsc
 refine z0n (z0x H) (z0A H) t_is_need rfl (by kernel_rfl) ?_
 intro F m0
 refine Leaf.mk (fnc (z2B H h.w ?_))
 refine Leaf.mk (fnc (z3k H h.lo (Int.le_trans h.le h.hi) ?_))
 refine Leaf.mk (fnc (z3k H (Int.le_trans h.lo h.le) h.hi ?_))
 exact qB q (decide_eq_true h.le).symm
theorem z0J(H:G1 C){xs:List Int}{k:Int}(hx:xs.length<=100)(h0:0<=k)(hk:k<1000)(q:∀n:Int,0<=n->n<2147483629->Q (.int n) σ):CW C (d+1) (.ref 366) [.lst (xs.map V.int),.int k] σ Q:=by
 obtain⟨k,rfl⟩:=Int.eq_ofNat_of_zero_le h0
 have hk:k<1000:=Int.ofNat_lt.mp hk
 refine z08 (G1.kin (by assumption)) ["_law_script","_law_k","_law_cell","_law_number"] [("len",.bi "len")] (by kernel_rfl) (vs2 λ_ _=>by kernel_rfl) rfl (z0a (z00 (by assumption)) GL_nil) ?_
 intro env hsc
 clear hsc
 have hz:(xs.map V.int).length=xs.length:=List.length_map _
 have hl:(xs.map V.int).length<=sizeLine:=z0M hx (by decide)
 have hk2:k*k<1000*1000:=Nat.mul_lt_mul'' hk hk
 have o1:IntMulOk (7919:Int) (k:Int):=IntMulOk.of_left (by with_unfolding_all decide)
 have o2:∀a:Int,IntMulOk a 48271:=λa=>z4c (by decide)
 have o3:IntMulOk (k:Int) (k:Int):=z4c (by lia)
 have o4:∀a:Int,IntMulOk a (16807+(k:Int)*(k:Int)):=λa=>z4c (show(16807+((k*k:Nat):Int)).natAbs<2^63 by lia)
 have hq:∀a:Int,Q (.int (a.fmod 2147483629)) σ:=λa=>q _ (Int.fmod_nonneg_of_pos _ (by decide)) (Int.fmod_lt_of_pos _ (by decide))
 clear q hk2
 refine z0n (z0x H) (z0A H) t__law_mixed rfl (by kernel_rfl) ?_
 intro F m0
 refine z3w (α:=Int) (λ_=>True) (λc=>[some (.lst (xs.map V.int)),some (.int (k:Int)),some (.int c),none]) σ (λK hK _=> ?_) λc _=> ?_
 ·clear hq o1 o2 o3 o4
  refine Leaf.mk (z1o (.lst _) hz hl ?_)
  refine z0T (λh0=> ?_) λh0=> ?_
  ·have h0:=Int.ofNat_lt.mp (of_decide_eq_true h0)
   refine Leaf.mk (z1o (.lst _) hz hl ?_)
   refine z2g h0 λj hj=> ?_
   refine Leaf.mk (z01 (.lst _) (Nat.lt_of_lt_of_le hj (Nat.le_trans hx (by decide))) (z1H (List.getElem?_eq_getElem hj)) ?_)
   exact hK _ trivial
  ·exact hK 0 trivial
 refine Leaf.mk (z3O ?_ o1)
 refine Leaf.mk (z3O ?_ (o2 _))
 refine Leaf.mk (z3O ?_ o3)
 refine Leaf.mk (z3O ?_ (o4 _))
 exact hq _
end
end
section
section
variable {C:Cx} [HM C] [NF C] {d:Nat} {σ:Sto} {Q:V->Sto->Prop}
theorem y1U{a b x:Int}(q:∀i,(i=a∨i=b)->Q (.int i) σ):SubR C d (.lst [.int a,.int b]) (.int (x.fmod 2)) σ Q:=
 y4Q (Int.fmod_nonneg_of_pos _ (by decide)) (Int.fmod_lt_of_pos _ (by decide)) (q a (.inl rfl)) (q b (.inr rfl))
noncomputable def z4j(a:Int):Nat:=(("abcdefghijklmnopqrstuvwxyz":Str).cps[(a.fmod 26).toNat]?).getD 0
theorem z38(a:Int):("abcdefghijklmnopqrstuvwxyz":Str).cps[(a.fmod 26).toNat]? =some (z4j a)/\z22 (z4j a)=true:=by
 obtain⟨c,hc,hb⟩:=z8V (Int.fmod_nonneg_of_pos a (by decide:(0:Int)<26)) (Int.fmod_lt_of_pos a (by decide))
 unfold z4j
 rw[hc];exact⟨rfl,hb⟩
theorem let_inj:∀i<26,∀j<26,("abcdefghijklmnopqrstuvwxyz":Str).cps[i]? =("abcdefghijklmnopqrstuvwxyz":Str).cps[j]?->i=j:=by decide+kernel
theorem y0x{a b:Int}(h:z4j a=z4j b):a.fmod 26=b.fmod 26:=by
 have a0:=Int.fmod_nonneg_of_pos a (show(0:Int)<26 by decide)
 have a1:=Int.fmod_lt_of_pos a (show(0:Int)<26 by decide)
 have b0:=Int.fmod_nonneg_of_pos b (show(0:Int)<26 by decide)
 have b1:=Int.fmod_lt_of_pos b (show(0:Int)<26 by decide)
 have:=let_inj (a.fmod 26).toNat (by lia) (b.fmod 26).toNat (by lia) (by rw[(z38 a).1,(z38 b).1,h])
 lia
theorem z6d{a:Int}{K:V->Sto->Prop}(q:K (.str ⟨#[z4j a]⟩) σ):SubR C d (.str "abcdefghijklmnopqrstuvwxyz") (.int (a.fmod 26)) σ K:=by
 have h0:0<=a.fmod 26:=Int.fmod_nonneg_of_pos _ (by decide)
 have h9:a.fmod 26<26:=Int.fmod_lt_of_pos _ (by decide)
 exact y4Y h0 (by lia) (z38 a).1 q
theorem y1v{N st:Int}{i j:Nat}(hs:st=3∨st=23)(hi:i<20)(hj:j<20)(h:(N+st*(i:Int)).fmod 26=(N+st*(j:Int)).fmod 26):i=j:=by
 rw[Int.fmod_eq_emod_of_nonneg _ (by decide),Int.fmod_eq_emod_of_nonneg _ (by decide)] at h
 rcases hs with rfl|rfl<;>lia
theorem y21{x y:Str}{a b:Nat}(h:x++⟨#[a]⟩++y=x++⟨#[b]⟩++y):a=b:=by
 have h':(x.cps++ #[a]++y.cps).toList=(x.cps++ #[b]++y.cps).toList:=congrArg (λs:Str=>s.cps.toList) h
 simp only[Array.toList_append] at h'
 have:=List.append_cancel_left (List.append_cancel_right h')
 simpa using this
theorem z1S{α:Type}{f:Nat->α}{n:Nat}(h:∀i j,i<n->j<n->f i=f j->i=j):((List.range n).map f).Nodup:=by
 refine List.nodup_iff_pairwise_ne.mpr (List.pairwise_map.mpr ?_)
 refine List.Pairwise.imp_of_mem ?_ List.nodup_range
 intro a b ha hb hne e
 exact hne (h a b (List.mem_range.mp ha) (List.mem_range.mp hb) e)
theorem y0k{xs:List V}{k:Int}(hk:k=1∨k= -1)(h:xs.Nodup):(slL xs none none (some k)).Nodup:=by
 unfold slL
 refine List.nodup_iff_pairwise_ne.mpr (List.pairwise_filterMap.mpr ?_)
 have key:∀l:List Nat,l.Nodup->l.Pairwise λi j=>∀b,xs[i]? =some b->∀b',xs[j]? =some b'->b≠b':=λl hl=>by
  refine hl.imp λ{i j} hne b hb b' hb' e=>hne ?_
  subst e
  obtain⟨h1,e1⟩:=List.getElem?_eq_some_iff.mp hb
  obtain⟨h2,e2⟩:=List.getElem?_eq_some_iff.mp hb'
  exact(List.getElem_inj (h₀:=h1) (h₁:=h2) h).mp (e1.trans e2.symm)
 refine key _ ?_
 rcases hk with rfl|rfl
 ·show(sliceRange ((0:Nat):Int) (xs.length:Int) 1).Nodup
  rw[sr1 (Nat.zero_le _)]
  exact z1S λi j _ _ e=>by rw[Nat.zero_add,Nat.zero_add] at e;exact e
 ·show(sliceRange ((xs.length:Int)-1) (-1) (-1)).Nodup
  rw[srm]
  exact z1S λi j hi hj e=>by lia
noncomputable def swB(sc cs:Scope)(t:Str)(l1 l2:Nat):Bool:=(if sc.kind.isAnnotationScope then ScopeKind.function else sc.kind)== .function&&sc.names.lookup t==some .local&&l1==l2&& !(cs.names.any λ(n,k)=>n==t&&(k== .local||k== .cell))
theorem z26{env:Env}{elt:Expr}{gens:List Comprehension}{cs:Scope}{pos p':Pos}{t:Str}{l:Nat}{b:Bool}(h:swB env.scope cs t p'.line pos.line=b):swapsWith (.ListComp elt gens cs pos) (some (.Name t p')) l env=pure b:=by
 rw[<-h];rfl
theorem y4q{P:Str->Prop}{ws:List Str}{i:Int}(hi:i=1∨i= -1)(hw:∀w∈ws,P w)(hn:ws.Nodup):∃ws':List Str,slL (ws.map V.str) none none (some i)=ws'.map V.str/\ws'.length=ws.length/\(∀w∈ws',P w)/\ws'.Nodup:=by
 obtain⟨ws',e,h⟩:=z9n (P:=P) (ys:=slL (ws.map V.str) none none (some i)) λy hy=>by
  apply z0o (z9e y hy);intro w hm
  exact⟨w,rfl,hw w hm⟩
 have hnv:(ws.map V.str).Nodup:=List.nodup_iff_pairwise_ne.mpr (List.pairwise_map.mpr ((List.nodup_iff_pairwise_ne.mp hn).imp λhne e=>hne (by injection e)))
 have hs:=y0k hi hnv
 rw[e] at hs
 refine⟨ws',e,?_,h,?_⟩
 ·have:=y0F (xs:=ws.map V.str) hi
  rw[e] at this
  simpa using this
 ·exact List.nodup_iff_pairwise_ne.mpr ((List.pairwise_map.mp (List.nodup_iff_pairwise_ne.mp hs)).imp λhne e=>hne (by rw[e]))
theorem let_len:("abcdefghijklmnopqrstuvwxyz":Str).length=26:=by decide+kernel
noncomputable def y4S(B:Str):V->V
 | .int i=> .str (Txt.slice B none (some (1+i)))
 |v=>v
noncomputable def z39(r1:Expr)(r2:Stmt):TC:=⟨[.psh (.str "abcdefghijklmnopqrstuvwxyz"),.asg 2,.loc 0,.psh (.int 1),.call (.ref 366) 2,.asg 3,.psh (.int 3),.psh (.int 23),.lst 2,.loc 3,.psh (.int 2),.binc .Mod,.sub,.asg 4,.psh (.str ""),.mty "str",.raw r1,.meth (.bi "str.join") 1,.asg 5,.cut [.loc 3,.psh (.int 56),.binc .FloorDiv,.loc 5,.len,.psh (.int 1),.binc .Add,.binc .Mod,.asg 6],.asgL 7,.loc 1,.forR 8 [.loc 2,.loc 3,.psh (.int 504),.binc .FloorDiv,.loc 4,.loc 8,.binc .Mult,.binc .Add,.psh (.int 26),.binc .Mod,.sub,.asg 9,.loc 7,.mty "list",.loc 5,.psh .none,.loc 6,.psh .none,.slc,.sub,.loc 9,.binc .Add,.loc 5,.loc 6,.psh .none,.psh .none,.slc,.sub,.binc .Add,.meth (.bi "list.append") 1,.pop],.cut [.loc 3,.psh (.int 16),.binc .FloorDiv,.psh (.int 3),.binc .Mod,.psh (.int 1),.tcmpc .Eq,.mop .And [.loc 1,.psh (.int 9),.tcmpc .Lt,.mop .And [.psh (.bool true)]],.ife [.rawS r2] []],.loc 7,.psh .none,.psh .none,.psh (.int 1),.psh (.int 1),.una .USub,.lst 2,.loc 3,.psh (.int 48),.binc .FloorDiv,.psh (.int 2),.binc .Mod,.sub,.slc,.sub,.ret],[.inr r1,.inl r2],[([3],some [1]),([7,0,0],none)]⟩
--z39 2
theorem z7p{P:Int->Prop}{a:Int}{n:Nat}(h:0<n)(q:∀k:Nat,k<n->P (k:Int)):P (a.fmod (n:Int)):=by
 have hp:(0:Int)<(n:Int):=Int.ofNat_lt.mpr h
 obtain⟨k,e⟩:=Int.eq_ofNat_of_zero_le (Int.fmod_nonneg_of_pos a hp)
 rw[e]
 exact q k (Int.ofNat_lt.mp (e▸Int.fmod_lt_of_pos a hp))
inductive NmI(a0 a1 a2 a3 a4 a5 a6:V)(a:Addr)(G:Nat->Str)(σ:Sto)(i:Nat):Loc->Sto->Prop
 |mk {o:Obj} {k sg:Option V}:NmI a0 a1 a2 a3 a4 a5 a6 a G σ i [some a0,some a1,some a2,some a3,some a4,some a5,some a6,some (.ref a),k,sg] ((a,o,.list (((List.range i).map G).map V.str))::σ)
structure Nm(n:Nat)(v:Str):Prop where
 w:Ware v
 x:n<=6->v≠("nothing":Str)
structure NmOk(n:Nat)(ws:List Str):Prop where
 l:ws.length=n
 w:∀w∈ws,Nm n w
 d:ws.Nodup
theorem let_val:∀i<26,("abcdefghijklmnopqrstuvwxyz":Str).cps[i]? =some (97+i):=by decide+kernel
theorem y1M(a:Int):(z4j a:Int)=97+a%26:=by
 have h0:=Int.fmod_nonneg_of_pos a (show(0:Int)<26 by decide)
 have h1:=Int.fmod_lt_of_pos a (show(0:Int)<26 by decide)
 unfold z4j
 rw[let_val _ (by lia)]
 show((97+(a.fmod 26).toNat:Nat):Int)=_
 rw[Int.fmod_eq_emod_of_nonneg _ (by decide)] at h0⊢
 lia
theorem word_cps:("nothing":Str).cps.toList=[110,111,116,104,105,110,103]:=by decide+kernel
noncomputable def frC(N:Int)(j:Nat):Nat:=z4j (N.fdiv 7+5*(j:Int))
noncomputable def frV(N:Int):V->V
 | .int i=> .str ⟨#[z4j (N.fdiv 7+5*i)]⟩
 |v=>v
theorem y2C(N:Int)(c:Nat):(z0R 0 1 c).map (frV N)=(((List.range c).map (frC N)).map λc=>(⟨#[c]⟩:Str)).map V.str:=by
 rw[z4B,List.map_map,List.map_map,List.map_map];rfl
set_option tactic.hygienic true in
theorem z3L(H:G1 C){xs:List Int}{n:Nat}(hx:xs.length<=100)(h1:n<=20)(q:∀ws:List Str,ws.length=n->(∀w∈ws,Nm n w)->ws.Nodup->Q (.lst (ws.map V.str)) σ):
  CW C (d+2) (.ref 371) [.lst (xs.map V.int),.int (n:Int)] σ Q:=by
 have h1k:n<=1000:=Nat.le_trans h1 (by decide)
 refine z2L ?_
 refine z08 (G1.kin (by assumption)) ["_law_script","_law_many","_law_letters","_law_number","_law_step","_law_frame","_law_at","_law_names_here","_law_k","_law_sign"] [("_law_mixed",.ref 366),("range",.type "range"),("len",.bi "len")] (by kernel_rfl) (vs2 λ_ _=>by kernel_rfl) rfl (z0a (z1d (by assumption)) (z0a (z2H (by assumption)) (z0a (z00 (by assumption)) GL_nil))) ?_
 intro env hsc
 refine z0n (z0x H) (z0A H) (z39 _ _) (by exact rfl) (by kernel_rfl) ?_
 intro F m0
 refine Leaf.mk (fnc (z0J H hx (by decide) (by decide) λN b0 b1=> ?_))
 clear b0 b1
 refine Leaf.mk (y1U λstep hstep=> ?_)
 repeat' first|(with_reducible refine⟨y3r,?_⟩)|refine Leaf.mk ?_|fail
 show AT C env ["_law_script","_law_many","_law_letters","_law_number","_law_step","_law_frame","_law_at","_law_names_here","_law_k","_law_sign"] _ true _ (eval _ env) [some (.lst (xs.map V.int)),some (.int (n:Int)),some (.str "abcdefghijklmnopqrstuvwxyz"),some (.int N),some (.int step),none,none,none,none,none] _ _
 refine z0H "_law_j" ["_law_letters","_law_number"] [] (by rw[hsc];kernel_rfl) GL_nil (.cons LkC.lk (.cons LkC.lk .nil)) (z1u ?_)
 repeat' with_reducible first|refine z0d ?_|refine z0s ?_|refine z0p ?_|refine z0i ?_|refine z0I ?_|refine z0b ?_|refine z0c ?_|refine z3b ?_ (by with_unfolding_all decide)|refine z2z ?_ (by with_unfolding_all decide) (by with_unfolding_all decide)|refine z1D ?_|refine⟨z0u,?_⟩|fail
 obtain⟨c,hc⟩:=Int.eq_ofNat_of_zero_le (Int.fmod_nonneg_of_pos (N.fdiv 2) (show(0:Int)<8 by decide))
 have hc8:c<8:=Int.ofNat_lt.mp (hc▸Int.fmod_lt_of_pos (N.fdiv 2) (show(0:Int)<8 by decide))
 have hck:c<=1000:=Nat.le_trans (Nat.le_of_lt hc8) (by decide)
 rw[hc]
 clear hc
 refine⟨_,_,_,c,rfl,z6S hck,z7b c,z0y (by rw[z1I];exact Nat.le_trans hck (by decide)),λenv' he=>
  z0K (f:=frV N) (z0r he (by decide+kernel)) trivial _ _ _ (λX hX K hK=> ?_) ?_⟩
 ·obtain⟨i,_,rfl⟩:=z1r hX
  repeat' with_reducible first|refine z0d ?_|refine z0p ?_|refine z0C ?_|refine z0I ?_|refine z4Q ?_|refine z3b ?_ (by with_unfolding_all decide)|refine z2z ?_ (by with_unfolding_all decide) (by with_unfolding_all decide)|refine z3O ?_ (IntMulOk.of_left (by with_unfolding_all decide))|refine z6d ?_|fail
  exact hK
 rw[List.nil_append,y2C]
 have hps:∀p∈((List.range c).map (frC N)).map λc=>(⟨#[c]⟩:Str),Lt p/\p.length=1:=λp hp=>by
  apply z0o hp;intro k hk
  apply z0o hk;intro j _
  exact⟨y03 (z38 _).2,rfl⟩
 have hpl:(((List.range c).map (frC N)).map λc=>(⟨#[c]⟩:Str)).length=c:=by rw[List.length_map,List.length_map,List.length_range]
 have hj:=y2A hps
 have hj3:=y4M ((List.range c).map (frC N))
 refine Leaf.mk (y4x (.lst _) (z6V (λp hp=>(hps p hp).2) (by rw[hpl];exact hck)) ?_)
 generalize Txt.join "" (((List.range c).map (frC N)).map λc=>(⟨#[c]⟩:Str))=fr at hj hj3⊢
 obtain⟨hj1,hj2⟩:=hj
 rw[hpl] at hj2
 have hfl:fr.length<=7:=by rw[hj2];exact Nat.le_of_lt_succ hc8
 have hfs:fr.length<=sizeLine:=z0y (Nat.le_trans hfl (by decide))
 clear hpl hps
 refine z3w (α:=Nat) (λat_=>at_<fr.length+1) (λat_=>[some (.lst (xs.map V.int)),some (.int (n:Int)),some (.str "abcdefghijklmnopqrstuvwxyz"),some (.int N),some (.int step),some (.str fr),some (.int (at_:Int)),none,none,none]) σ (λK hK _=> ?_) λat_ hat=> ?_
 ·refine Leaf.mk (y1o hfs ?_)
  exact z7p (P:=λz=>K .next [some (.lst (xs.map V.int)),some (.int (n:Int)),some (.str "abcdefghijklmnopqrstuvwxyz"),some (.int N),some (.int step),some (.str fr),some (.int z),none,none,none] σ) (Nat.succ_pos _) hK
 have hal:at_<=fr.length:=Nat.le_of_lt_succ hat
 intro a o hf
 have l1:=z6v (x:=fr) hal
 have l2:=z6r (x:=fr) hal
 have z1:∀c:Nat,(Txt.slice fr none (some (at_:Int))).length+(⟨#[c]⟩:Str).length<=sizeLine:=λc=>z0y (by rw[l1];exact Nat.le_trans (Nat.succ_le_succ (Nat.le_trans hal hfl)) (by decide))
 have z3:∀c:Nat,(Txt.slice fr none (some (at_:Int))++⟨#[c]⟩++Txt.slice fr (some (at_:Int)) none).length=fr.length+1:=λc=>by
  rw[z1p,z1p,l1,l2,show(⟨#[c]⟩:Str).length=1 from rfl,Nat.add_right_comm,Nat.add_sub_cancel' hal]
 have z2:∀c:Nat,(Txt.slice fr none (some (at_:Int))++⟨#[c]⟩).length+(Txt.slice fr (some (at_:Int)) none).length<=sizeLine:=λc=>by rw[<-z1p,z3];exact z0y (Nat.le_trans (Nat.succ_le_succ hfl) (by decide))
 obtain⟨G,hG⟩:∃G:Nat->Str,∀j,G j=Txt.slice fr none (some (at_:Int))++⟨#[z4j (N.fdiv 504+step*(j:Int))]⟩++Txt.slice fr (some (at_:Int)) none:=⟨_,λ_=>rfl⟩
 refine Leaf.mk (.mk n (NmI (.lst (xs.map V.int)) (.int (n:Int)) (.str "abcdefghijklmnopqrstuvwxyz") (.int N) (.int step) (.str fr) (.int (at_:Int)) a G σ) rfl h1k .mk (λi hi m τ hI QB hQB _=> ?_) λm τ hI=> ?_)
 ·have hi20:i<20:=Nat.lt_of_lt_of_le hi h1
  clear q hsc hstep
  refine hI.casesOn @λo k sg=> ?_
  refine Leaf.mk (z3O ?_ (z4c (by lia)))
  refine Leaf.mk (z6d ?_)
  repeat' first|(refine Leaf.mk ?_;with_reducible refine⟨tyL At.hd,?_⟩)|refine Leaf.mk ?_|fail
  refine z44 .none (.int _) hfs ?_
  refine Leaf.mk (z8N ?_ (z1 _))
  refine Leaf.mk (z44 (.int _) .none hfs ?_)
  refine Leaf.mk (z8N ?_ (z2 _))
  refine Leaf.mk (z3E (z0y (by rw[List.length_map,List.length_map,List.length_range];exact Nat.le_trans (Nat.le_of_lt hi20) (by decide))) λo'=> ?_)
  refine hQB _ _ ?_
  have hm:NmI (.lst (xs.map V.int)) (.int (n:Int)) (.str "abcdefghijklmnopqrstuvwxyz") (.int N) (.int step) (.str fr) (.int (at_:Int)) a G σ (i+1) _ ((a,o',.list (((List.range (i+1)).map G).map V.str))::σ):= .mk (k:=some (.int (i:Int))) (sg:=some (.str ⟨#[z4j (N.fdiv 504+step*(i:Int))]⟩))
  rw[List.range_succ,List.map_append,List.map_append,show List.map V.str (List.map G [i])=[V.str (Txt.slice fr none (some (at_:Int))++⟨#[z4j (N.fdiv 504+step*(i:Int))]⟩++Txt.slice fr (some (at_:Int)) none)] from congrArg (λz=>[V.str z]) (hG i)] at hm
  exact hm
 refine hI.casesOn @λo k sg=> ?_
 have hG1:NmOk n ((List.range n).map G):=⟨by rw[List.length_map,List.length_range],λw hw=>by
   apply z0o hw;intro j _
   rw[hG]
   exact⟨⟨by rw[z3];exact Nat.succ_pos _,by rw[z3];exact Nat.succ_le_succ hfl,((hj1.slice _ _).append (y03 (z38 _).2)).append (hj1.slice _ _)⟩,λ_ e=>y20 (g:=frC N) (M:=N.fdiv 7) (λj=>y1M _) (hj2▸hal) (by
    have h:=congrArg (λs:Str=>s.cps.toList) e
    rw[word_cps] at h
    rw[<-h]
    show _=(Array.toList ((Txt.slice fr none (some (at_:Int))).cps++ #[_]++(Txt.slice fr (some (at_:Int)) none).cps))
    rw[Array.toList_append,Array.toList_append,z97 hal,y0d hal,hj3])⟩,
  z1S λi j hi hj e=>by rw[hG,hG] at e;exact y1v hstep (Nat.lt_of_lt_of_le hi h1) (Nat.lt_of_lt_of_le hj h1) (y0x (y21 e))⟩
 generalize (List.range n).map G=ws at hG1
 clear hG z1 z2 z3 l1 l2 hstep
 refine z3w (α:=V×List Str) (λp=>(∃P,Has ((a,o,AO.list (ws.map V.str))::σ) p.1 (.list (p.2.map V.str)) P)/\NmOk n p.2) (λp=>[some (.lst (xs.map V.int)),some (.int (n:Int)),some (.str "abcdefghijklmnopqrstuvwxyz"),some (.int N),some (.int step),some (.str fr),some (.int (at_:Int)),some p.1,k,sg]) ((a,o,.list (ws.map V.str))::σ) (λK hK _=> ?_) λp hp=> ?_
 ·have hno:K .next [some (.lst (xs.map V.int)),some (.int (n:Int)),some (.str "abcdefghijklmnopqrstuvwxyz"),some (.int N),some (.int step),some (.str fr),some (.int (at_:Int)),some (.ref a),k,sg] ((a,o,.list (ws.map V.str))::σ):=hK (.ref a,ws) ⟨⟨_,.refL (.head _)⟩,hG1⟩
  cases hn9:decide ((n:Int)<9) with
  |false=>
   repeat' first|refine z7A (by with_reducible assumption) ?_|(refine z0T (λ_=> ?_) (λ_=> ?_)<;>try (exfalso;rename_i hb;revert hb;simp[V.isNone];done))|fail
   all_goals exact hno
  |true=>
  have hn8:n<=8:=Nat.le_of_lt_succ (Int.ofNat_lt.mp (of_decide_eq_true hn9))
  repeat' first|refine z7D (by with_reducible assumption) ?_|(refine z0T (λ_=> ?_) (λ_=> ?_)<;>try (exfalso;rename_i hb;revert hb;simp[V.isNone];done))|refine Leaf.mk ?_|fail
  rotate_left
  ·exact hno
  have hls:("abcdefghijklmnopqrstuvwxyz":Str).length<=sizeLine:=z0y (by rw[let_len];decide)
  obtain⟨ci,hci⟩:=Int.eq_ofNat_of_zero_le (Int.fmod_nonneg_of_pos (N.fdiv 504) (show(0:Int)<26 by decide))
  have hci26:ci<=26:=Nat.le_of_lt (Int.ofNat_lt.mp (hci▸Int.fmod_lt_of_pos (N.fdiv 504) (show(0:Int)<26 by decide)))
  have m1:(Txt.slice "abcdefghijklmnopqrstuvwxyz" (some ((N.fdiv 504).fmod 26)) none).length=26-ci:=by rw[hci,z6r (by rw[let_len];exact hci26),let_len]
  have m3:∀z:Nat,z<=100->z<=sizeLine:=λz h=>z0y (Nat.le_trans h (by decide))
  have m4:fr.length+(Txt.slice "abcdefghijklmnopqrstuvwxyz" (some ((N.fdiv 504).fmod 26)) none).length<=sizeLine:=m3 _ (by rw[m1];lia)
  have m5:(fr++Txt.slice "abcdefghijklmnopqrstuvwxyz" (some ((N.fdiv 504).fmod 26)) none).length+("abcdefghijklmnopqrstuvwxyz":Str).length<=sizeLine:=m3 _ (by rw[z1p,m1,let_len];lia)
  have m6:26<=(fr++Txt.slice "abcdefghijklmnopqrstuvwxyz" (some ((N.fdiv 504).fmod 26)) none++"abcdefghijklmnopqrstuvwxyz").length:=by rw[z1p,let_len];lia
  have hbig:(fr++Txt.slice "abcdefghijklmnopqrstuvwxyz" (some ((N.fdiv 504).fmod 26)) none++"abcdefghijklmnopqrstuvwxyz").length<=sizeLine:=by rw[z1p];exact m5
  have hlt:=(hj1.append (let_lt.slice (some ((N.fdiv 504).fmod 26)) none)).append let_lt
  show AS C env ["_law_script","_law_many","_law_letters","_law_number","_law_step","_law_frame","_law_at","_law_names_here","_law_k","_law_sign"] _ true _ (exec _ env) [some (.lst (xs.map V.int)),some (.int (n:Int)),some (.str "abcdefghijklmnopqrstuvwxyz"),some (.int N),some (.int step),some (.str fr),some (.int (at_:Int)),some (.ref a),k,sg] _ _
  refine z1v "_law_k" ["_law_frame","_law_letters","_law_number"] [] (z26 (by rw[hsc];kernel_rfl)) (by rw[hsc];kernel_rfl) GL_nil (.cons LkC.lk (.cons LkC.lk (.cons LkC.lk .nil))) (z1u ?_)
  repeat' with_reducible first|refine z0d ?_|refine z0s ?_|refine z0i ?_|refine z0b ?_|refine z0c ?_|refine z1D ?_|refine⟨z0u,?_⟩|fail
  refine⟨_,_,_,n,rfl,z6S h1k,z7b n,z0y (by rw[z1I];exact Nat.le_trans h1k (by decide)),λenv' he=>
   z0K (f:=y4S (fr++Txt.slice "abcdefghijklmnopqrstuvwxyz" (some ((N.fdiv 504).fmod 26)) none++"abcdefghijklmnopqrstuvwxyz")) (z0r he (by decide+kernel)) trivial _ _ _ (λX hX K hK=> ?_) ?_⟩
  ·obtain⟨j,hj,rfl⟩:=z1r hX
   repeat' with_reducible first|refine z0d ?_|refine z0p ?_|refine z0C ?_|refine z0I ?_|refine z20 ?_|refine z3b ?_ (by with_unfolding_all decide)|refine z2z ?_ (by with_unfolding_all decide) (by with_unfolding_all decide)|refine z1m ?_|refine z17 ?_|fail
   refine z44 (.int _) .none hls ?_
   repeat' with_reducible first|refine z0d ?_|refine z0p ?_|refine z0I ?_|refine z20 ?_|refine z4Q ?_|refine z8N ?_ ?_|refine z1m ?_|refine z17 ?_|fail
   ·refine z44 .none (.int _) hbig ?_
    exact hK
   ·exact m5
   ·exact m4
  generalize (fr++Txt.slice "abcdefghijklmnopqrstuvwxyz" (some ((N.fdiv 504).fmod 26)) none++"abcdefghijklmnopqrstuvwxyz")=B at m6 hlt
  have m2:∀j:Nat,j<n->(Txt.slice B none (some (1+(j:Int)))).length=1+j:=λj hj=>z6v (n:=1+j) (Nat.le_trans (Nat.add_le_add_left (Nat.le_of_lt (Nat.lt_of_lt_of_le hj hn8)) 1) (Nat.le_trans (by decide) m6))
  rw[List.nil_append,show(z0R 0 1 n).map (y4S B)=((List.range n).map λj:Nat=>Txt.slice B none (some (1+(j:Int)))).map V.str by rw[z4B,List.map_map,List.map_map];rfl]
  with_reducible refine z2A ?_
  refine hK (_,_) ⟨⟨_,.lst _⟩,by rw[List.length_map,List.length_range],λw hw=> ?_,z1S λi j hi hj e=> ?_⟩
  ·apply z0o hw;intro j hj
   have hj:=List.mem_range.mp hj
   exact⟨⟨by rw[m2 j hj];exact Nat.le_add_right 1 j,by rw[m2 j hj,Nat.add_comm];exact Nat.lt_of_lt_of_le hj hn8,hlt.slice _ _⟩,λh6 e=>by
    have h:=m2 j hj
    rw[e,show("nothing":Str).length=7 by decide+kernel] at h
    lia⟩
  ·have:=congrArg Str.length e
   rw[m2 i hi,m2 j hj] at this
   exact Nat.add_left_cancel this
 obtain⟨x,vs⟩:=p
 obtain⟨⟨P,hH⟩,hv⟩:=hp
 have hvz:(vs.map V.str).length<=sizeLine:=z0M (hv.l▸h1k) (by decide)
 repeat' first|(with_reducible refine y1h ?_)|refine Leaf.mk ?_|fail
 refine y1U λi hi=> ?_
 refine Leaf.mk (z1N hH .none .none (.int _) (by rcases hi with rfl|rfl<;>decide) hvz (z2d ?_))
 obtain⟨vs',e,h4,h2,h3⟩:=y4q hi hv.w hv.d
 rw[e]
 exact⟨σ,List.sublist_cons_self _ _,q _ (h4.trans hv.l) h2 h3⟩
end
end
section
section
variable {C:Cx} [HM C] [NF C] {d:Nat} {σ:Sto} {Q:V->Sto->Prop}
structure NeedsOk(w:Str)(ns:List (Str×Int×Int)):Prop where
 len:ns.length<=6
 ok:∀n∈ns,NeedOk n
 ne:∀n∈ns,n.1≠w
 nd:(ns.map (·.1)).Nodup
noncomputable def fstV:V->V
 | .tup (x::_)=>x
 |v=>v
noncomputable def z3J(r1:Stmt)(r2:Stmt)(r3:Stmt):TC:=⟨[.loc 1,.isi .lst,.tvalc,.not,.mop .Or [.loc 1,.len,.psh (.int 6),.tcmpc .Gt,.mop .Or [.psh (.bool false)]],.ife [.rawS r1] [],.rawS r2,.loc 1,.forL 3 [.loc 3,.call (.ref 149) 1,.tvalc,.not,.mop .Or [.loc 3,.subT 0,.loc 2,.tcmpc .In,.mop .Or [.psh (.bool false)]],.ife [.rawS r3] [],.psh (.bool true),.loc 2,.loc 3,.subT 0,.setI]],[.inl r1,.inl r2,.inl r3],[([0,0,0],none),([1],none),([2,0,0,0,0],none)]⟩
--z3J 3
noncomputable def mtV(w:Str)(ns:List (Str×Int×Int)):List (Str×V):=(w,.bool true)::ns.map λn=>(n.1,.bool true)
theorem y07{w:Str}{ns:List (Str×Int×Int)}:(mtV w ns).map (·.1)=w::ns.map (·.1):=by unfold mtV;rw[List.map_cons,List.map_map];rfl
theorem y1g{w:Str}{ns:List (Str×Int×Int)}{i:Nat}{n:Str×Int×Int}(hok:NeedsOk w ns)(h:ns[i]? =some n):n.1∉(mtV w (ns.take i)).map (·.1)/\((mtV w (ns.take i)).map (·.1)).Nodup/\mtV w (ns.take i)++[(n.1,.bool true)]=mtV w (ns.take (i+1)):=by
 have htk:ns.take (i+1)=ns.take i++[n]:=by rw[List.take_add_one,h];rfl
 have hnd:(w::ns.map (·.1)).Nodup:=List.nodup_cons.mpr ⟨λh=>by obtain⟨x,hx,e⟩:=List.mem_map.mp h;exact hok.ne x hx e,hok.nd⟩
 have hsub:(w::(ns.take (i+1)).map (·.1)).Sublist (w::ns.map (·.1)):=((List.take_sublist _ _).map _).cons_cons w
 have hnd1:=hsub.nodup hnd
 rw[htk,List.map_append] at hnd1
 have h3:=List.nodup_append.mp (show((w::(ns.take i).map (·.1))++[n.1]).Nodup from hnd1)
 rw[y07]
 exact⟨λhm=>h3.2.2 _ hm _ (.head _) rfl,h3.1,by unfold mtV;rw[htk,List.map_append];rfl⟩
inductive NnI(w:Str)(a b:Addr)(ns:List (Str×Int×Int))(σ:Sto)(i:Nat):Loc->Sto->Prop
 |mk {o:Obj} {x:Option V}:NnI w a b ns σ i [some (.str w),some (.ref a),some (.ref b),x] ((b,o,dS (mtV w (ns.take i)))::σ)
theorem z6P(H:G1 C){w:Str}{a:Addr}{ns:List (Str×Int×Int)}(hat:At σ a (.list (ns.map z0m)))(hok:NeedsOk w ns)(q:Q .none σ):CW C (d+3) (.ref 296) [.str w,.ref a] σ Q:=by
 refine z2L ?_
 refine z08 (G1.kin (by assumption)) ["ware","needs","met","need"] [("isinstance",.bi "isinstance"),("list",.type "list"),("len",.bi "len"),("MOST_NEEDS",.int 6),("BadNeed",.ref 68),("is_need",.ref 149)] (by kernel_rfl) (vs2 λ_ _=>by kernel_rfl) rfl (z0a (z0t (by assumption)) (z0a (z03 (by assumption)) (z0a (z00 (by assumption)) (z0a (z6Z (by assumption)) (z0a (z6A (by assumption)) (z0a (z6x (by assumption)) GL_nil)))))) ?_
 intro env hsc
 clear hsc
 obtain⟨oa,hm⟩:=hat
 have h6:=hok.len
 refine z0n (z0x H) (z0A H) (z3J _ _ _) (by exact rfl) (by kernel_rfl) ?_
 intro F m0
 refine Leaf.mk (z9D (k:= .lst) (.refL hm) ?_)
 refine Leaf.mk (z1o (.refL hm) (List.length_map _) (z0M h6 (by decide)) ?_)
 refine z7A (decide_eq_false (Int.not_lt.mpr (Int.ofNat_le.mpr h6))) ?_
 refine Leaf.mk ?_
 show AS C env ["ware","needs","met","need"] _ true _ (exec _ env) [some (.str w),some (.ref a),none,none] _ _
 refine z1C (z2p (KK.str C.prog C.w) λb o hf=> ?_)
 repeat' with_reducible first|refine z0d ?_|refine z6F ?_
 refine⟨w,rfl,rfl,λo'=> ?_⟩
 with_reducible refine z2A ?_
 refine Leaf.mk (.mk _ _ (NnI w a b ns σ) (.refL (.tail _ hm)) .mk (λi X hX m τ hI QB hQB _=> ?_) λm τ hI=> ?_)
 ·clear q
  rw[List.getElem?_map] at hX
  apply z0X hX;intro n hn
  obtain⟨hnew,hnd,hnx⟩:=y1g hok hn
  have hil:=(List.getElem?_eq_some_iff.mp hn).1
  have hz:(mtV w (ns.take i)).length<=sizeLine:=z0y (by unfold mtV;rw[List.length_cons,List.length_map,List.length_take];lia)
  have hno:=hok.ok n (List.mem_of_getElem? hn)
  refine hI.casesOn @λo x=> ?_
  refine Leaf.mk (fnc (z99 H hno ?_))
  refine Leaf.mk (z2O H.ns At.hd hnd (z0h ?_))
  rw[z1i hnew]
  refine Leaf.mk (z47 hnd hz λo'=> ?_)
  rw[z1W hnew,hnx]
  exact hQB _ _ (.tail _ hm) .mk
 ·cases hI with
  |mk=>exact⟨σ,List.sublist_cons_self _ _,q⟩
end
end
section
section
variable {C:Cx} [HM C] [NF C] {d:Nat} {σ:Sto} {Q:V->Sto->Prop}
noncomputable abbrev z0f:=Str×Int×Int
noncomputable abbrev kvV(kv:List (Str×Addr)):List (Str×V):=kv.map λp=>(p.1,.ref p.2)
noncomputable abbrev esV(es:List (Int×List z0f)):List (Int×V):=es.map λp=>(p.1,.lst (p.2.map z0m))
theorem z0z(kv:List (Str×Addr)):(kvV kv).map (·.1)=kv.map (·.1):=by simp[List.map_map,Function.comp_def]
theorem z0E(es:List (Int×List z0f)):(esV es).map (·.1)=es.map (·.1):=by simp[List.map_map,Function.comp_def]
structure Shp(σ:Sto)(i k:Addr)(kv:List (Str×Addr))(es:Str->List (Int×List z0f)):Prop where
 inst:∃dx,At σ i (.inst 355 dx [("kept",.ref k)])
 kept:At σ k (dS (kvV kv))
 kvn:(kv.map (·.1)).Nodup
 kl:kv.length<=12
 inn:∀p∈kv,At σ p.2 (dI (esV (es p.1)))
 out:∀w,w∉kv.map (·.1)->es w=[]
 eok:∀w,((es w).map (·.1)).Nodup/\(es w).length<=8/\∀p∈es w,p.2.length<=6
 sep:(i::k::kv.map (·.2)).Nodup
theorem Shp.at{i k:Addr}{kv:List (Str×Addr)}{es:Str->List (Int×List z0f)}(S:Shp σ i k kv es)(w:Str):
  (vAt (kvV kv) w=none/\w∉kv.map (·.1)/\es w=[])∨∃a,vAt (kvV kv) w=some (.ref a)/\(w,a)∈kv/\At σ a (dI (esV (es w))):=by
 by_cases h:w∈kv.map (·.1)
 ·apply z0o h;intro p hp
  exact .inr ⟨p.2,z0v (by rw[z0z];exact S.kvn) (List.mem_map.mpr ⟨p,hp,rfl⟩),hp,S.inn p hp⟩
 ·exact .inl ⟨z1i (by rw[z0z];exact h),h,S.out w h⟩
theorem z1c{a b dx:Addr}{P:V->Prop}(h:At σ a (.inst 355 dx [("kept",.ref b)]))(q:P (.ref b)):z86 355 "kept" (.ref a) σ P:=y4R h rfl q
theorem z0S{a b dx:Addr}{nm:Str}{P:Addr->Prop}(h:At σ a (.inst 355 dx [("kept",.ref b)]))(hn:(nm==("kept":Str))=false)(q:P a):z6o 355 nm (.ref a) σ P:=
 y46 h (by rw[List.lookup_cons,hn];rfl) q
noncomputable def t_Shop_has:TC:=⟨[.loc 1,.call (.ref 135) 1,.vop .And [.loc 2,.call (.ref 142) 1,.vop .And [.loc 2,.loc 0,.att 355 "kept",.mty "dict",.loc 1,.dic,.meth (.bi "dict.get") 2,.cmpc .In]],.ret],[],[]⟩
--t_Shop_has 0
noncomputable def t_Shop_wares:TC:=⟨[.loc 0,.att 355 "kept",.call (.bi "sorted") 1,.ret],[],[]⟩
--t_Shop_wares 0
noncomputable def z3Z(r1:Stmt):TC:=⟨[.loc 1,.call (.ref 135) 1,.tvalc,.not,.ife [.rawS r1] [],.loc 0,.att 355 "kept",.mty "dict",.loc 1,.dic,.meth (.bi "dict.get") 2,.call (.bi "sorted") 1,.ret],[.inl r1],[([0,0,0],none)]⟩
--z3Z 1
noncomputable def z3M(r1:Stmt):TC:=⟨[.loc 0,.mI 355 "has",.loc 1,.loc 2,.meth (.ref 317) 2,.tvalc,.not,.ife [.rawS r1] [],.loc 0,.att 355 "kept",.loc 1,.sub,.loc 2,.sub,.call (.type "list") 1,.ret],[.inl r1],[([0,0,0],none)]⟩
--z3M 1
theorem Shp.kn{i k:Addr}{kv:List (Str×Addr)}{es:Str->List (Int×List z0f)}(S:Shp σ i k kv es):((kvV kv).map (·.1)).Nodup:=by rw[z0z];exact S.kvn
theorem Shp.en{i k:Addr}{kv:List (Str×Addr)}{es:Str->List (Int×List z0f)}(S:Shp σ i k kv es)(w:Str):((esV (es w)).map (·.1)).Nodup:=by rw[z0E];exact(S.eok w).1
theorem z46(H:G1 C){i k b:Addr}{o:Obj}{kv:List (Str×Addr)}{es:Str->List (Int×List z0f)}{w:Str}(S:Shp σ i k kv es)(q:∀c,At ((b,o,.dict [])::σ) c (dI (esV (es w)))->Q (.ref c) ((b,o,.dict [])::σ)):KW C d (.bi "dict.get") [.ref k,.str w,.ref b] ((b,o,.dict [])::σ) Q:=by
 refine z9f H.ns (S.kept.cons _) S.kn ?_
 rcases S.at w with⟨e,_,e2⟩|⟨a,e,_,ha⟩
 ·rw[e];exact q b (by rw[e2];exact At.hd)
 ·rw[e];exact q a (ha.cons _)
theorem y3A(H:G1 C){i k:Addr}{kv:List (Str×Addr)}{es:Str->List (Int×List z0f)}{w:Str}{mk:Int}(S:Shp σ i k kv es)(hw:Ware w)(h1:1<=mk)(h2:mk<=999)(q:Q (.bool (vAt (esV (es w)) mk).isSome) σ):
  CW C (d+2) (.ref 317) [.ref i,.str w,.int mk] σ Q:=by
 refine z2L ?_
 refine z08 (G1.kin (by assumption)) ["self","ware","make"] [("is_ware",.ref 135),("is_make",.ref 142)] (by kernel_rfl) (vs3 λ_ _ _=>by kernel_rfl) rfl (z0a (z1K (by assumption)) (z0a (z2o (by assumption)) GL_nil)) ?_
 intro env hsc
 clear hsc
 obtain⟨dx,hin⟩:=S.inst
 have hk:=S.kept
 refine z0n (z0x H) (z0A H) t_Shop_has rfl (by kernel_rfl) ?_
 intro F m0
 refine Leaf.mk (fnc (z2B H hw ?_))
 refine Leaf.mk (fnc (z3k H h1 h2 ?_))
 refine Leaf.mk (z1c hin ?_)
 refine Leaf.mk ⟨tyD hk,?_⟩
 intro b o hf
 refine Leaf.mk (z46 H S λc hc=> ?_)
 refine Leaf.mk (y0C H.ns hc (S.en w) ?_)
 exact⟨σ,List.sublist_cons_self _ _,q⟩
theorem y2f{Xs:List V}{σ₁:Sto}(hs:σ.Sublist σ₁)(q:NLf Q Xs σ):NLf (λx σ'=>∃τ,τ.Sublist σ'/\Q x τ) Xs σ₁:=by
 rcases q with q|q
 ·exact .inl ⟨σ,hs,q⟩
 ·exact .inr λa o hf=>⟨_,hs.cons_cons _,q a o λp hp=>hf p (hs.subset hp)⟩
theorem y3l(H:G1 C){i k:Addr}{kv:List (Str×Addr)}{es:Str->List (Int×List z0f)}(S:Shp σ i k kv es)(q:NLf Q ((z1E (kv.map (·.1))).map V.str) σ):
  CW C (d+1) (.ref 352) [.ref i] σ Q:=by
 refine z08 (G1.kin (by assumption)) ["self"] [("sorted",.bi "sorted")] (by kernel_rfl) (vs1 λ_=>by kernel_rfl) rfl (z0a (z2C (by assumption)) GL_nil) ?_
 intro env hsc
 clear hsc
 obtain⟨dx,hin⟩:=S.inst
 refine z0n (z0x H) (z0A H) t_Shop_wares rfl (by kernel_rfl) ?_
 intro F m0
 refine Leaf.mk (z1c hin ?_)
 refine Leaf.mk (z32 H.ns S.kept S.kn (by rw[List.length_map];exact Nat.lt_of_le_of_lt S.kl (by decide)) ?_)
 rw[z0z]
 exact q
theorem z9j(H:G1 C){i k:Addr}{kv:List (Str×Addr)}{es:Str->List (Int×List z0f)}{w:Str}(S:Shp σ i k kv es)(hw:Ware w)(q:NLf Q ((z10 ((es w).map (·.1))).map V.int) σ):
  CW C (d+2) (.ref 338) [.ref i,.str w] σ Q:=by
 refine z2L ?_
 refine z08 (G1.kin (by assumption)) ["self","ware"] [("is_ware",.ref 135),("BadWare",.ref 44),("sorted",.bi "sorted")] (by kernel_rfl) (vs2 λ_ _=>by kernel_rfl) rfl (z0a (z1K (by assumption)) (z0a (z4q (by assumption)) (z0a (z2C (by assumption)) GL_nil))) ?_
 intro env hsc
 clear hsc
 obtain⟨dx,hin⟩:=S.inst
 refine z0n (z0x H) (z0A H) (z3Z _) (by exact rfl) (by kernel_rfl) ?_
 intro F m0
 refine Leaf.mk (fnc (z2B H hw ?_))
 refine Leaf.mk (z1c hin ?_)
 refine Leaf.mk ⟨tyD S.kept,?_⟩
 intro b o hf
 refine Leaf.mk (z46 H S λc hc=> ?_)
 refine Leaf.mk (z3W H.ns hc (S.en w) (by rw[List.length_map];exact Nat.lt_of_le_of_lt (S.eok w).2.1 (by decide)) ?_)
 rw[z0E]
 exact y2f (List.sublist_cons_self _ _) q
theorem z9J(H:G1 C){i k:Addr}{kv:List (Str×Addr)}{es:Str->List (Int×List z0f)}{w:Str}{mk:Int}{ns:List z0f}(S:Shp σ i k kv es)(hw:Ware w)(h1:1<=mk)(h2:mk<=999)(hm:(mk,ns)∈es w)
  (q:NLf Q (ns.map z0m) σ):CW C (d+3) (.ref 345) [.ref i,.str w,.int mk] σ Q:=by
 refine z08 (G1.kin (by assumption)) ["self","ware","make"] [("NoMake",.ref 104),("list",.type "list")] (by kernel_rfl) (vs3 λ_ _ _=>by kernel_rfl) rfl (z0a (z7E (by assumption)) (z0a (z03 (by assumption)) GL_nil)) ?_
 intro env hsc
 clear hsc
 obtain⟨dx,hin⟩:=S.inst
 have hv:vAt (esV (es w)) mk=some (.lst (ns.map z0m)):=z0v (S.en w) (List.mem_map.mpr ⟨_,hm,rfl⟩)
 rcases S.at w with⟨_,_,e2⟩|⟨a,e,_,ha⟩
 ·rw[e2] at hm;cases hm
 refine z0n (z0x H) (z0A H) (z3M _) (by exact rfl) (by kernel_rfl) ?_
 intro F m0
 refine Leaf.mk (z0S hin (by decide+kernel) ?_)
 refine Leaf.mk (fnc (y3A H S hw h1 h2 ?_))
 rw[hv]
 refine Leaf.mk (z1c hin ?_)
 refine Leaf.mk (z13 S.kept S.kn e ?_)
 refine Leaf.mk (y22 ha (S.en w) hv ?_)
 exact⟨z5c (.lst _) (z0M ((S.eok w).2.2 _ hm) (by decide)) q⟩
end
end
section
section
variable {C:Cx} [HM C] [NF C] {d:Nat} {σ:Sto} {Q:V->Sto->Prop}
theorem z9r(kv:List (Str×Addr))(w:Str)(b:Addr):kvV (kv++[(w,b)])=kvV kv++[(w,.ref b)]:=List.map_append
theorem z89(es:List (Int×List z0f))(mk:Int)(ns:List z0f):esV (es++[(mk,ns)])=esV es++[(mk,.lst (ns.map z0m))]:=List.map_append
theorem Shp.ne{i k:Addr}{kv:List (Str×Addr)}{es:Str->List (Int×List z0f)}(S:Shp σ i k kv es){w:Str}{a:Addr}(h:(w,a)∈kv):i≠a/\k≠a/\i≠k:=by
 have:=S.sep
 have ha:a∈kv.map (·.2):=List.mem_map.mpr ⟨_,h,rfl⟩
 have h1:=List.nodup_cons.mp this
 have h2:=List.nodup_cons.mp h1.2
 exact⟨λe=>h1.1 (.tail _ (e▸ha)),λe=>h2.1 (e▸ha),λe=>h1.1 (e▸ .head _)⟩
noncomputable def z5q(r1:Stmt)(r2:Stmt)(r3:Stmt)(r4:Stmt)(r5:Stmt):TC:=⟨[.loc 1,.call (.ref 135) 1,.tvalc,.not,.ife [.rawS r1] [],.loc 2,.call (.ref 142) 1,.tvalc,.not,.ife [.rawS r2] [],.loc 1,.loc 3,.call (.ref 296) 2,.pop,.loc 0,.mI 355 "has",.loc 1,.loc 2,.meth (.ref 317) 2,.tvalc,.ife [.rawS r3] [],.cut [.loc 1,.loc 0,.att 355 "kept",.tcmpc .NotIn,.mop .And [.loc 0,.att 355 "kept",.len,.psh (.int 12),.tcmpc .Eq,.mop .And [.psh (.bool true)]],.ife [.rawS r4] []],.loc 0,.att 355 "kept",.mty "dict",.loc 1,.dic,.meth (.bi "dict.get") 2,.len,.psh (.int 8),.tcmpc .Eq,.ife [.rawS r5] [],.loc 3,.call (.type "list") 1,.loc 0,.att 355 "kept",.mty "dict",.loc 1,.dic,.meth (.bi "dict.setdefault") 2,.loc 2,.setI],[.inl r1,.inl r2,.inl r3,.inl r4,.inl r5],[([0,0,0],none),([1,0,0],none),([3,0,0],none),([4,0,0],none),([5,0,0],none)]⟩
--z5q 5
noncomputable def z2P(r1:Stmt):TC:=⟨[.rawS r1],[.inl r1],[([0],none)]⟩
--z2P 1
theorem y3D(H:G1 C){i k nl:Addr}{kv:List (Str×Addr)}{es:Str->List (Int×List z0f)}{w:Str}{mk:Int}{ns:List z0f}(S:Shp σ i k kv es)(hw:Ware w)(h1:1<=mk)(h2:mk<=999)
  (hnl:At σ nl (.list (ns.map z0m))) (hns:NeedsOk w ns) (hnew:mk∉(es w).map (·.1)) (hroom:(es w).length≠8) (hroom2:w∉kv.map (·.1)->kv.length≠12)
  (qa:∀a,(w,a)∈kv->∀σ',UpdS σ σ' a (dI (esV (es w++[(mk,ns)])))->Q .none σ')
  (qb:w∉kv.map (·.1)->∀b σ',Fresh σ b->At σ' b (dI (esV [(mk,ns)]))->At σ' k (dS (kvV (kv++[(w,b)])))->(∀p∈σ,p.1≠k->p∈σ')->Q .none σ'):
  CW C (d+4) (.ref 324) [.ref i,.str w,.int mk,.ref nl] σ Q:=by
 refine z08 (G1.kin (by assumption)) ["self","ware","make","needs"] [("is_ware",.ref 135),("BadWare",.ref 44),("is_make",.ref 142),("BadMake",.ref 56),("need_needs",.ref 296),("Twice",.ref 80),("len",.bi "len"),("MOST_WARES",.int 12),("Full",.ref 92),("MOST_MAKES",.int 8),("list",.type "list")] (by kernel_rfl) (vs4 λ_ _ _ _=>by kernel_rfl) rfl (z0a (z1K (by assumption)) (z0a (z4q (by assumption)) (z0a (z2o (by assumption)) (z0a (z6k (by assumption)) (z0a (z66 (by assumption)) (z0a (z9u (by assumption)) (z0a (z00 (by assumption)) (z0a (z61 (by assumption)) (z0a (y0u (by assumption)) (z0a (z63 (by assumption)) (z0a (z03 (by assumption)) GL_nil))))))))))) ?_
 intro env hsc
 clear hsc
 obtain⟨dx,hin⟩:=S.inst
 have hk:=S.kept
 have hkn:=S.kn
 have hen:=S.en w
 have hkz:(kvV kv).length<=sizeLine:=z0M S.kl (by decide)
 have hez:(esV (es w)).length<=sizeLine:=z0M (S.eok w).2.1 (by decide)
 have hv:vAt (esV (es w)) mk=none:=z1i (by rw[z0E];exact hnew)
 obtain⟨onl,hnm⟩:=hnl
 refine z0n (z0x H) (z0A H) (z5q _ _ _ _ _) (by exact rfl) (by kernel_rfl) ?_
 intro F m0
 refine Leaf.mk (fnc (z2B H hw ?_))
 refine Leaf.mk (fnc (z3k H h1 h2 ?_))
 refine Leaf.mk (fnc (z6P H ⟨onl,hnm⟩ hns ?_))
 refine Leaf.mk (z0S hin (by decide+kernel) ?_)
 refine Leaf.mk (fnc (y3A H S hw h1 h2 ?_))
 rw[hv]
 refine y3y [some (.ref i),some (.str w),some (.int mk),some (.ref nl)] σ (λK hK _=> ?_) ?_
 ·refine Leaf.mk (z1c hin ?_)
  refine Leaf.mk (y2r H.ns hk hkn (z0h ?_))
  refine z0T (λhb=> ?_) λ_=>hK
  refine Leaf.mk (z1c hin ?_)
  refine Leaf.mk (z2M H.ns hk hkn hkz ?_)
  refine z7A (decide_eq_false λe=>hroom2 (λhm=> ?_) (by rw[<-List.length_map];exact Int.ofNat.inj e)) hK
  obtain⟨p,hp,rfl⟩:=List.mem_map.mp hm
  rw[z0v hkn (List.mem_map.mpr ⟨p,hp,rfl⟩)] at hb
  cases hb
 refine Leaf.mk (z1c hin ?_)
 refine Leaf.mk ⟨tyD hk,?_⟩
 intro b0 o0 hf0
 refine Leaf.mk (z46 H S λc hc=> ?_)
 refine Leaf.mk (y3q H.ns hc hen hez ?_)
 refine z7A (decide_eq_false λe=>hroom (by rw[<-List.length_map];exact Int.ofNat.inj e)) ?_
 clear hc c
 refine Leaf.mk (z5c (.refL (.tail _ hnm)) (z0M hns.len (by decide)) (.inl ?_))
 refine Leaf.mk (z1c (hin.cons _) ?_)
 refine Leaf.mk ⟨tyD (hk.cons _),?_⟩
 intro b o hf
 rcases S.at w with⟨e,hno,e2⟩|⟨a,e,ha,hat⟩
 ·refine Leaf.mk (z5L H.ns ((hk.cons _).cons _) hkn hkz (λY hY=>by rw[e] at hY;cases hY) λ_ σ' U=> ?_)
  rw[z1W (by rw[z0z];exact hno)] at U
  have hfb:Fresh σ b:=λp hp=>hf p (.tail _ hp)
  have hbk:k≠b:=hfb.ne hk
  refine Leaf.mk (z8Q (U.at At.hd hbk.symm:At σ' b (dI [])) List.nodup_nil (by decide) λσ'' U2=> ?_)
  refine qb hno b σ'' hfb U2.here (U2.at ?_ hbk) λp hp hne=>U2.keep p (U.keep p (.tail _ (.tail _ hp)) hne) (hfb p hp)
  rw[z9r]
  exact U.here
 ·refine Leaf.mk (z5L H.ns ((hk.cons _).cons _) hkn hkz (λY hY=> ?_) λhY=>by rw[e] at hY;cases hY)
  rw[e] at hY
  cases hY
  refine Leaf.mk (z8Q ((hat.cons _).cons _) hen hez λσ'' U2=> ?_)
  rw[z1W (by rw[z0E];exact hnew)] at U2
  refine qa a ha σ'' ⟨?_,λp hp hne=>U2.keep p (.tail _ (.tail _ hp)) hne⟩
  rw[z89]
  exact U2.here
theorem y4e(H:G1 C){x dx:Addr}{o:Obj}(q:∀k σ',Fresh ((x,o,.inst 355 dx [])::σ) k->At σ' x (.inst 355 dx [("kept",.ref k)])->At σ' k (dS [])->(∀p∈σ,p.1≠x->p∈σ')->Q .none σ'):
  CW C (d+1) (.ref 310) [.ref x] ((x,o,.inst 355 dx [])::σ) Q:=by
 refine z08 (G1.kin (by assumption)) ["self"] [] (by kernel_rfl) (vs1 λ_=>by kernel_rfl) rfl GL_nil ?_
 intro env hsc
 clear hsc
 refine z0n (z0x H) (z0A H) (z2P _) (by exact rfl) (by kernel_rfl) ?_
 intro F m0
 refine Leaf.mk ?_
 show AS C env ["self"] _ true _ (exec _ env) [some (.ref x)] _ _
 refine z98 (z75 H) ?_
 refine z5p λk o' hf=> ?_
 with_reducible refine z0d ?_
 refine⟨x,dx,[],rfl,At.hd.cons _,rfl,by decide,λσ' U=> ?_⟩
 have hne:x≠k:=hf _ (.head _)
 exact q k σ' hf U.here (U.at At.hd hne.symm) λp hp hn=>U.keep p (.tail _ (.tail _ hp)) hn
theorem y4w(H:G1 C)(q:∀x k dx σ',Fresh σ x->Fresh σ k->x≠k->At σ' x (.inst 355 dx [("kept",.ref k)])->At σ' k (dS [])->(∀p∈σ,p∈σ')->Q (.ref x) σ'):CW C (d+2) (.ref 355) [] σ Q:=by
 refine y4I (y1N H) λx dx o hf=> ?_
 exact y4e H λk σ' hk h1 h2 h3=>⟨rfl,q x k dx σ' hf (λp hp=>hk p (.tail _ hp)) (hk _ (.head _)) h1 h2 λp hp=>h3 p hp (hf p hp)⟩
end
end
section
section
variable {C:Cx} [HM C] [NF C] {d:Nat} {σ:Sto} {Q:V->Sto->Prop}
noncomputable def t__law_stretch:TC:=⟨[.loc 1,.loc 0,.psh (.int 10),.binc .FloorDiv,.loc 1,.len,.binc .Mod,.sub,.asg 2,.loc 1,.loc 0,.psh (.int 60),.binc .FloorDiv,.loc 1,.len,.binc .Mod,.sub,.asg 3,.psh (.int 0),.psh (.int 1),.psh (.int 2),.psh (.int 3),.psh (.int 4),.psh (.int 4),.psh (.int 2),.psh (.int 1),.psh (.int 4),.psh (.int 5),.lst 10,.loc 0,.psh (.int 10),.binc .Mod,.sub,.asg 4,.loc 4,.psh (.int 0),.tcmpc .Eq,.ife [.loc 2,.loc 2,.tup 2,.ret] [],.loc 4,.psh (.int 1),.tcmpc .Eq,.ife [.loc 2,.loc 3,.call (.bi "min") 2,.loc 2,.loc 3,.call (.bi "max") 2,.tup 2,.ret] [],.loc 4,.psh (.int 2),.tcmpc .Eq,.ife [.loc 2,.psh (.int 999),.tup 2,.ret] [],.loc 4,.psh (.int 3),.tcmpc .Eq,.ife [.psh (.int 1),.loc 2,.tup 2,.ret] [],.loc 4,.psh (.int 4),.tcmpc .Eq,.ife [.psh (.int 1),.psh (.int 999),.tup 2,.ret] [],.psh (.int 999),.loc 2,.psh (.int 1),.binc .Add,.call (.bi "min") 2,.psh (.int 999),.loc 2,.psh (.int 1),.binc .Add,.call (.bi "min") 2,.tup 2,.ret],[],[]⟩
--t__law_stretch 0
noncomputable def isInt:V->Bool
 | .int _=>true
 |_=>false
theorem y2E{l:List V}(h:l.all isInt=true){X:V}(hX:X∈l):∃i,X= .int i:=by
 have:=List.all_eq_true.mp h X hX
 cases X<;>first|(cases this;done)|exact⟨_,rfl⟩
set_option tactic.hygienic true in
theorem z23(H:G1 C){ms:List Int}{n:Int}(h0:0<ms.length)(h1:ms.length<=20)(hm:∀i∈ms,1<=i/\i<=999)(q:∀lo hi:Int,1<=lo->lo<=hi->hi<=999->Q (.tup [.int lo,.int hi]) σ):
  CW C (d+1) (.ref 378) [.int n,.lst (ms.map V.int)] σ Q:=by
 refine z08 (G1.kin (by assumption)) ["_law_number","_law_makes","_law_one","_law_other","_law_way"] [("len",.bi "len"),("min",.bi "min"),("max",.bi "max")] (by kernel_rfl) (vs2 λ_ _=>by kernel_rfl) rfl (z0a (z00 (by assumption)) (z0a (y4J (by assumption)) (z0a (y3I (by assumption)) GL_nil))) ?_
 intro env hsc
 clear hsc
 have hl:(ms.map V.int).length<=sizeLine:=z0M h1 (by decide)
 have hp:(0:Int)<((ms.map V.int).length:Int):=by rw[List.length_map];exact Int.ofNat_lt.mpr h0
 have hk:(ms.map V.int).length<2^40:=by rw[List.length_map];exact Nat.lt_of_le_of_lt h1 (by decide)
 have hpick:∀(x:Int) (K:V->Sto->Prop),(∀i,1<=i->i<=999->K (.int i) σ)->SubR C d (.lst (ms.map V.int)) (.int (x.fmod (ms.map V.int).length)) σ K:=λx K k=>
  z2D (Int.fmod_nonneg_of_pos _ hp) (Int.fmod_lt_of_pos _ hp) hk λX hX=>by
   apply z0o hX;intro i hi
   exact k i (hm i hi).1 (hm i hi).2
 clear hm h0 h1 hk
 refine z0n (z0x H) (z0A H) t__law_stretch rfl (by kernel_rfl) ?_
 intro F m0
 repeat' (refine Leaf.mk ?_;with_reducible refine z7r (.lst _) (by with_reducible assumption) ?_)
 refine z6C hp ?_
 refine Leaf.mk (hpick _ _ λone b1 b2=> ?_)
 repeat' (refine Leaf.mk ?_;with_reducible refine z7r (.lst _) (by with_reducible assumption) ?_)
 refine z6C hp ?_
 refine Leaf.mk (hpick _ _ λother b3 b4=> ?_)
 clear hpick hp hl
 refine Leaf.mk (z2D (Int.fmod_nonneg_of_pos _ (by decide)) (Int.fmod_lt_of_pos _ (by decide)) (by decide) λX hX=> ?_)
 obtain⟨way,rfl⟩:=y2E rfl hX
 clear hX
 repeat' first|(refine Leaf.mk ?_;with_reducible first|refine y0T ?_|refine y4n ?_)|(refine z0T (λ_=> ?_) (λ_=> ?_)<;>try (exfalso;rename_i hb;revert hb;simp[V.isNone];done))
 ·exact q one one b1 (Int.le_refl _) b2
 ·exact q _ _ (Int.le_min.mpr ⟨b1,b3⟩) (Int.le_trans (Int.min_le_left ..) (Int.le_max_left ..)) (Int.max_le.mpr ⟨b2,b4⟩)
 ·exact q one 999 b1 b2 (Int.le_refl _)
 ·exact q 1 one (Int.le_refl _) b1 b2
 ·exact q 1 999 (by decide) (by decide) (Int.le_refl _)
 ·exact q _ _ (Int.le_min.mpr ⟨by decide,Int.le_trans b1 (Int.le_of_lt (Int.lt_succ one))⟩) (Int.le_refl _) (Int.min_le_left ..)
end
end
section
section
variable {C:Cx} [HM C] [NF C] {d:Nat} {σ:Sto} {Q:V->Sto->Prop}
noncomputable def msV(mss:List (List Int)):List V:=mss.map λms=>V.lst (ms.map V.int)
structure MsOk(mss:List (List Int)):Prop where
 lo:0<mss.length
 hi:mss.length<=12
 each:∀ms∈mss,0<ms.length/\ms.length<=8/\∀i∈ms,1<=i/\i<=999
 nd:∀ms∈mss,ms.Nodup
theorem z55{l:List V}{b:Nat}(h:(l.all λx=>match x with| .int k=>decide (0<=k)&&decide (k<=(b:Int))|_=>false)=true):∀X∈l,∃n:Nat,X= .int (n:Int)/\n<=b:=λX hX=>by
 have:=List.all_eq_true.mp h X hX
 cases X with
 |int k=>
  simp at this
  obtain⟨n,rfl⟩:=Int.eq_ofNat_of_zero_le this.1
  exact⟨n,rfl,Int.ofNat_le.mp this.2⟩
 |_=>cases this
theorem y4r{mss:List (List Int)}(h:MsOk mss){K:V->Sto->Prop}{x:Int}(h0:0<=x)(h1:x<=mss.length)(q:∀ms:List Int,0<ms.length->ms.length<=20->(∀i∈ms,1<=i/\i<=999)->K (.lst (ms.map V.int)) σ):
  SubR C d (.lst (msV mss++[.lst [.int 5]])) (.int x) σ K:=by
 have hh:=h.hi
 refine z2D h0 (by simp[msV];lia) (by simp[msV];lia) λX hX=> ?_
 rcases List.mem_append.mp hX with hX|hX
 ·apply z0o hX;intro ms hm
  have:=h.each ms hm
  exact q ms this.1 (by lia) this.2.2
 ·rw[List.mem_singleton.mp hX]
  exact q [5] (by decide) (by decide) λi hi=>by simp at hi;lia
noncomputable def z31(r1:Expr):TC:=⟨[.asgL 5,.loc 0,.loc 4,.call (.ref 366) 2,.asg 6,.psh (.int 0),.psh (.int 1),.psh (.int 1),.psh (.int 2),.psh (.int 2),.psh (.int 6),.lst 6,.loc 6,.psh (.int 6),.binc .Mod,.sub,.forR 7 [.loc 0,.loc 4,.psh (.int 1),.binc .Add,.loc 7,.binc .Add,.call (.ref 366) 2,.asg 8,.loc 3,.psh (.int 1),.binc .Add,.loc 6,.psh (.int 6),.binc .FloorDiv,.loc 7,.binc .Add,.psh (.int 1),.loc 2,.len,.psh (.int 1),.binc .Sub,.call (.bi "max") 2,.binc .Mod,.binc .Add,.loc 2,.len,.binc .Mod,.asg 9,.cut [.loc 8,.psh (.int 12),.binc .Mod,.psh (.int 5),.tcmpc .Eq,.ife [.loc 2,.len,.asg 9] []],.loc 9,.loc 3,.tcmpc .NotEq,.mop .And [.loc 1,.loc 9,.sub,.raw r1,.tcmpc .NotIn,.mop .And [.psh (.bool true)]],.ife [.loc 8,.psh (.int 12),.binc .FloorDiv,.loc 2,.psh (.int 5),.lst 1,.lst 1,.binc .Add,.loc 9,.sub,.call (.ref 378) 2,.asg2 10 11,.loc 5,.mty "list",.loc 1,.loc 9,.sub,.loc 10,.loc 11,.tup 3,.meth (.bi "list.append") 1,.pop] []],.loc 5,.ret],[.inr r1],[([2,0,3],some [1,1])]⟩
--z31 1
structure NsI(w:Str)(ns:List z0f):Prop where
 ok:∀n∈ns,NeedOk n
 ne:∀n∈ns,n.1≠w
 nd:(ns.map (·.1)).Nodup
theorem NsI.nil{w:Str}:NsI w []:=⟨(λ_ h=>by cases h),(λ_ h=>by cases h),List.nodup_nil⟩
theorem NsI.add{w nm:Str}{ns:List z0f}{lo hi:Int}(h:NsI w ns)(ok:NeedOk (nm,lo,hi))(hw:nm≠w)(hn:(ns.map (·.1)).any (·==nm)=false):NsI w (ns++[(nm,lo,hi)]):=by
 have hm:∀n∈ns++[(nm,lo,hi)],n∈ns∨n=(nm,lo,hi):=λn hn=>(List.mem_append.mp hn).imp id List.mem_singleton.mp
 refine⟨λn hn=> ?_,λn hn=> ?_,?_⟩
 ·rcases hm n hn with h'|rfl
  ·exact h.ok n h'
  ·exact ok
 ·rcases hm n hn with h'|rfl
  ·exact h.ne n h'
  ·exact hw
 ·rw[List.map_append]
  refine List.nodup_append.mpr ⟨h.nd,List.nodup_cons.mpr ⟨List.not_mem_nil,List.nodup_nil⟩,λx hx y hy e=> ?_⟩
  rw[List.mem_singleton.mp hy] at e
  exact List.any_eq_false.mp hn x hx (beq_iff_eq.mpr e)
inductive NdI(a0 a1 a2 a3 a4 a6:V)(a:Addr)(w:Str)(σ:Sto)(i:Nat):Loc->Sto->Prop
 |mk {o:Obj} {ns:List z0f} {o1 o2 o3 o4 o5:Option V}:ns.length<=i->NsI w ns->NdI a0 a1 a2 a3 a4 a6 a w σ i [some a0,some a1,some a2,some a3,some a4,some (.ref a),some a6,o1,o2,o3,o4,o5] ((a,o,.list (ns.map z0m))::σ)
set_option tactic.hygienic true in
theorem z6E(H:G1 C){xs:List Int}{ws:List Str}{mka:Addr}{mss:List (List Int)}{w:Str}{k:Nat}{at_:Int}(hx:xs.length<=100)(hmk:At σ mka (.list (msV mss)))(hms:MsOk mss)(hwl:ws.length=mss.length+1)(hw:∀x∈ws,Ware x)(hwn:ws.Nodup)
  (h1:k<mss.length) (hkw:ws[k]? =some w) (a0:0<=at_) (a1:at_<900) (q:∀ns,NeedsOk w ns->Q (.lst (ns.map z0m)) σ):
  CW C (d+3) (.ref 383) [.lst (xs.map V.int),.lst (ws.map V.str),.ref mka,.int (k:Int),.int at_] σ Q:=by
 refine z2v ?_
 refine z08 (G1.kin (by assumption)) ["_law_script","_law_names_here","_law_makes","_law_k","_law_at","_law_found","_law_first","_law_turn","_law_number","_law_other","_law_low","_law_high"] [("_law_mixed",.ref 366),("range",.type "range"),("max",.bi "max"),("len",.bi "len"),("_law_stretch",.ref 378)] (by kernel_rfl) (vs5 λ_ _ _ _ _=>by kernel_rfl) rfl (z0a (z1d (by assumption)) (z0a (z2H (by assumption)) (z0a (y3I (by assumption)) (z0a (z00 (by assumption)) (z0a (z2Z (by assumption)) GL_nil))))) ?_
 intro env hsc
 have hhi:=hms.hi
 obtain⟨omk,hmm⟩:=hmk
 have hml:(msV mss).length=mss.length:=List.length_map _
 have hmz:(msV mss).length<=sizeLine:=z0y (by rw[hml];exact Nat.le_trans hhi (by decide))
 have hmz2:(msV mss).length+1<=sizeLine:=z0y (by rw[hml];exact Nat.le_trans (Nat.succ_le_succ hhi) (by decide))
 have hM:(0:Int)<max 1 ((mss.length:Int)-1):=Int.lt_of_lt_of_le (by decide) (Int.le_max_left ..)
 have hL:(0:Int)<(mss.length:Int):=Int.ofNat_lt.mpr (Nat.zero_lt_of_lt h1)
 refine z0n (z0x H) (z0A H) (z31 _) (by exact rfl) (by kernel_rfl) ?_
 intro F m0 a o hf
 refine Leaf.mk (fnc (z0J H hx a0 (Int.lt_trans a1 (by decide)) λfst b0 b1=> ?_))
 clear b0 b1
 refine Leaf.mk (z2D (Int.fmod_nonneg_of_pos _ (by decide)) (Int.fmod_lt_of_pos _ (by decide)) (by decide) λX hX=> ?_)
 obtain⟨cnt,rfl,c1⟩:∃cnt:Nat,X= .int (cnt:Int)/\cnt<=6:=z55 (by decide) X hX
 clear hX
 refine Leaf.mk (.mk cnt (NdI (.lst (xs.map V.int)) (.lst (ws.map V.str)) (.ref mka) (.int (k:Int)) (.int at_) (.int fst) a w σ) rfl (Nat.le_trans c1 (by decide)) (.mk (ns:=[]) (Nat.le_refl _) .nil) (λi hi m τ hI QB hQB _=> ?_) λm τ hI=> ?_)
 ·have hi6:i<6:=Nat.lt_of_lt_of_le hi c1
  refine hI.casesOn @λo ns o1 o2 o3 o4 o5 hnl hns=> ?_
  have hnz:(ns.map z0m).length<=sizeLine:=z0M (Nat.le_trans hnl (Nat.le_of_lt hi6)) (by decide)
  refine Leaf.mk (fnc (z0J H hx (by lia) (by lia) λnum b2 b3=> ?_))
  clear b2 b3
  repeat' refine Leaf.mk ?_
  refine z1o (.refL (.tail _ hmm)) hml hmz ?_
  repeat' (refine Leaf.mk ?_;with_reducible refine y0T ?_)
  refine z6C hM ?_
  refine Leaf.mk (z1o (.refL (.tail _ hmm)) hml hmz ?_)
  refine z2g (Nat.zero_lt_of_lt h1) λot0 t1=> ?_
  refine z3w (α:=Nat) (λot=>ot<=mss.length) (λot=>[some (.lst (xs.map V.int)),some (.lst (ws.map V.str)),some (.ref mka),some (.int (k:Int)),some (.int at_),some (.ref a),some (.int fst),some (.int (i:Int)),some (.int num),some (.int (ot:Int)),o4,o5]) ((a,o,.list (ns.map z0m))::σ) (λK hK _=> ?_) λot hot=> ?_
  ·repeat' first|(refine z0T (λ_=> ?_) (λ_=> ?_)<;>try (exfalso;rename_i hb;revert hb;simp[V.isNone];done))|refine Leaf.mk ?_
   ·refine z1o (.refL (.tail _ hmm)) hml hmz ?_
    exact hK _ (Nat.le_refl _)
   ·exact hK _ (Nat.le_of_lt t1)
  clear t1 ot0 hM hL
  have hno:QB .next [some (.lst (xs.map V.int)),some (.lst (ws.map V.str)),some (.ref mka),some (.int (k:Int)),some (.int at_),some (.ref a),some (.int fst),some (.int (i:Int)),some (.int num),some (.int (ot:Int)),o4,o5] ((a,o,.list (ns.map z0m))::σ):=hQB _ _ (.mk (Nat.le_succ_of_le hnl) hns)
  by_cases hb:ot=k
  ·subst hb
   exact z7A (by rw[decide_eq_true rfl];rfl) hno
  have hoi:ot<ws.length:=by rw[hwl];exact Nat.lt_succ_of_le hot
  have ho4:ot<1000:=Nat.lt_of_le_of_lt hot (Nat.lt_of_le_of_lt hhi (by decide))
  obtain⟨nm,hnm⟩:∃nm,ws[ot]? =some nm:=⟨_,List.getElem?_eq_getElem hoi⟩
  have hnw:nm≠w:=λe=>hb (by
   subst e
   obtain⟨p1,p2⟩:=List.getElem?_eq_some_iff.mp hnm
   obtain⟨p3,p4⟩:=List.getElem?_eq_some_iff.mp hkw
   exact(List.getElem_inj hwn).mp (p2.trans p4.symm))
  have hom:=hw nm (List.mem_of_getElem? hnm)
  have hotV:=z1H (f:=V.str) hnm
  refine z7D (by rw[decide_eq_false (λe:(ot:Int)=(k:Int)=>hb (Int.ofNat.inj e))];rfl) ?_
  clear hb hnm hw hwn hkw hoi hwl
  refine Leaf.mk (z01 (.lst _) ho4 hotV ?_)
  refine Leaf.mk ?_
  show AT C env ["_law_script","_law_names_here","_law_makes","_law_k","_law_at","_law_found","_law_first","_law_turn","_law_number","_law_other","_law_low","_law_high"] _ true _ (eval _ env) [some (.lst (xs.map V.int)),some (.lst (ws.map V.str)),some (.ref mka),some (.int (k:Int)),some (.int at_),some (.ref a),some (.int fst),some (.int (i:Int)),some (.int num),some (.int (ot:Int)),o4,o5] _ _
  refine z0H "_law_need" [] [] (by rw[hsc];kernel_rfl) GL_nil .nil (z0W ?_)
  with_reducible refine z0d ?_
  refine⟨_,_,.refL (.head _),hnz,λenv' he=>z0K (f:=fstV) (z0r he (by decide+kernel)) (.head _) _ _ _ (λX hX K hK=> ?_) ?_⟩
  ·obtain⟨n,_,rfl⟩:=List.mem_map.mp hX
   unfold z0m at hK⊢
   repeat' with_reducible first|refine z0d ?_|refine z0p ?_|refine z0C ?_|refine z3Q (by with_unfolding_all decide) (by with_unfolding_all decide) (by with_unfolding_all exact rfl) ?_
   exact hK
  rw[List.nil_append,show(ns.map z0m).map fstV=(ns.map (·.1)).map V.str by rw[List.map_map,List.map_map];rfl]
  clear hsc
  refine Leaf.mk (z3Y (.lst _) ?_)
  cases hin:(ns.map (·.1)).any (·==nm) with
  |true=>exact z0h hno
  |false=>
   refine z0h ?_
   repeat' refine Leaf.mk ?_
   refine z1M (.refL (.tail _ hmm)) (.lst _) hmz2 (z2d ?_)
   refine Leaf.mk (y4r hms (Int.natCast_nonneg _) (Int.ofNat_le.mpr hot) λms m0 m1 m2=> ?_)
   refine Leaf.mk (fnc (z23 H m0 m1 m2 λlo hi u0 u1 u2=> ?_))
   repeat' first|(refine Leaf.mk ?_;with_reducible refine⟨tyL At.hd,?_⟩)|refine Leaf.mk ?_
   refine z01 (.lst _) ho4 hotV ?_
   repeat' refine Leaf.mk ?_
   refine z3E hnz (λo'=> ?_)
   refine hQB _ _ ?_
   have:=NdI.mk (a0:= .lst (xs.map V.int)) (a1:= .lst (ws.map V.str)) (a2:= .ref mka) (a3:= .int (k:Int)) (a4:= .int at_) (a6:= .int fst) (a:=a) (σ:=σ) (o:=o') (ns:=ns++[(nm,lo,hi)]) (o1:=some (.int (i:Int))) (o2:=some (.int num)) (o3:=some (.int (ot:Int))) (o4:=some (.int lo)) (o5:=some (.int hi)) (i:=i+1) (by rw[List.length_append];exact Nat.succ_le_succ hnl) (hns.add ⟨hom,u0,u1,u2⟩ hnw hin)
   rw[List.map_append] at this
   exact this
 ·cases hI with
  | @mk o ns o1 o2 o3 o4 o5 hnl hns=>exact⟨a,o,_,σ,rfl,rfl,q ns ⟨Nat.le_trans hnl c1,hns.ok,hns.ne,hns.nd⟩⟩
end
end
section
section
variable {C:Cx} [HM C] [NF C] {d:Nat} {σ:Sto} {Q:V->Sto->Prop}
theorem z15{α β:Type}{f:α->β}:∀{l:List α},(l.map f).Nodup->∀{x y:α},x∈l->y∈l->f x=f y->x=y
 |a::l,h,x,y,hx,hy,e=>by
  have h':=List.nodup_cons.mp h
  rcases List.mem_cons.mp hx with hx|hx
  ·rcases List.mem_cons.mp hy with hy|hy
   ·rw[hx,hy]
   ·exact absurd (List.mem_map.mpr ⟨y,hy,by rw[<-e,hx]⟩) h'.1
  ·rcases List.mem_cons.mp hy with hy|hy
   ·exact absurd (List.mem_map.mpr ⟨x,hx,by rw[e,hy]⟩) h'.1
   ·exact z15 h'.2 hx hy e
theorem z0Y{α:Type}{l:List α}{x:α}(h:l.Nodup)(hx:x∉l):(l++[x]).Nodup:=
 List.nodup_append.mpr ⟨h,List.nodup_cons.mpr ⟨List.not_mem_nil,List.nodup_nil⟩,λa ha b hb=>by
  rw[List.mem_singleton.mp hb];rintro rfl;exact hx ha⟩
structure EsOk(w:Str)(l:List (Int×List z0f)):Prop where
 nd:(l.map (·.1)).Nodup
 len:l.length<=8
 mb:∀p∈l,1<=p.1/\p.1<=999
 nok:∀p∈l,NeedsOk w p.2
theorem EsOk.nil{w:Str}:EsOk w []:=⟨List.nodup_nil,by decide,(λp h=>by cases h),λp h=>by cases h⟩
theorem EsOk.add{w:Str}{l:List (Int×List z0f)}(h:EsOk w l){mk:Int}{ns:List z0f}(hn:mk∉l.map (·.1))(hl:l.length<8)(h1:1<=mk)(h2:mk<=999)(h6:NeedsOk w ns):EsOk w (l++[(mk,ns)]):=by
 refine⟨by rw[List.map_append];exact z0Y h.nd hn,by simp;lia,λp hp=> ?_,λp hp=> ?_⟩
 ·rcases List.mem_append.mp hp with e|e
  ·exact h.mb p e
  ·rw[List.mem_singleton.mp e];exact⟨h1,h2⟩
 ·rcases List.mem_append.mp hp with e|e
  ·exact h.nok p e
  ·rw[List.mem_singleton.mp e];exact h6
noncomputable def z2K(es:Str->List (Int×List z0f))(w:Str)(l:List (Int×List z0f)):Str->List (Int×List z0f):=λv=>if v=w then l else es v
theorem z0G(es:Str->List (Int×List z0f))(w:Str)(l:List (Int×List z0f)):z2K es w l w=l:=by simp[z2K]
theorem z05{es:Str->List (Int×List z0f)}{w v:Str}{l:List (Int×List z0f)}(h:v≠w):z2K es w l v=es v:=by simp[z2K,h]
theorem z4A(es:Str->List (Int×List z0f))(w:Str)(l l':List (Int×List z0f)):z2K (z2K es w l) w l'=z2K es w l':=by
 funext v
 by_cases e:v=w
 ·rw[e,z0G,z0G]
 ·rw[z05 e,z05 e,z05 e]
theorem z9b{es:Str->List (Int×List z0f)}{w:Str}{l:List (Int×List z0f)}(h:es w=l):z2K es w l=es:=by
 funext v
 by_cases e:v=w
 ·rw[e,z0G,h]
 ·rw[z05 e]
structure Rw(σ:Sto)(ro:Addr)(rv:List (Str×Addr))(es:Str->List (Int×List z0f)):Prop where
 rows:At σ ro (dS (kvV rv))
 rin:∀p∈rv,At σ p.2 (dI (esV (es p.1)))
 rwn:(rv.map (·.1)).Nodup
 rl:rv.length<=12
 wok:∀p∈rv,Ware p.1
 out:∀w,w∉rv.map (·.1)->es w=[]
 eok:∀w,EsOk w (es w)
 sep:(ro::rv.map (·.2)).Nodup
variable {ro:Addr} {rv:List (Str×Addr)} {es:Str->List (Int×List z0f)}
theorem Rw.frame{σ':Sto}(S:Rw σ ro rv es)(h:∀a∈ro::rv.map (·.2),∀x,At σ a x->At σ' a x):Rw σ' ro rv es:=
 {S with rows:=h _ (.head _) _ S.rows,rin:=λp hp=>h _ (.tail _ (List.mem_map.mpr ⟨p,hp,rfl⟩)) _ (S.rin p hp)}
theorem Rw.ne(S:Rw σ ro rv es){p:Str×Addr}(h:p∈rv):p.2≠ro:=λe=>(List.nodup_cons.mp S.sep).1 (e▸List.mem_map.mpr ⟨p,h,rfl⟩)
theorem Rw.set(S:Rw σ ro rv es){σ':Sto}{w:Str}{b:Addr}{l:List (Int×List z0f)}(hb:(w,b)∈rv)(ok:EsOk w l)(U:UpdS σ σ' b (dI (esV l))):Rw σ' ro rv (z2K es w l):=by
 refine{S with rows:=U.at S.rows (S.ne hb).symm,rin:=λp hp=> ?_,out:=λv hv=> ?_,eok:=λv=> ?_}
 ·by_cases e:p.1=w
  ·have:p=(w,b):=z15 S.rwn hp hb e
   subst this;rw[z0G];exact U.here
  ·rw[z05 e]
   exact U.at (S.rin p hp) λe2=>e (by rw[z15 (List.nodup_cons.mp S.sep).2 hp hb e2])
 ·rw[z05 (λe=>hv (by rw[e];exact List.mem_map.mpr ⟨_,hb,rfl⟩))];exact S.out v hv
 ·by_cases e:v=w
  ·subst e;rw[z0G];exact ok
  ·rw[z05 e];exact S.eok v
theorem Rw.add(S:Rw σ ro rv es){σ':Sto}{w:Str}{b:Addr}{o:Obj}(hw:Ware w)(hn:w∉rv.map (·.1))(hl:rv.length<12)(hf:Fresh σ b)(U:UpdS ((b,o,dI [])::σ) σ' ro (dS (kvV (rv++[(w,b)])))):Rw σ' ro (rv++[(w,b)]) es:=by
 have hr:b≠ro:=(hf.ne S.rows).symm
 have mem:∀p∈rv++[(w,b)],p∈rv∨p=(w,b):=λp hp=>by simpa using hp
 refine⟨U.here,λp hp=> ?_,by rw[List.map_append];exact z0Y S.rwn hn,by simp;lia,λp hp=> ?_,λv hv=>S.out v λh=>hv (by rw[List.map_append];exact List.mem_append_left _ h),S.eok,?_⟩
 ·rcases mem p hp with h|rfl
  ·exact U.at ((S.rin p h).cons _) (S.ne h)
  ·rw[S.out w hn];exact U.at At.hd hr
 ·rcases mem p hp with h|rfl
  ·exact S.wok p h
  ·exact hw
 ·rw[List.map_append]
  refine z0Y (l:=ro::rv.map (·.2)) S.sep λh=> ?_
  rcases List.mem_cons.mp h with h|h
  ·exact hr h
  ·obtain⟨p,hp,e⟩:=List.mem_map.mp h
   exact hf.ne (S.rin p hp) e
theorem Rw.at(S:Rw σ ro rv es){w:Str}(h:w∈rv.map (·.1)):∃b,(w,b)∈rv/\vAt (kvV rv) w=some (.ref b)/\At σ b (dI (esV (es w))):=by
 apply z0o h;intro p hp
 exact⟨p.2,hp,z0v (by rw[z0z];exact S.rwn) (List.mem_map.mpr ⟨p,hp,rfl⟩),S.rin p hp⟩
noncomputable def y3v(f s:Int):V->V
 | .int j=> .int (f+j*s)
 |v=>v
noncomputable def z4H(r1:Expr):TC:=⟨[.psh (.int 1),.loc 0,.psh (.int 0),.call (.ref 366) 2,.loc 1,.binc .Mod,.binc .Add,.asg 3,.loc 0,.loc 3,.psh (.int 1),.binc .Add,.call (.ref 371) 2,.asg 4,.asgL 5,.loc 3,.forR 6 [.loc 0,.psh (.int 10),.loc 6,.binc .Add,.call (.ref 366) 2,.asg 7,.psh (.int 1),.psh (.int 999),.psh (.int 3),.loc 2,.binc .Mult,.binc .Sub,.psh (.int 1),.loc 7,.psh (.int 12),.binc .FloorDiv,.psh (.int 900),.binc .Mod,.binc .Add,.psh (.int 1),.loc 7,.psh (.int 12),.binc .FloorDiv,.psh (.int 20),.binc .Mod,.binc .Add,.lst 4,.loc 7,.psh (.int 4),.binc .Mod,.sub,.asg 8,.loc 5,.mty "list",.raw r1,.meth (.bi "list.append") 1,.pop],.asgD 9,.loc 3,.forR 6 [.dic,.loc 9,.loc 4,.loc 6,.sub,.setI,.loc 5,.loc 6,.sub,.len,.forR 10 [.loc 0,.loc 4,.loc 5,.loc 6,.psh (.int 20),.psh (.int 9),.loc 6,.binc .Mult,.binc .Add,.psh (.int 3),.loc 10,.binc .Mult,.binc .Add,.call (.ref 383) 5,.loc 9,.loc 4,.loc 6,.sub,.sub,.loc 5,.loc 6,.sub,.loc 10,.sub,.setI]],.loc 9,.ret],[.inr r1],[([3,0,2],some [1])]⟩
--z4H 1
structure MkOk(mm:Nat)(ms:List Int):Prop where
 lo:0<ms.length
 hi:ms.length<=mm
 mb:∀i∈ms,1<=i/\i<=999
 nd:ms.Nodup
theorem y1j{f st:Int}{c mm:Nat}(g0:1<=f)(g1:f<=999-3*(mm:Int))(hc:0<c)(hcm:c<=mm)(e0:0<=st)(e1:st<3):∃ms:List Int,(z0R 0 1 c).map (y3v f (1+st))=ms.map V.int/\MkOk mm ms:=by
 have h3:st=0∨st=1∨st=2:=by lia
 refine⟨(List.range c).map λj:Nat=>f+(j:Int)*(1+st),by rw[z4B,List.map_map,List.map_map];rfl,by rw[List.length_map,List.length_range];exact hc,by rw[List.length_map,List.length_range];exact hcm,λx hx=> ?_,z1S λa b _ _ e=> ?_⟩
 ·apply z0o hx;intro j hj
  have hj:=List.mem_range.mp hj
  clear hx
  rcases h3 with rfl|rfl|rfl<;>constructor<;>lia
 ·rcases h3 with rfl|rfl|rfl<;>lia
theorem y08{n:Int}{mm:Nat}(h1:1<=mm)(h8:mm<=8):∀X∈[V.int 1,.int (999-3*(mm:Int)),.int (1+(n.fdiv 12).fmod 900),.int (1+(n.fdiv 12).fmod 20)],∃f,X= .int f/\1<=f/\f<=999-3*(mm:Int):=by
 have d0:=Int.fmod_nonneg_of_pos (n.fdiv 12) (show(0:Int)<900 by decide)
 have d1:=Int.fmod_lt_of_pos (n.fdiv 12) (show(0:Int)<900 by decide)
 have d2:=Int.fmod_nonneg_of_pos (n.fdiv 12) (show(0:Int)<20 by decide)
 have d3:=Int.fmod_lt_of_pos (n.fdiv 12) (show(0:Int)<20 by decide)
 refine List.forall_mem_cons.mpr ⟨⟨_,rfl,by decide,by lia⟩,List.forall_mem_cons.mpr ⟨⟨_,rfl,by lia,Int.le_refl _⟩,List.forall_mem_cons.mpr ⟨⟨_,rfl,by lia,by lia⟩,List.forall_mem_cons.mpr ⟨⟨_,rfl,by lia,by lia⟩,λ_ h=>by cases h⟩⟩⟩⟩
structure RwNew(mm:Nat)(σ σ':Sto)(ro:Addr)(rv:List (Str×Addr))(es:Str->List (Int×List z0f)):Prop where
 rw_:Rw σ' ro rv es
 ne:∀p∈rv,es p.1≠[]/\(es p.1).length<=mm
 lo:0<rv.length
 fr:Fresh σ ro/\∀p∈rv,Fresh σ p.2
 keep:∀p∈σ,p∈σ'
inductive MkI(a0 a1 a2 a3 a4:V)(mka:Addr)(mm:Nat)(σ:Sto)(i:Nat):Loc->Sto->Prop
 |mk {o:Obj} {mss:List (List Int)} {k num fst:Option V}:mss.length=i->(∀ms∈mss,MkOk mm ms)->MkI a0 a1 a2 a3 a4 mka mm σ i [some a0,some a1,some a2,some a3,some a4,some (.ref mka),k,num,fst,none,none] ((mka,o,.list (msV mss))::σ)
inductive RwI(a0 a1 a2 a3 a4 a5:V)(num fst:Option V)(ro:Addr)(ws:List Str)(mm:Nat)(σ1:Sto)(i:Nat):Loc->Sto->Prop
 |mk {rv:List (Str×Addr)} {es:Str->List (Int×List z0f)} {k j:Option V} {τ:Sto}:Rw τ ro rv es->rv.map (·.1)=ws.take i->(∀p∈rv,es p.1≠[]/\(es p.1).length<=mm)->(∀p∈rv,Fresh σ1 p.2)->(∀p∈σ1,p∈τ)->RwI a0 a1 a2 a3 a4 a5 num fst ro ws mm σ1 i [some a0,some a1,some a2,some a3,some a4,some a5,k,num,fst,some (.ref ro),j] τ
inductive RjI(a0 a1 a2 a3 a4 a5 a6:V)(num fst:Option V)(ro:Addr)(rv:List (Str×Addr))(es:Str->List (Int×List z0f))(w:Str)(ms:List Int)(σ1:Sto)(jj:Nat):Loc->Sto->Prop
 |mk {l:List (Int×List z0f)} {j:Option V} {τ:Sto}:Rw τ ro rv (z2K es w l)->l.map (·.1)=ms.take jj->(∀p∈σ1,p∈τ)->RjI a0 a1 a2 a3 a4 a5 a6 num fst ro rv es w ms σ1 jj [some a0,some a1,some a2,some a3,some a4,some a5,some a6,num,fst,some (.ref ro),j] τ
theorem z7S(H:G1 C){xs:List Int}{most mm:Nat}(hx:xs.length<=100)(h0:0<most)(h1:most<=12)(m1:1<=mm)(m8:mm<=8)
  (q:∀ro rv es σ',RwNew mm σ σ' ro rv es->rv.length<=most->(most<=5->∀p∈rv,p.1≠("nothing":Str))->Q (.ref ro) σ'):
  CW C (d+4) (.ref 388) [.lst (xs.map V.int),.int (most:Int),.int (mm:Int)] σ Q:=by
 refine z08 (G1.kin (by assumption)) ["_law_script","_law_most","_law_many_makes","_law_many","_law_names_here","_law_makes","_law_k","_law_number","_law_first","_law_rows_here","_law_j"] [("_law_mixed",.ref 366),("_law_names",.ref 371),("range",.type "range"),("len",.bi "len"),("_law_needs",.ref 383)] (by kernel_rfl) (vs3 λ_ _ _=>by kernel_rfl) rfl (z0a (z1d (by assumption)) (z0a (z3U (by assumption)) (z0a (z2H (by assumption)) (z0a (z00 (by assumption)) (z0a (z7a (by assumption)) GL_nil))))) ?_
 intro env hsc
 refine z0n (z0x H) (z0A H) (z4H _) (by exact rfl) (by kernel_rfl) ?_
 intro F m0
 refine Leaf.mk (fnc (z0J H hx (by decide) (by decide) λn0 b0 b1=> ?_))
 clear b0 b1
 refine z2g h0 λr0 hr0=> ?_
 have hrm:1+r0<=most:=Nat.add_comm 1 r0▸hr0
 have hr1:0<1+r0:=Nat.add_comm 1 r0▸Nat.succ_pos r0
 have hr2:=Nat.le_trans hrm h1
 have hrk:1+r0<=1000:=Nat.le_trans hr2 (by decide)
 refine Leaf.mk (fnc (z3L H (n:=1+r0+1) hx (Nat.le_trans (Nat.succ_le_succ hr2) (by decide)) λws wl hwN hwn=> ?_))
 have hw:∀w∈ws,Ware w:=λw h=>(hwN w h).w
 intro mka omk hfm
 refine Leaf.mk (.mk (1+r0) (MkI (.lst (xs.map V.int)) (.int (most:Int)) (.int (mm:Int)) (.int ((1+r0:Nat):Int)) (.lst (ws.map V.str)) mka mm σ) rfl hrk (.mk (mss:=[]) rfl λ_ h=>by cases h) (λi hi m τ hI QB hQB _=> ?_) λm τ hI=> ?_)
 ·clear q
  refine hI.casesOn @λo mss k num fst hml hms=> ?_
  have hi12:i<12:=Nat.lt_of_lt_of_le hi hr2
  refine Leaf.mk (fnc (z0J H (k:=((10+i:Nat):Int)) hx (Int.natCast_nonneg _) (Int.ofNat_lt.mpr (Nat.lt_trans (Nat.add_lt_add_left hi12 10) (by decide))) λn c0 c1=> ?_))
  clear c0 c1
  repeat' first|(refine Leaf.mk ?_;with_reducible refine z3O ?_ (IntMulOk.of_left (by with_unfolding_all decide)))|refine Leaf.mk ?_|fail
  refine z2D (Int.fmod_nonneg_of_pos _ (by decide)) (Int.fmod_lt_of_pos _ (by decide)) (show 4<2^40 by decide) λX hX=> ?_
  obtain⟨f,rfl,g0,g1⟩:=y08 (n:=n) m1 m8 X hX
  clear hX
  have e0:=Int.fmod_nonneg_of_pos (n.fdiv 24) (show(0:Int)<3 by decide)
  have e1:=Int.fmod_lt_of_pos (n.fdiv 24) (show(0:Int)<3 by decide)
  have hmp:(0:Int)<(mm:Int):=Int.ofNat_lt.mpr m1
  have hmz:(mm:Int)≠0:=Int.ne_of_gt hmp
  obtain⟨c,hc⟩:=Int.eq_ofNat_of_zero_le (Int.fmod_nonneg_of_pos (n.fdiv 72) hmp)
  have hcm:1+c<=mm:=Nat.add_comm 1 c▸Int.ofNat_lt.mp (hc▸Int.fmod_lt_of_pos (n.fdiv 72) hmp)
  obtain⟨ms,hme,hmo⟩:=y1j g0 g1 (Nat.add_comm 1 c▸Nat.succ_pos c) hcm e0 e1
  have hmo1:∀j:Int,IntMulOk j (1+(n.fdiv 24).fmod 3):=λj=>z4c (by lia)
  have hck:1+c<=1000:=Nat.le_trans hcm (Nat.le_trans m8 (by decide))
  clear e0 e1 g0 g1
  repeat' first|(refine Leaf.mk ?_;with_reducible refine⟨tyL At.hd,?_⟩)|refine Leaf.mk ?_|fail
  show AT C env ["_law_script","_law_most","_law_many_makes","_law_many","_law_names_here","_law_makes","_law_k","_law_number","_law_first","_law_rows_here","_law_j"] _ true _ (eval _ env) [some (.lst (xs.map V.int)),some (.int (most:Int)),some (.int (mm:Int)),some (.int ((1+r0:Nat):Int)),some (.lst (ws.map V.str)),some (.ref mka),some (.int (i:Int)),some (.int n),some (.int f),none,none] _ _
  refine z0H "_law_j" ["_law_first","_law_number"] [] (by rw[hsc];kernel_rfl) GL_nil (.cons LkC.lk (.cons LkC.lk .nil)) (z1u ?_)
  repeat' with_reducible first|refine z0d ?_|refine z0s ?_|refine z0p ?_|refine z0i ?_|refine z0I ?_|refine z0b ?_|refine z0c ?_|refine z4Q ?_|refine z3b ?_ (by with_reducible assumption)|refine z2z ?_ (by with_unfolding_all decide) (by with_unfolding_all decide)|refine z1D ?_|refine⟨z0u,?_⟩|fail
  rw[hc]
  refine⟨_,_,_,1+c,rfl,z6S hck,z7b (1+c),z0y (by rw[z1I];exact Nat.le_trans hck (by decide)),λenv' he=>z0K (f:=y3v f (1+(n.fdiv 24).fmod 3)) (z0r he (by decide+kernel)) trivial _ _ _ (λX hX K hK=> ?_) ?_⟩
  ·obtain⟨j,hj,rfl⟩:=z1r hX
   repeat' with_reducible first|refine z0d ?_|refine z0p ?_|refine z0I ?_|refine z4Q ?_|refine z3b ?_ (by with_unfolding_all decide)|refine z2z ?_ (by with_unfolding_all decide) (by with_unfolding_all decide)|refine z3O ?_ ?_|fail
   all_goals first|exact hmo1 _|exact hK
  rw[List.nil_append,hme]
  refine Leaf.mk (z3E (z0y (by unfold msV;rw[List.length_map,hml];exact Nat.le_trans (Nat.le_of_lt hi12) (by decide))) λo'=> ?_)
  refine hQB _ _ ?_
  rw[show msV mss++[.lst (ms.map V.int)]=msV (mss++[ms]) by unfold msV;rw[List.map_append];rfl]
  exact .mk (by rw[List.length_append,hml];rfl) λx hx=>(List.mem_append.mp hx).elim (hms x) λh=>List.mem_singleton.mp h▸hmo
 refine hI.casesOn @λo mss k num fst hml hms=> ?_
 have hMs:MsOk mss:=⟨by rw[hml];exact hr1,by rw[hml];exact hr2,λms hm=>⟨(hms ms hm).lo,Nat.le_trans (hms ms hm).hi m8,(hms ms hm).mb⟩,λms hm=>(hms ms hm).nd⟩
 intro ro oro hfr
 have hmem:(mka,o,AO.list (msV mss))∈(mka,o,AO.list (msV mss))::σ:= .head _
 generalize hσ1:(mka,o,AO.list (msV mss))::σ=σ1 at hfr hmem⊢
 have hsub:∀p∈σ,p∈σ1:=λp hp=>by rw[<-hσ1];exact .tail _ hp
 clear hσ1 hfm
 refine Leaf.mk (.mk (1+r0) (RwI (.lst (xs.map V.int)) (.int (most:Int)) (.int (mm:Int)) (.int ((1+r0:Nat):Int)) (.lst (ws.map V.str)) (.ref mka) num fst ro ws mm σ1) rfl hrk (.mk (rv:=[]) (es:=λ_=>[]) ⟨At.hd,(λ_ h=>by cases h),List.nodup_nil,by decide,(λ_ h=>by cases h),(λ_ _=>rfl),(λ_=> .nil),List.nodup_cons.mpr ⟨List.not_mem_nil,List.nodup_nil⟩⟩ rfl (λ_ h=>by cases h) (λ_ h=>by cases h) λp hp=> .tail _ hp) (λi hi m τ hI QB hQB _=> ?_) λm τ hI=> ?_)
 ·clear q
  refine hI.casesOn @λrv es k j τ S hkeys hne hfp hkp=> ?_
  have hi12:i<12:=Nat.lt_of_lt_of_le hi hr2
  have hik:i<1000:=Nat.lt_trans hi12 (by decide)
  have hwi:i<ws.length:=by rw[wl];exact Nat.lt_succ_of_lt hi
  have hwnew:ws[i]∉rv.map (·.1):=by rw[hkeys];exact z7I hwn hwi
  have htk:ws.take (i+1)=ws.take i++[ws[i]]:=z70 hwi
  obtain⟨w,hwe⟩:∃w,ws[i]=w:=⟨_,rfl⟩
  rw[hwe] at hwnew htk
  have hwe:ws[i]? =some w:=by rw[List.getElem?_eq_getElem hwi,hwe]
  have hwm:w∈ws:=List.mem_of_getElem? hwe
  have hweV:=z1H (f:=V.str) hwe
  have hmi:i<mss.length:=by rw[hml];exact hi
  obtain⟨ms,hmse⟩:∃ms,mss[i]? =some ms:=⟨_,List.getElem?_eq_getElem hmi⟩
  have hmo:=hms ms (List.mem_of_getElem? hmse)
  have hmsV:(msV mss)[i]? =some (V.lst (ms.map V.int)):=z1H hmse
  have hkl:rv.length=i:=z5C hkeys (Nat.le_of_lt hwi)
  have hrn:((kvV rv).map (·.1)).Nodup:=by rw[z0z];exact S.rwn
  have hkz:(kvV rv).length<=sizeLine:=z0y (by unfold kvV;rw[List.length_map,hkl];exact Nat.le_trans (Nat.le_of_lt hi12) (by decide))
  intro b ob hfb
  refine Leaf.mk (z01 (.lst _) hik hweV ?_)
  refine Leaf.mk (y0I (S.rows.cons _) hrn hkz λτ1 U=> ?_)
  rw[z1W (by rw[z0z];exact hwnew),<-z9r] at U
  have S1:=S.add (hw w hwm) hwnew (hkl▸hi12) hfb U
  have hb1:(w,b)∈rv++[(w,b)]:=List.mem_append_right _ (.head _)
  have hkp1:∀p∈σ1,p∈τ1:=λp hp=>U.keep p (.tail _ (hkp p hp)) λe=>hfr p hp e
  have hbf:Fresh σ1 b:=λp hp=>hfb p (hkp p hp)
  have hout:=S.out w hwnew
  have hm8:ms.length<=8:=Nat.le_trans hmo.hi m8
  have hmz:(ms.map V.int).length<=sizeLine:=z0M hm8 (by decide)
  clear S U hfb hkp hrn hkz hkl hmse
  refine Leaf.mk (z01 (.refL (hkp1 _ hmem)) hik hmsV ?_)
  refine Leaf.mk (z1o (.lst _) (List.length_map _) hmz ?_)
  refine Leaf.mk (.mk ms.length (RjI (.lst (xs.map V.int)) (.int (most:Int)) (.int (mm:Int)) (.int ((1+r0:Nat):Int)) (.lst (ws.map V.str)) (.ref mka) (.int (i:Int)) num fst ro (rv++[(w,b)]) es w ms σ1) rfl (Nat.le_trans hm8 (by decide)) (.mk (l:=[]) (by rw[z9b hout];exact S1) rfl hkp1) (λjj hj m τ2 hI QB hQB' _=> ?_) λm τ2 hI=> ?_)
  ·clear hQB S1 hkp1 hne hfp htk
   refine hI.casesOn @λl j2 τ2 S2 hlk hkp2=> ?_
   have hj8:jj<8:=Nat.lt_of_lt_of_le hj hm8
   have hjk:jj<1000:=Nat.lt_trans hj8 (by decide)
   have hjnew:ms[jj]∉l.map (·.1):=by rw[hlk];exact z7I hmo.nd hj
   have hjt:ms.take (jj+1)=ms.take jj++[ms[jj]]:=z70 hj
   have hjm:=hmo.mb _ (List.getElem_mem hj)
   have hje:ms[jj]? =some ms[jj]:=List.getElem?_eq_getElem hj
   generalize ms[jj]=mk at hje hjm hjnew hjt
   have hjV:=z1H (f:=V.int) hje
   have hat:=S2.rin _ hb1
   have hlok:=S2.eok w
   rw[z0G] at hat hlok
   have hll:l.length=jj:=z5C hlk (Nat.le_of_lt hj)
   have hrn2:((kvV (rv++[(w,b)])).map (·.1)).Nodup:=by rw[z0z];exact S2.rwn
   have hrv2:vAt (kvV (rv++[(w,b)])) w=some (.ref b):=z0v hrn2 (List.mem_map.mpr ⟨_,hb1,rfl⟩)
   have hen:((esV l).map (·.1)).Nodup:=by rw[z0E];exact hlok.nd
   have hlz:(esV l).length<=sizeLine:=z0y (by unfold esV;rw[List.length_map,hll];exact Nat.le_trans (Nat.le_of_lt hj8) (by decide))
   have hro:=S2.rows
   repeat' first|(refine Leaf.mk ?_;with_reducible refine z3O ?_ (IntMulOk.of_left (by with_unfolding_all decide)))|refine Leaf.mk ?_|fail
   refine fnc (z6E H hx (at_:=((20+9*i+3*jj:Nat):Int)) ⟨_,hkp2 _ hmem⟩ hMs (by rw[wl,hml]) hw hwn hmi hwe (Int.natCast_nonneg _) (Int.ofNat_lt.mpr (show 20+9*i+3*jj<900 by lia)) λns hns=> ?_)
   refine Leaf.mk (z01 (.lst _) hik hweV ?_)
   refine Leaf.mk (z13 hro hrn2 hrv2 ?_)
   refine Leaf.mk (z01 (.refL (hkp2 _ hmem)) hik hmsV ?_)
   refine Leaf.mk (z01 (.lst _) hjk hjV ?_)
   refine Leaf.mk (z8Q hat hen hlz λτ3 U3=> ?_)
   rw[z1W (by rw[z0E];exact hjnew),<-z89] at U3
   refine hQB' _ _ (.mk (l:=l++[(mk,ns)]) ?_ (by rw[List.map_append,hlk,hjt];rfl) λp hp=>U3.keep p (hkp2 p hp) (hbf p hp))
   rw[<-z4A es w l]
   exact S2.set hb1 (hlok.add hjnew (hll▸hj8) hjm.1 hjm.2 hns) U3
  ·refine hI.casesOn @λl j2 τ2 S2 hlk hkp2=> ?_
   rw[List.take_length] at hlk
   have hll:l.length=ms.length:=by rw[<-hlk,List.length_map]
   refine hQB _ _ (.mk (rv:=rv++[(w,b)]) S2 (by rw[List.map_append,hkeys,htk];rfl) (λp hp=> ?_) (λp hp=>(List.mem_append.mp hp).elim (hfp p) λh=>List.mem_singleton.mp h▸hbf) hkp2)
   rcases List.mem_append.mp hp with h|h
   ·rw[z05 (λe=>hwnew (by rw[<-e];exact List.mem_map.mpr ⟨p,h,rfl⟩))];exact hne p h
   ·rw[List.mem_singleton.mp h,z0G]
    exact⟨λe=>Nat.lt_irrefl 0 (by have:=hmo.lo;rw[<-hll,e] at this;exact this),by rw[hll];exact hmo.hi⟩
 ·refine hI.casesOn @λrv es k j τ S hkeys hne hfp hkp=> ?_
  have hkl:rv.length=1+r0:=z5C hkeys (by rw[wl];exact Nat.le_succ _)
  exact q ro rv es τ ⟨S,hne,by rw[hkl];exact hr1,⟨λp hp=>hfr p (hsub p hp),λp hp p' hp'=>hfp p hp p' (hsub p' hp')⟩,λp hp=>hkp p (hsub p hp)⟩ (by rw[hkl];exact hrm) λh5 p hp=>(hwN p.1 (List.mem_of_mem_take (hkeys▸List.mem_map.mpr ⟨p,hp,rfl⟩))).x (Nat.succ_le_succ (Nat.le_trans hrm h5))
end
end
section
section
variable {C:Cx} [HM C] [NF C] {d:Nat} {σ:Sto} {Q:V->Sto->Prop} {ro:Addr} {rv:List (Str×Addr)} {es:Str->List (Int×List z0f)}
structure WishOk(wi:List z0f):Prop where
 len:wi.length<=8
 ok:∀n∈wi,NeedOk n
theorem y4p{xs:List V}(h1:0<xs.length)(hs:xs.length<2^40)(q:∀X∈xs,Q X σ):SubR C d (.lst xs) (.int (-1)) σ Q:=by
 have hl:(-1+(xs.length:Int)).toNat<xs.length:=by lia
 exact y2I (.lst _) (by decide) (by lia) (by decide) (List.getElem?_eq_getElem hl) (q _ (List.getElem_mem hl))
theorem y0H{l:List Int}{P:Int->Prop}(h:∀i∈l,P i):∀i∈z10 l,P i:=λi hi=>h i ((z1n l).mem_iff.mp hi)
theorem z7B(H:G1 C)(S:Rw σ ro rv es)(hne:∀p∈rv,es p.1≠[]/\(es p.1).length<=8){w:Str}(hw:w∈rv.map (·.1)):
  0<(z10 ((es w).map (·.1))).length/\(z10 ((es w).map (·.1))).length<=20/\∀i∈z10 ((es w).map (·.1)),1<=i/\i<=999:=by
 apply z0o hw;intro p hp
 have h:=hne p hp
 have hl:(z10 ((es p.1).map (·.1))).length=(es p.1).length:=by rw[(z1n _).length_eq,List.length_map]
 refine⟨by rw[hl];exact List.length_pos_iff.mpr h.1,by lia,y0H λi hi=> ?_⟩
 apply z0o hi;intro e he
 exact(S.eok p.1).mb e he
noncomputable def z4P(r1:Expr):TC:=⟨[.loc 1,.call (.type "list") 1,.loc 0,.loc 1,.len,.psh (.int 1),.binc .Add,.call (.ref 371) 2,.psh (.int 1),.una .USub,.psh .none,.psh .none,.slc,.sub,.binc .Add,.asg 3,.asgL 4,.loc 0,.psh (.int 170),.call (.ref 366) 2,.asg 5,.psh (.int 1),.loc 5,.psh (.int 9),.binc .FloorDiv,.loc 2,.binc .Mod,.binc .Add,.psh (.int 8),.psh (.int 0),.lst 3,.psh (.int 0),.psh (.int 0),.psh (.int 0),.psh (.int 0),.psh (.int 2),.psh (.int 0),.psh (.int 1),.psh (.int 0),.psh (.int 0),.lst 9,.loc 5,.psh (.int 9),.binc .Mod,.sub,.sub,.forR 6 [.loc 0,.psh (.int 171),.loc 6,.binc .Add,.call (.ref 366) 2,.asg 5,.loc 3,.loc 5,.loc 1,.len,.binc .Mod,.sub,.asg 7,.cut [.loc 5,.psh (.int 7),.binc .FloorDiv,.psh (.int 24),.binc .Mod,.psh (.int 5),.tcmpc .Eq,.ife [.loc 3,.psh (.int 1),.una .USub,.sub,.asg 7] []],.loc 5,.psh (.int 168),.binc .FloorDiv,.loc 1,.mty "dict",.loc 7,.raw r1,.meth (.bi "dict.get") 2,.call (.bi "sorted") 1,.call (.ref 378) 2,.asg2 8 9,.drp,.loc 4,.mty "list",.loc 7,.loc 8,.loc 9,.tup 3,.meth (.bi "list.append") 1,.pop],.loc 4,.ret],[.inr r1],[([3,0,3],some [2,1,2])]⟩
--z4P 1
theorem y0q(H:G1 C)(S:Rw σ ro rv es)(hne:∀p∈rv,es p.1≠[]/\(es p.1).length<=8){nm:Str}{b:Addr}{τ:Sto}(hk:∀a x,At σ a x->At τ a x)(hb:At τ b (.dict (z06 (KK.int C.prog C.w) [(7,V.lst [])])))(q:∀ms:List Int,0<ms.length->ms.length<=20->(∀i∈ms,1<=i/\i<=999)->Q (.lst (ms.map V.int)) τ):KW C d (.bi "sorted") [(vAt (kvV rv) nm).getD (.ref b)] τ Q:=by
 by_cases hm:nm∈rv.map (·.1)
 ·obtain⟨b',hb',e,hat⟩:=S.at hm
  have hs:=z7B H S hne hm
  rw[e]
  refine z3W (kvs:=esV (es nm)) H.ns (hk _ _ hat) (by rw[z0E];exact(S.eok nm).nd) (by unfold esV;rw[List.length_map];exact Nat.lt_of_le_of_lt (hne _ hb').2 (by decide)) (.inl ?_)
  rw[z0E]
  exact q _ hs.1 hs.2.1 hs.2.2
 ·rw[z1i (by rw[z0z];exact hm)]
  refine z3W (kvs:=[(7,V.lst [])]) H.ns hb (by decide) (by decide) (.inl ?_)
  show Q (.lst ((z10 [7]).map V.int)) _
  rw[show z10 [7]=[7] from by simp[z10]]
  exact q [7] (by decide) (by decide) (by decide)
theorem y0R{k:Nat}(h:k<8):∀X∈[V.int (1+(k:Int)),.int 8,.int 0],∃cnt:Nat,X= .int (cnt:Int)/\cnt<=8:=
 List.forall_mem_cons.mpr ⟨⟨1+k,rfl,Nat.add_comm 1 k▸h⟩,List.forall_mem_cons.mpr ⟨⟨8,rfl,by decide⟩,List.forall_mem_cons.mpr ⟨⟨0,rfl,by decide⟩,λ_ h=>by cases h⟩⟩⟩
inductive WiI(a0 a1 a2 a3:V)(a:Addr)(σ:Sto)(i:Nat):Loc->Sto->Prop
 |mk {o:Obj} {wi:List z0f} {v1 v2 v3 v4 v5:Option V}:wi.length<=i->(∀n∈wi,NeedOk n)->WiI a0 a1 a2 a3 a σ i [some a0,some a1,some a2,some a3,some (.ref a),v1,v2,v3,v4,v5] ((a,o,.list (wi.map z0m))::σ)
theorem z7L(H:G1 C){xs:List Int}{most:Nat}(hx:xs.length<=100)(S:Rw σ ro rv es)(hlo:0<rv.length)(hne:∀p∈rv,es p.1≠[]/\(es p.1).length<=8)(m1:0<most)(m2:most<=8)
  (q:∀wi,WishOk wi->Q (.lst (wi.map z0m)) σ):CW C (d+3) (.ref 395) [.lst (xs.map V.int),.ref ro,.int (most:Int)] σ Q:=by
 refine z2v ?_
 refine z08 (G1.kin (by assumption)) ["_law_script","_law_rows_here","_law_most","_law_names_here","_law_found","_law_number","_law_turn","_law_name","_law_low","_law_high"] [("list",.type "list"),("_law_names",.ref 371),("len",.bi "len"),("_law_mixed",.ref 366),("range",.type "range"),("_law_stretch",.ref 378),("sorted",.bi "sorted")] (by kernel_rfl) (vs3 λ_ _ _=>by kernel_rfl) rfl (z0a (z03 (by assumption)) (z0a (z3U (by assumption)) (z0a (z00 (by assumption)) (z0a (z1d (by assumption)) (z0a (z2H (by assumption)) (z0a (z2Z (by assumption)) (z0a (z2C (by assumption)) GL_nil))))))) ?_
 intro env hsc
 clear hsc
 have hrl:=S.rl
 have hro:=S.rows
 have hrn:((kvV rv).map (·.1)).Nodup:=by rw[z0z];exact S.rwn
 have hkl:(kvV rv).length=rv.length:=List.length_map _
 have hkp:0<(kvV rv).length:=hkl▸hlo
 have hkz:(kvV rv).length<=sizeLine:=z0M hrl (by decide)
 refine z0n (z0x H) (z0A H) (z4P _) (by exact rfl) (by kernel_rfl) ?_
 intro F m0
 refine Leaf.mk (z2y H.ns hro hrn hkz (.inl ?_))
 refine Leaf.mk (z2M H.ns hro hrn hkz ?_)
 refine Leaf.mk (fnc (z3L H (n:=(kvV rv).length+1) hx (Nat.le_trans (Nat.succ_le_succ (hkl▸hrl)) (by decide)) λws wl hwN hwn=> ?_))
 have hw:∀w∈ws,Ware w:=λw h=>(hwN w h).w
 clear hwN
 refine Leaf.mk (y1h ?_)
 have hwl:(ws.map V.str).length<=20:=by rw[List.length_map,wl,hkl];exact Nat.le_trans (Nat.succ_le_succ hrl) (by decide)
 refine Leaf.mk (z1N (.lst _) (.int _) .none .none (λe=>nomatch e) (z0y (Nat.le_trans hwl (by decide))) (z2d ?_))
 have hsl:=Nat.le_trans (y3W (xs:=ws.map V.str) (lo:=some (-1)) (hi:=none)) hwl
 have hnm:∀X∈((kvV rv).map λp=>V.str p.1)++slL (ws.map V.str) (some (-1)) none none,∃w,X= .str w/\Ware w:=λX hX=>by
  rcases List.mem_append.mp hX with h|h
  ·apply z0o h;intro p hp
   apply z0o hp;intro p' hp'
   exact⟨_,rfl,S.wok p' hp'⟩
  ·apply z0o (z9e X h);intro w hm
   exact⟨w,rfl,hw w hm⟩
 have hl1:((kvV rv).map λp=>V.str p.1).length=(kvV rv).length:=List.length_map _
 have hs40:((kvV rv).map λp=>V.str p.1).length+(slL (ws.map V.str) (some (-1)) none none).length<=40:=by rw[hl1,hkl];exact Nat.le_trans (Nat.add_le_add hrl hsl) (by decide)
 refine Leaf.mk (z1M (.lst _) (.lst _) (z0y (Nat.le_trans hs40 (by decide))) (z2d ?_))
 have hnl:(((kvV rv).map λp=>V.str p.1)++slL (ws.map V.str) (some (-1)) none none).length<2^40:=by rw[List.length_append];exact Nat.lt_of_le_of_lt hs40 (by decide)
 have hlow:(kvV rv).length<=(((kvV rv).map λp=>V.str p.1)++slL (ws.map V.str) (some (-1)) none none).length:=by rw[List.length_append,hl1];exact Nat.le_add_right _ _
 generalize ((kvV rv).map λp=>V.str p.1)++slL (ws.map V.str) (some (-1)) none none=nms at hnm hnl hlow⊢
 clear hs40 hl1 hsl hwl hw hwn wl hlo hkl hrl
 intro a o hf
 refine Leaf.mk (fnc (z0J H hx (by decide) (by decide) λn0 b0 b1=> ?_))
 clear b0 b1
 refine z2g m1 λk hk=> ?_
 refine Leaf.mk (z2D (Int.fmod_nonneg_of_pos _ (by decide)) (Int.fmod_lt_of_pos _ (by decide)) (by decide) λX hX=> ?_)
 obtain⟨w0,rfl,w2⟩:∃w0:Nat,X= .int (w0:Int)/\w0<=2:=z55 (by decide) X hX
 clear hX
 refine Leaf.mk (z2D (Int.natCast_nonneg w0) (Int.ofNat_lt.mpr (Nat.lt_succ_of_le w2)) (show 3<2^40 by decide) λX hX=> ?_)
 obtain⟨cnt,rfl,c1⟩:=y0R (Nat.lt_of_lt_of_le hk m2) X hX
 clear hX hk w2
 refine Leaf.mk (.mk cnt (WiI (.lst (xs.map V.int)) (.ref ro) (.int (most:Int)) (.lst nms) a σ) rfl (Nat.le_trans c1 (by decide)) (.mk (wi:=[]) (Nat.le_refl _) λ_ h=>by cases h) (λi hi m τ hI QB hQB _=> ?_) λm τ hI=> ?_)
 ·clear q hf
  refine hI.casesOn @λo wi v1 v2 v3 v4 v5 hwl2 hok=> ?_
  have hi8:i<8:=Nat.lt_of_lt_of_le hi c1
  have hwV:(wi.map z0m).length<=sizeLine:=z0M (Nat.le_trans hwl2 (Nat.le_of_lt hi8)) (by decide)
  refine Leaf.mk (fnc (z0J H (k:=((171+i:Nat):Int)) hx (Int.natCast_nonneg _) (Int.ofNat_lt.mpr (Nat.lt_trans (Nat.add_lt_add_left hi8 171) (by decide))) λn c2 c3=> ?_))
  clear c2 c3
  refine Leaf.mk (z2M H.ns (hro.cons _) hrn hkz ?_)
  refine z2g hkp λj hj=> ?_
  refine Leaf.mk (z2D (Int.natCast_nonneg j) (Int.ofNat_lt.mpr (Nat.lt_of_lt_of_le hj hlow)) hnl λX hX=> ?_)
  obtain⟨nm0,rfl,hnw0⟩:=hnm X hX
  refine z3w (α:=Str) Ware (λnm=>[some (.lst (xs.map V.int)),some (.ref ro),some (.int (most:Int)),some (.lst nms),some (.ref a),some (.int n),some (.int (i:Int)),some (.str nm),v4,v5]) ((a,o,.list (wi.map z0m))::σ) (λK hK _=> ?_) λnm hnw=> ?_
  ·refine z0T (λ_=> ?_) λ_=>hK _ hnw0
   refine Leaf.mk (y1h ?_)
   refine Leaf.mk (y4p (Nat.lt_of_lt_of_le hkp hlow) hnl λX hX=> ?_)
   obtain⟨nm,rfl,hnw⟩:=hnm X hX
   exact hK _ hnw
  clear hX hnw0
  refine Leaf.mk ⟨tyD (hro.cons _),?_⟩
  refine Leaf.mk ?_
  show AT C env _ _ true _ (eval _ env) [some (.lst (xs.map V.int)),some (.ref ro),some (.int (most:Int)),some (.lst nms),some (.ref a),some (.int n),some (.int (i:Int)),some (.str nm),v4,v5] _ _
  refine z2p (KK.int C.prog C.w) λb ob hfb=> ?_
  repeat' with_reducible first|refine z0p ?_|refine z0P ?_|refine z0c ?_|refine⟨by with_unfolding_all exact Nat.le_of_ble_eq_true rfl,?_⟩|fail
  refine⟨7,rfl,rfl,λob'=> ?_⟩
  refine Leaf.mk (z9f H.ns ((hro.cons _).cons _) hrn ?_)
  refine Leaf.mk (y0q H S hne (λa x h=>(h.cons _).cons _) At.hd λms k0 k1 k2=> ?_)
  refine Leaf.mk (fnc (z23 H k0 k1 k2 λlo hi u0 u1 u2=> ?_))
  refine Leaf.mk ⟨(a,o,.list (wi.map z0m))::σ,List.sublist_cons_self _ _,?_⟩
  refine Leaf.mk ⟨tyL At.hd,?_⟩
  refine Leaf.mk (z3E hwV λo'=> ?_)
  refine hQB _ _ ?_
  have hm:WiI (.lst (xs.map V.int)) (.ref ro) (.int (most:Int)) (.lst nms) a σ (i+1) _ ((a,o',.list ((wi++[(nm,lo,hi)]).map z0m))::σ):= .mk (v1:=some (.int n)) (v2:=some (.int (i:Int))) (v3:=some (.str nm)) (v4:=some (.int lo)) (v5:=some (.int hi)) (by rw[List.length_append];exact Nat.succ_le_succ hwl2) λn hn=>(List.mem_append.mp hn).elim (hok n) λh=>List.mem_singleton.mp h▸⟨hnw,u0,u1,u2⟩
  rw[List.map_append] at hm
  exact hm
 ·cases hI with
  | @mk o wi v1 v2 v3 v4 v5 hwl2 hok=>exact⟨a,o,_,σ,rfl,rfl,q wi ⟨Nat.le_trans hwl2 c1,hok⟩⟩
end
end
section
section
variable {C:Cx} [HM C] [NF C] {d:Nat} {σ:Sto} {Q:V->Sto->Prop} {i k ro:Addr} {kv rv:List (Str×Addr)} {es:Str->List (Int×List z0f)}
theorem EsOk.e3{w:Str}{l:List (Int×List z0f)}(h:EsOk w l):(l.map (·.1)).Nodup/\l.length<=8/\∀p∈l,p.2.length<=6:=⟨h.nd,h.len,λp hp=>(h.nok p hp).len⟩
theorem Shp.frame{σ':Sto}(S:Shp σ i k kv es)(h:∀a∈i::k::kv.map (·.2),∀x,At σ a x->At σ' a x):Shp σ' i k kv es:=
 ⟨let⟨dx,e⟩:=S.inst;⟨dx,h _ (.head _) _ e⟩,h _ (.tail _ (.head _)) _ S.kept,S.kvn,S.kl,λp hp=>h _ (.tail _ (.tail _ (List.mem_map.mpr ⟨p,hp,rfl⟩))) _ (S.inn p hp),S.out,S.eok,S.sep⟩
theorem z71{P:Str->List (Int×List z0f)->Prop}{w:Str}{l:List (Int×List z0f)}(h:∀v,P v (es v))(hl:P w l):∀v,P v (z2K es w l v):=λv=>by
 by_cases e:v=w
 ·subst e;rw[z0G];exact hl
 ·rw[z05 e];exact h v
noncomputable abbrev E3(l:List (Int×List z0f)):Prop:=(l.map (·.1)).Nodup/\l.length<=8/\∀p∈l,p.2.length<=6
theorem Shp.vv(S:Shp σ i k kv es):(kv.map (·.2)).Nodup:=(List.nodup_cons.mp (List.nodup_cons.mp S.sep).2).2
theorem Shp.set(S:Shp σ i k kv es){σ':Sto}{w:Str}{a:Addr}{l:List (Int×List z0f)}(ha:(w,a)∈kv)(ok:EsOk w l)(U:UpdS σ σ' a (dI (esV l))):Shp σ' i k kv (z2K es w l):=by
 obtain⟨n1,n2,n3⟩:=S.ne ha
 obtain⟨dx,hin⟩:=S.inst
 refine⟨⟨dx,U.at hin n1⟩,U.at S.kept n2,S.kvn,S.kl,λp hp=> ?_,λv hv=> ?_,z71 (P:=λ_ l=>E3 l) S.eok ok.e3,S.sep⟩
 ·by_cases e:p.1=w
  ·have:p=(w,a):=z15 S.kvn hp ha e
   subst this;rw[z0G];exact U.here
  ·rw[z05 e]
   exact U.at (S.inn p hp) λe2=>e (by rw[z15 S.vv hp ha e2])
 ·rw[z05 (λe=>hv (by rw[e];exact List.mem_map.mpr ⟨_,ha,rfl⟩))];exact S.out v hv
theorem Shp.add(S:Shp σ i k kv es){σ':Sto}{w:Str}{b:Addr}{l:List (Int×List z0f)}(hno:w∉kv.map (·.1))(hl:kv.length<12)(ok:EsOk w l)(hf:Fresh σ b)(h1:At σ' b (dI (esV l)))(h2:At σ' k (dS (kvV (kv++[(w,b)]))))(h3:∀p∈σ,p.1≠k->p∈σ'):
  Shp σ' i k (kv++[(w,b)]) (z2K es w l):=by
 have mv:∀c x,c≠k->At σ c x->At σ' c x:=λc x h ⟨o,ho⟩=>⟨o,h3 _ ho h⟩
 have mem:∀p∈kv++[(w,b)],p∈kv∨p=(w,b):=λp hp=>by simpa using hp
 obtain⟨dx,hin⟩:=S.inst
 have s1:=List.nodup_cons.mp S.sep
 have s2:=List.nodup_cons.mp s1.2
 refine⟨⟨dx,mv _ _ (λe=>s1.1 (e▸ .head _)) hin⟩,h2,by rw[List.map_append];exact z0Y S.kvn hno,by simp;lia,λp hp=> ?_,λv hv=> ?_,z71 (P:=λ_ l=>E3 l) S.eok ok.e3,?_⟩
 ·rcases mem p hp with h|rfl
  ·rw[z05 (λe=>hno (by rw[<-e];exact List.mem_map.mpr ⟨p,h,rfl⟩))]
   exact mv _ _ (λe=>s2.1 (e▸List.mem_map.mpr ⟨p,h,rfl⟩)) (S.inn p h)
  ·rw[z0G];exact h1
 ·rw[List.map_append,List.mem_append,not_or] at hv
  rw[z05 (λe=>hv.2 (by rw[e];exact .head _))];exact S.out v hv.1
 ·rw[List.map_append]
  refine z0Y (l:=i::k::kv.map (·.2)) S.sep λh=> ?_
  rcases List.mem_cons.mp h with h|h
  ·exact hf.ne hin h.symm
  ·rcases List.mem_cons.mp h with h|h
   ·exact hf.ne S.kept h.symm
   ·obtain⟨p,hp,e⟩:=List.mem_map.mp h
    exact hf.ne (S.inn p hp) e
noncomputable def z4J(r1:Stmt):TC:=⟨[.rawS r1,.loc 0,.forDS 2 [.loc 0,.loc 2,.sub,.forDI 3 [.loc 1,.mI 355 "put",.loc 2,.loc 3,.loc 0,.loc 2,.sub,.loc 3,.sub,.call (.type "list") 1,.meth (.ref 324) 3,.pop]],.loc 1,.ret],[.inl r1],[([0],none)]⟩
--z4J 1
inductive ShI(ro x k:Addr)(rv:List (Str×Addr))(es:Str->List (Int×List z0f))(σ:Sto)(i:Nat):Loc->Sto->Prop
 |mk {kv:List (Str×Addr)} {es':Str->List (Int×List z0f)} {u v:Option V} {τ:Sto}:Shp τ x k kv es'->kv.map (·.1)=(rv.map (·.1)).take i->(∀w∈(rv.map (·.1)).take i,es' w=es w)->(∀p∈kv,Fresh σ p.2)->(∀p∈σ,p∈τ)->ShI ro x k rv es σ i [some (.ref ro),some (.ref x),u,v] τ
inductive SjI(ro x k:Addr)(kv:List (Str×Addr))(es':Str->List (Int×List z0f))(w:Str)(l:List (Int×List z0f))(σ:Sto)(j:Nat):Loc->Sto->Prop
 |mk {kv':List (Str×Addr)} {v:Option V} {τ:Sto}:Shp τ x k kv' (z2K es' w (l.take j))->(j=0/\kv'=kv∨0<j/\kv'.map (·.1)=kv.map (·.1)++[w])->(∀p∈kv',Fresh σ p.2)->(∀p∈σ,p∈τ)->SjI ro x k kv es' w l σ j [some (.ref ro),some (.ref x),some (.str w),v] τ
theorem EsOk.tk{w:Str}{l:List (Int×List z0f)}(h:EsOk w l)(j:Nat):EsOk w (l.take j):=
 ⟨((List.take_sublist _ _).map _).nodup h.nd,Nat.le_trans (List.take_sublist _ _).length_le h.len,λp hp=>h.mb p (List.mem_of_mem_take hp),λp hp=>h.nok p (List.mem_of_mem_take hp)⟩
theorem z2i{α:Type}{l:List α}{j:Nat}{x:α}(h:l[j]? =some x):l.take (j+1)=l.take j++[x]:=by rw[List.take_add_one,h];rfl
theorem z9q{α:Type}{l:List α}(hn:l.Nodup){j:Nat}{x:α}(h:l[j]? =some x):x∉l.take j:=λhm=>by
 have:=(List.take_sublist (j+1) l).nodup hn
 rw[z2i h] at this
 exact(List.nodup_append.mp this).2.2 _ hm _ (.head _) rfl
theorem z8r(H:G1 C)(S:Rw σ ro rv es)(hne:∀p∈rv,es p.1≠[])
  (q:∀x k kv σ',Shp σ' x k kv es->kv.map (·.1)=rv.map (·.1)->Fresh σ x->Fresh σ k->(∀p∈kv,Fresh σ p.2)->(∀p∈σ,p∈σ')->Q (.ref x) σ'):CW C (d+5) (.ref 402) [.ref ro] σ Q:=by
 refine z08 (G1.kin (by assumption)) ["_law_rows_here","_law_shop_here","_law_ware","_law_make"] [("Shop",.ref 355),("list",.type "list")] (by kernel_rfl) (vs1 λ_=>by kernel_rfl) rfl (z0a (y3Z (by assumption)) (z0a (z03 (by assumption)) GL_nil)) ?_
 intro env hsc
 clear hsc
 have hrn:((kvV rv).map (·.1)).Nodup:=by rw[z0z];exact S.rwn
 obtain⟨oro,hrm⟩:=S.rows
 refine z0n (z0x H) (z0A H) (z4J _) (by exact rfl) (by kernel_rfl) ?_
 intro F m0
 refine Leaf.mk ?_
 show AS C env ["_law_rows_here","_law_shop_here","_law_ware","_law_make"] [("Shop",.ref 355),("list",.type "list")] true _ (exec _ env) [some (.ref ro),none,none,none] _ _
 refine z1C (y0o (y1N H) ?_)
 with_reducible refine z0s ?_
 refine⟨rfl,y4w H λx k dx σ1 f1 f2 f3 f4 f5 f6=> ?_⟩
 with_reducible refine z2A ?_
 refine Leaf.mk (.mk ro oro (kvV rv) (ShI ro x k rv es σ) rfl H.ns (f6 _ hrm) hrn (.mk (kv:=[]) (es':=λ_=>[]) ⟨⟨dx,f4⟩,f5,List.nodup_nil,by decide,(λ_ h=>by cases h),(λ_ _=>rfl),(λ_=>(EsOk.nil (w:="")).e3),List.nodup_cons.mpr ⟨λh=>f3 (List.mem_singleton.mp h),List.nodup_cons.mpr ⟨List.not_mem_nil,List.nodup_nil⟩⟩⟩ rfl (λ_ h=>by cases h) (λ_ h=>by cases h) f6) (λi p hX m τ hI QB hQB _=> ?_) λm τ hI=> ?_)
 ·clear q
  refine hI.casesOn @λkv es' u v τ T hkeys hes hfp hkp=> ?_
  rw[List.getElem?_map] at hX
  apply z0X hX;rintro ⟨w,b⟩ hwb
  have hb:=List.mem_of_getElem? hwb
  have hwe:(rv.map (·.1))[i]? =some w:=z1H hwb
  have htk:=z2i hwe
  have hnew:w∉kv.map (·.1):=by rw[hkeys];exact z9q S.rwn hwe
  have hil:=(List.getElem?_eq_some_iff.mp hwb).1
  have hkl:kv.length<12:=by
   have:=congrArg List.length hkeys
   rw[List.length_map,List.length_take,List.length_map] at this
   have:=S.rl
   lia
  have hok:=S.eok w
  have hw:=S.wok _ hb
  have hen:((esV (es w)).map (·.1)).Nodup:=by rw[z0E];exact hok.nd
  obtain⟨ob,hbm⟩:=S.rin _ hb
  have hrb:vAt (kvV rv) w=some (.ref b):=z0v hrn (List.mem_map.mpr ⟨_,hb,rfl⟩)
  have hne1:=hne _ hb
  clear hX hwb hwe hil
  refine Leaf.mk (z13 ⟨oro,hkp _ hrm⟩ hrn hrb ?_)
  refine Leaf.mk (.mk b ob (esV (es w)) (SjI ro x k kv es' w (es w) σ) rfl H.ns (hkp _ hbm) hen (.mk (kv':=kv) (by rw[List.take_zero,z9b (T.out w hnew)];exact T) (.inl ⟨rfl,rfl⟩) hfp hkp) (λj p hX m τ2 hI QB hQB' _=> ?_) λm τ2 hI=> ?_)
  ·clear hQB hes hkeys hne1 T hfp hkp htk
   refine hI.casesOn @λkv' v' τ2 T2 hk2 hfp2 hkp2=> ?_
   rw[List.getElem?_map] at hX
   apply z0X hX;rintro ⟨mk,ns⟩ hme
   have hmem:=List.mem_of_getElem? hme
   have hjl:=(List.getElem?_eq_some_iff.mp hme).1
   have hns:=hok.nok _ hmem
   have hmb:=hok.mb _ hmem
   have hv:vAt (esV (es w)) mk=some (.lst (ns.map z0m)):=z0v hen (List.mem_map.mpr ⟨_,hmem,rfl⟩)
   have hjt:=z2i hme
   have hjnew:mk∉(z2K es' w ((es w).take j) w).map (·.1):=by rw[z0G,List.map_take];exact z9q hok.nd (z1H hme)
   have hj8:(z2K es' w ((es w).take j) w).length≠8:=by rw[z0G,List.length_take];have:=hok.len;lia
   have hokj:=hok.tk (j+1)
   obtain⟨dx',hin⟩:=T2.inst
   have hkl2:w∉kv'.map (·.1)->j=0/\kv'=kv:=λhno=>by
    rcases hk2 with h|⟨_,e⟩
    ·exact h
    ·rw[e] at hno;exact absurd (List.mem_append_right _ (.head _)) hno
   clear hX hme hjl hmem
   refine Leaf.mk (z0S hin (by decide+kernel) ?_)
   refine Leaf.mk (z13 ⟨oro,hkp2 _ hrm⟩ hrn hrb ?_)
   refine Leaf.mk (y22 ⟨ob,hkp2 _ hbm⟩ hen hv ?_)
   refine Leaf.mk (z5c (.lst _) (z0M hns.len (by decide)) (.inr λnl onl hfn=> ?_))
   have T3:Shp ((nl,onl,.list (ns.map z0m))::τ2) x k kv' (z2K es' w ((es w).take j)):=T2.frame λa _ y hy=>hy.cons _
   clear T2 hin
   refine Leaf.mk (fnc (y3D H T3 hw hmb.1 hmb.2 At.hd hns hjnew hj8 (λhno e=>Nat.ne_of_lt hkl (by rw[<-(hkl2 hno).2];exact e)) (λa ha σ2 U=> ?_) λhno b2 σ2 hf h1 h2 h3=> ?_))
   ·rw[z0G,<-hjt] at U
    have T4:=T3.set ha hokj U
    rw[z4A] at T4
    refine hQB' _ _ (U.keep _ (.tail _ (hkp2 _ hbm)) λe=>hfp2 _ ha _ hbm e) (.mk T4 (.inr ⟨Nat.succ_pos _,?_⟩) hfp2 λp hp=>U.keep p (.tail _ (hkp2 p hp)) λe=>hfp2 _ ha p hp e)
    rcases hk2 with⟨_,rfl⟩|⟨_,e⟩
    ·exact absurd (List.mem_map.mpr ⟨_,ha,rfl⟩) hnew
    ·exact e
   ·obtain⟨rfl,rfl⟩:=hkl2 hno
    have T4:=T3.add hno hkl hokj hf (by rw[hjt];exact h1) h2 h3
    rw[z4A] at T4
    have kp:∀p∈σ,p∈σ2:=λp hp=>h3 p (.tail _ (hkp2 p hp)) (f2 p hp)
    refine hQB' _ _ (kp _ hbm) (.mk T4 (.inr ⟨Nat.succ_pos _,List.map_append⟩) (λp hp=>(List.mem_append.mp hp).elim (hfp2 p) λh=>List.mem_singleton.mp h▸λp' hp'=>hf p' (.tail _ (hkp2 p' hp'))) kp)
  ·refine hI.casesOn @λkv' v' τ2 T2 hk2 hfp2 hkp2=> ?_
   have hz:(esV (es w)).length=(es w).length:=List.length_map _
   rw[hz,List.take_length] at T2
   have hk3:kv'.map (·.1)=kv.map (·.1)++[w]:=by
    rcases hk2 with⟨e,_⟩|⟨_,e⟩
    ·exact absurd (List.eq_nil_of_length_eq_zero (hz▸e)) hne1
    ·exact e
   refine hQB _ _ (hkp2 _ hrm) (.mk T2 (by rw[hk3,htk,hkeys]) (λv hv=> ?_) hfp2 hkp2)
   rw[htk] at hv
   by_cases e:v=w
   ·rw[e,z0G]
   ·rw[z05 e]
    exact(List.mem_append.mp hv).elim (hes v) λh=>absurd (List.mem_singleton.mp h) e
 ·refine hI.casesOn @λkv es' u v τ T hkeys hes hfp hkp=> ?_
  rw[List.length_map,<-List.length_map (f:=(·.1)),List.take_length] at hkeys hes
  have e:es'=es:=funext λv=>by
   by_cases h:v∈rv.map (·.1)
   ·exact hes v h
   ·rw[S.out v h,T.out v (by rw[hkeys];exact h)]
  subst e
  exact q x k kv τ T hkeys f1 f2 hfp hkp
end
end
section
section
variable {C:Cx} [HM C] [NF C] {d:Nat} {σ:Sto} {Q:V->Sto->Prop} {i k ro:Addr} {kv rv:List (Str×Addr)} {es:Str->List (Int×List z0f)}
noncomputable abbrev pkV(pk:List (Str×Int)):List (Str×V):=pk.map λp=>(p.1,V.int p.2)
theorem z0B(pk:List (Str×Int)):(pkV pk).map (·.1)=pk.map (·.1):=by simp[List.map_map,Function.comp_def]
structure PkB(pk:List (Str×Int)):Prop where
 nd:(pk.map (·.1)).Nodup
 len:pk.length<=12
 ok:∀p∈pk,Ware p.1/\1<=p.2/\p.2<=999
noncomputable def PkIn(es:Str->List (Int×List z0f))(pk:List (Str×Int)):Prop:=∀p∈pk,∃ns,(p.2,ns)∈es p.1
noncomputable def nx(es:Str->List (Int×List z0f))(pk:List (Str×Int))(w:Str):List Str:=
 match pk.find? (λp=>decide (p.1=w)) with
 |none=>[]
 |some p=>match(es w).find? (λe=>decide (e.1=p.2)) with
  |none=>[]
  |some e=>e.2.map (·.1)
theorem z1T{K B:Type}[DecidableEq K]{l:List (K×B)}(hn:(l.map (·.1)).Nodup){k:K}{b:B}(h:(k,b)∈l):l.find? (λp=>decide (p.1=k))=some (k,b):=by
 cases e:l.find? (λp=>decide (p.1=k)) with
 |none=>exact absurd (List.find?_eq_none.mp e _ h) (by simp)
 |some p=>
  have h1:=List.mem_of_find?_eq_some e
  have h2:=List.find?_some e
  rw[z15 hn h1 h (by simpa using h2)]
theorem z9l{K B:Type}[DecidableEq K]{l:List (K×B)}{k:K}(h:k∉l.map (·.1)):l.find? (λp=>decide (p.1=k))=none:=
 List.find?_eq_none.mpr λp hp=>by
  have:p.1≠k:=λe=>h (e▸List.mem_map.mpr ⟨p,hp,rfl⟩)
  simpa using this
theorem y3z{pk:List (Str×Int)}(pb:PkB pk)(pi:PkIn es pk)(w:Str)(en:((es w).map (·.1)).Nodup):
  (w∉pk.map (·.1)/\vAt (pkV pk) w=none/\nx es pk w=[])∨∃mk ns,(w,mk)∈pk/\vAt (pkV pk) w=some (.int mk)/\(mk,ns)∈es w/\nx es pk w=ns.map (·.1):=by
 by_cases h:w∈pk.map (·.1)
 ·obtain⟨⟨w,mk⟩,hp,rfl⟩:=List.mem_map.mp h
  obtain⟨ns,hns⟩:=pi _ hp
  refine .inr ⟨mk,ns,hp,z0v (by rw[z0B];exact pb.nd) (List.mem_map.mpr ⟨_,hp,rfl⟩),hns,?_⟩
  unfold nx
  rw[z1T pb.nd hp]
  show(match(es w).find? (λe:Int×List z0f=>decide (e.1=mk)) with|none=>[]|some e=>e.2.map (λn:z0f=>n.1))=_
  rw[z1T en hns]
 ·refine .inl ⟨h,z1i (by rw[z0B];exact h),?_⟩
  unfold nx
  rw[z9l h]
set_option tactic.hygienic true in
theorem y4j{pk:List (Str×Int)}(h:∀w,∀p∈es w,p.2.length<=6)(w:Str):(nx es pk w).length<=6:=by
 unfold nx
 split
 ·exact Nat.zero_le _
 ·split
  ·exact Nat.zero_le _
  ·rename_i e he
   rw[List.length_map];exact h w _ (List.mem_of_find?_eq_some he)
theorem y5m{b:Bool}(h:(!b)=true):¬b=true:=by cases b<;>simp at h⊢
theorem y4X{b:Bool}(h:(!b)=false):b=true:=by cases b<;>simp at h⊢
noncomputable def t_agenda_of_1:TC:=⟨[.cut [.loc 3,.loc 5,.sub,.loc 2,.tcmpc .In,.ife [.loc 0,.mI 355 "needs",.loc 3,.loc 5,.sub,.loc 2,.loc 3,.loc 5,.sub,.sub,.meth (.ref 345) 2,.forL 4 [.loc 4,.subT 0,.loc 3,.tcmpc .NotIn,.ife [.loc 3,.mty "list",.loc 4,.subT 0,.meth (.bi "list.append") 1,.pop] []]] []],.loc 5,.psh (.int 1),.binc .Add,.asg 5],[],[]⟩
--t_agenda_of_1 0
noncomputable def z4G(r1:Stmt):TC:=⟨[.asgL 3,.loc 1,.forL 4 [.loc 4,.subT 0,.loc 3,.tcmpc .NotIn,.ife [.loc 3,.mty "list",.loc 4,.subT 0,.meth (.bi "list.append") 1,.pop] []],.psh (.int 0),.asg 5,.rawS r1,.loc 3,.ret],[.inl r1],[([3],none)]⟩
--z4G 1
theorem z5B{f:List Str}{l:List Str}{j:Nat}{y:Str}(h:l[j]? =some y):z07 f (l.take (j+1))=z07 (z07 f (l.take j)) [y]:=by rw[z2i h,z77];rfl
noncomputable abbrev agC:List Ins:=[.loc 4,.subT 0,.loc 3,.tcmpc .NotIn,.ife [.loc 3,.mty "list",.loc 4,.subT 0,.meth (.bi "list.append") 1,.pop] []]
theorem z9N{F:Fx}{n:Nat}{QB:Fl->Loc->Sto->Prop}{a0 a1 a2:V}{v5:Option V}{a:Addr}{o:Obj}{f:List Str}{nd:z0f}(hl:f.length<=1000)(h:∀o',QB .next [some a0,some a1,some a2,some (.ref a),some (z0m nd),v5] ((a,o',.list ((z07 f [nd.1]).map V.str))::σ)):W F (n+50) QB agC [] [some a0,some a1,some a2,some (.ref a),some (z0m nd),v5] [] ((a,o,.list (f.map V.str))::σ):=by
 refine Leaf.mk (z3Y (.refL (.head _)) (z0h ?_))
 have e:z07 f [nd.1]=if f.any (·==nd.1) then f else f++[nd.1]:=rfl
 refine z0T (λhb=> ?_) λhb=> ?_
 ·rw[if_neg (y5m hb)] at e
  rw[e,List.map_append] at h
  refine Leaf.mk ⟨tyL At.hd,?_⟩
  exact⟨z3E (z0M hl (by decide)) h⟩
 ·rw[if_pos (y4X hb)] at e
  rw[e] at h
  exact h o
inductive AgI(a0 a1 a2:V)(a:Addr)(f l:List Str)(v5:Option V)(σ:Sto)(j:Nat):Loc->Sto->Prop
 |mk {o:Obj} {v:Option V}:AgI a0 a1 a2 a f l v5 σ j [some a0,some a1,some a2,some (.ref a),v,v5] ((a,o,.list ((z07 f (l.take j)).map V.str))::σ)
inductive AwI(a0 a1 a2:V)(a:Addr)(nx:Str->List Str)(R:List Str)(σ:Sto)(n:Nat):Loc->Sto->Prop
 |mk {o:Obj} {v:Option V} {f w:List Str}:Bf nx n f w R->(f++w).Nodup->f.length+n<=100->AwI a0 a1 a2 a nx R σ n [some a0,some a1,some a2,some (.ref a),v,some (.int (f.length:Int))] ((a,o,.list ((f++w).map V.str))::σ)
theorem z8e(H:G1 C)(S:Shp σ i k kv es){x:V}{wi:List z0f}{Px:Sto->Prop}(hx:Has σ x (.list (wi.map z0m)) Px)(ok:WishOk wi){pa:Addr}{pk:List (Str×Int)}(hp:At σ pa (dS (pkV pk)))(pb:PkB pk)(pi:PkIn es pk)
  {N:Nat} {R:List Str} (hN:N<=100) (hB:Bf (nx es pk) N [] (wi.map (·.1)) R) (q:∀a o,Fresh σ a->Q (.ref a) ((a,o,.list (R.map V.str))::σ)):CW C (d+4) (.ref 173) [.ref i,x,.ref pa] σ Q:=by
 refine z08 (G1.kin (by assumption)) ["shop","wish","pick","found","need","at"] [("len",.bi "len")] (by kernel_rfl) (vs3 λ_ _ _=>by kernel_rfl) rfl (z0a (z00 (by assumption)) GL_nil) ?_
 intro env hsc
 clear hsc
 have hn:((pkV pk).map (·.1)).Nodup:=by rw[z0B];exact pb.nd
 obtain⟨dx,hin⟩:=S.inst
 refine z0n (z0x H) (z0A H) (z4G _) (by exact rfl) (by kernel_rfl) ?_
 intro F m0 a o hf
 refine Leaf.mk (.mk _ _ (AgI (.ref i) x (.ref pa) a [] (wi.map (·.1)) none σ) (hx.mono λp h=> .tail _ h) .mk (λj X hX m τ hI QB hQB _=> ?_) λm τ hI=> ?_)
 ·rw[List.getElem?_map] at hX
  apply z0X hX;intro n hne
  refine hI.casesOn @λo v=> ?_
  have hl:=addNew_len ((wi.map (·.1)).take j) []
  exact z9N (Nat.le_trans hl (by rw[List.length_take,List.length_map,List.length_nil];have:=ok.len;lia)) λo'=>hQB _ _ (hx.mono λp h=> .tail _ h).p (by rw[<-z5B (z1H hne)];exact .mk)
 refine hI.casesOn @λo v=> ?_
 rw[List.length_map,<-List.length_map (f:=(·.1)),List.take_length]
 obtain⟨n0,v0,hn0,hB0,he0⟩:=Bf.news (w:=[]) (ys:=wi.map (·.1)) (f:=[]) hB
 rw[List.nil_append,List.nil_append] at he0
 rw[he0]
 have hnd0:v0.Nodup:=by rw[<-he0];exact addNew_nodup List.nodup_nil
 clear he0 hx ok hB
 refine Leaf.mk ?_
 show AS C env ["shop","wish","pick","found","need","at"] _ true _ (exec _ env) [some (.ref i),some x,some (.ref pa),some (.ref a),v,some (.int 0)] _ _
 refine z8i (AwI (.ref i) x (.ref pa) a (nx es pk) R σ) (λn m τ hI QB hQB=> ?_) n0 (.mk (f:=[]) (w:=v0) hB0 hnd0 (by rw[List.length_nil,Nat.zero_add];exact Nat.le_trans hn0 hN))
 refine hI.casesOn @λo v f w hB hnd hfl=> ?_
 have hwl:=hB.len
 have hzz:((f++w).map V.str).length=f.length+w.length:=by rw[List.length_map,List.length_append]
 repeat' with_reducible first|refine z0d ?_|refine z0s ?_|refine z0i ?_|refine z0b ?_|refine z0c ?_|refine z0L ?_|refine⟨z0q,?_⟩|fail
 refine z1o (.refL (.head _)) hzz (z0y (by rw[hzz];lia)) ?_
 refine y40 (z0h ⟨λhb=> ?_,λhb=> ?_⟩)
 ·cases w with
  |nil=>exact absurd (of_decide_eq_true hb) (Int.lt_irrefl _)
  |cons y w=>
   clear hb q
   have hyf:y∉f:=λh=>(List.nodup_append.mp hnd).2.2 _ h _ (.head _) rfl
   obtain⟨n,rfl,hB2⟩:∃n',n=n'+1/\Bf (nx es pk) n' (f++[y]) (w++nx es pk y) R:=by
    cases hB with
    |skip h _=>exact absurd h hyf
    |take _ h=>exact⟨_,rfl,h⟩
   obtain⟨n',w',hn',hB',he'⟩:=Bf.news hB2
   have hnd':(f++[y]++w').Nodup:=by
    rw[<-he'];exact addNew_nodup (by rw[List.append_assoc];exact hnd)
   have hf99:f.length<1000:=by lia
   have hat:((f++y::w).map V.str)[f.length]? =some (.str y):=z1H (by rw[List.getElem?_append_right (Nat.le_refl _),Nat.sub_self];rfl)
   have hpc:∀o' l,At ((a,o',AO.list l)::σ) pa (dS (pkV pk)):=λo' l=>hp.cons _
   have hend:∀o v,QB .next [some (.ref i),some x,some (.ref pa),some (.ref a),v,some (.int ((f++[y]).length:Int))] ((a,o,.list ((f++[y]++w').map V.str))::σ):=λo v=>hQB n' _ _ (Nat.lt_succ_of_le hn') (.mk hB' hnd' (by rw[List.length_append];show f.length+1+n'<=100;lia))
   rw[List.length_append] at hend
   have hfa:f.length+(y::w).length<=200:=by have:=hB2.len;rw[List.length_append] at this;rw[List.length_cons];lia
   clear hQB hB hnd hB2 hB' hnd' hwl hn' hB0 hnd0 hn0 hN hzz
   refine z0n (z0x H) (z0A H) t_agenda_of_1 rfl (by kernel_rfl) ?_
   intro F m0
   refine y1W (α:=Obj×Option V) (λ_=>True) (λp=>[some (.ref i),some x,some (.ref pa),some (.ref a),p.2,some (.int (f.length:Int))]) (λp=>(a,p.1,.list ((f++[y]++w').map V.str))::σ) (λK hK _=> ?_) λp _=>hend p.1 p.2
   clear hend
   refine Leaf.mk (z01 (.refL (.head _)) hf99 hat ?_)
   rcases y3z pb pi y (S.eok y).1 with⟨_,e1,e2⟩|⟨mk,ns,hpm,e1,hns,e2⟩
   ·rw[e2] at he'
    have he':f++[y]++w=f++[y]++w':=he'
    rw[List.append_assoc] at he'
    rw[show f++y::w=f++[y]++w' from he']
    refine Leaf.mk (z2O H.ns (hpc _ _) hn (z0h ?_))
    rw[e1]
    exact hK (o,v) trivial
   ·obtain⟨hw,h1,h2⟩:=pb.ok _ hpm
    have hnl:=(S.eok y).2.2 _ hns
    refine Leaf.mk (z2O H.ns (hpc _ _) hn (z0h ?_))
    rw[e1]
    refine Leaf.mk (z0S (hin.cons _) (by decide+kernel) ?_)
    refine Leaf.mk (z01 (.refL (.head _)) hf99 hat ?_)
    refine Leaf.mk (z01 (.refL (.head _)) hf99 hat ?_)
    refine Leaf.mk (z13 (hpc _ _) hn e1 ?_)
    refine Leaf.mk (fnc (z9J H (S.frame λa _ x h=>h.cons _) hw h1 h2 hns (.inl ?_)))
    refine Leaf.mk (.mk _ _ (AgI (.ref i) x (.ref pa) a (f++y::w) (ns.map (·.1)) (some (.int (f.length:Int))) σ) (.lst _) .mk (λj X hX m τ hI QB hQB _=> ?_) λm τ hI=> ?_)
    ·rw[List.getElem?_map] at hX
     apply z0X hX;intro nd hne
     refine hI.casesOn @λo v=> ?_
     have hl:=addNew_len ((ns.map (·.1)).take j) (f++y::w)
     exact z9N (Nat.le_trans hl (by rw[List.length_take,List.length_map,List.length_append];simp only at hnl;lia)) λo'=>hQB _ _ trivial (by rw[<-z5B (z1H hne)];exact .mk)
    ·refine hI.casesOn @λo v=> ?_
     rw[show(ns.map z0m).length=(ns.map (·.1)).length by rw[List.length_map,List.length_map],List.take_length,<-e2,show f++y::w=f++[y]++w from(List.append_assoc f [y] w).symm,he']
     exact hK (o,v) trivial
 ·cases w with
  |nil=>
   have hfR:f=R:=by cases hB;rfl
   subst hfR
   rw[List.append_nil]
   exact q _ _ hf
  |cons y w=>exact absurd (Int.ofNat_lt.mpr (Nat.lt_add_of_pos_right (Nat.succ_pos w.length))) (of_decide_eq_false hb)
end
end
section
section
variable {C:Cx} [HM C] [NF C] {d:Nat} {σ:Sto} {Q:V->Sto->Prop} {i k ro:Addr} {kv rv:List (Str×Addr)} {es:Str->List (Int×List z0f)}
noncomputable def z2e(es:Str->List (Int×List z0f))(p:Str×Int):List z0f:=match(es p.1).find? (λe=>decide (e.1=p.2)) with
 |none=>[]
 |some e=>e.2
theorem z40{w:Str}{mk:Int}{ns:List z0f}(en:((es w).map (·.1)).Nodup)(h:(mk,ns)∈es w):z2e es (w,mk)=ns:=by
 unfold z2e
 show(match(es w).find? (λe:Int×List z0f=>decide (e.1=mk)) with|none=>[]|some e=>e.2)=_
 rw[z1T en h]
theorem y4b{pk:List (Str×Int)}{wi:List z0f}(h4:pk.length<=5)(h6:∀w,∀p∈es w,p.2.length<=6)(h8:wi.length<=8):∃N R,N<=60/\Bf (nx es pk) N [] (wi.map (·.1)) R:=by
 obtain⟨N,R,h1,h2⟩:=y2e (nx:=nx es pk) (U:=pk.map (·.1)) (λx hx=>by unfold nx;rw[z9l hx]) 60 [] (wi.map (·.1)) (by
  have:=y2q (U:=pk.map (·.1)) (f:=[]) (y4j (pk:=pk) h6)
  rw[List.length_map] at this⊢
  lia)
 exact⟨N,R,h1,h2⟩
set_option tactic.hygienic true in
theorem z9s{pk:List (Str×Int)}(h:∀w,∀p∈es w,∀n∈p.2,NeedOk n)(w:Str):∀y∈nx es pk w,Ware y:=by
 unfold nx
 intro y hy
 split at hy
 ·cases hy
 ·split at hy
  ·cases hy
  ·rename_i e he
   apply z0o hy;intro n hn
   exact(h w _ (List.mem_of_find?_eq_some he) n hn).w
theorem z4y{α:Type}[DecidableEq α]:∀{l r:List α},l.Nodup->(∀x∈l,x∈r)->l.length<=r.length
 |[],r,_,_=>Nat.zero_le _
 |x::l,r,hn,hs=>by
  obtain⟨h1,h2⟩:=List.nodup_cons.mp hn
  have hx:=hs x (.head _)
  have:=z4y (r:=r.erase x) h2 λy hy=>(List.mem_erase_of_ne λe=>h1 (by rw[<-e];exact hy)).mpr (hs y (.tail _ hy))
  rw[List.length_erase_of_mem hx] at this
  have h3:0<r.length:=List.length_pos_of_mem hx
  rw[List.length_cons];lia
noncomputable def t_within:TC:=⟨[.loc 1,.loc 0,.cm2 .LtE [.loc 2,.cmpc .LtE],.ret],[],[]⟩
--t_within 0
theorem z8f(H:G1 C){mk lo hi:Int}(q:Q (.bool (decide (lo<=mk)&&decide (mk<=hi))) σ):CW C (d+1) (.ref 156) [.int mk,.int lo,.int hi] σ Q:=by
 refine z08 (G1.kin (by assumption)) ["make","low","high"] [] (by kernel_rfl) (vs3 λ_ _ _=>by kernel_rfl) rfl GL_nil ?_
 intro env hsc
 clear hsc
 refine z0n (z0x H) (z0A H) t_within rfl (by kernel_rfl) ?_
 intro F m0
 exact z0T (λh=>qB q (by rw[h];rfl)) λh=>qB q (by rw[h];rfl)
theorem z11(H:G1 C)(S:Shp σ i k kv es){x:V}{wi:List z0f}{Px:Sto->Prop}(hx:Has σ x (.list (wi.map z0m)) Px)(ok:WishOk wi){pa:Addr}{pk:List (Str×Int)}(hp:At σ pa (dS (pkV pk)))(pb:PkB pk)(pi:PkIn es pk)
  {N:Nat} {R:List Str} (hN:N<=100) (hB:Bf (nx es pk) N [] (wi.map (·.1)) R) (q:Q (.lst (R.map V.str)) σ):CW C (d+4) (.ref 173) [.ref i,x,.ref pa] σ Q:=
 z2v (z8e H S hx ok hp pb pi hN hB λa o hf=>⟨a,o,_,σ,rfl,rfl,q⟩)
theorem Rw.inRv(S:Rw σ ro rv es){w:Str}{e:Int×List z0f}(h:e∈es w):w∈rv.map (·.1):=by
 by_cases hm:w∈rv.map (·.1)
 ·exact hm
 ·rw[S.out w hm] at h;cases h
noncomputable def z5W(pk:List (Str×Int))(w:Str)(mk:Int):List (Str×Int):=if pk.any (λp=>p.1=w) then pk.map (λp=>if p.1=w then(p.1,mk) else p) else pk++[(w,mk)]
theorem y33(pk:List (Str×Int))(w:Str)(mk:Int):z1w (pkV pk) w (.int mk)=pkV (z5W pk w mk):=by
 unfold z1w z5W pkV
 rw[show(pk.map λp=>(p.1,V.int p.2)).any (λkv=>decide (kv.1=w))=pk.any (λp=>decide (p.1=w)) by rw[List.any_map];rfl]
 split
 ·rw[List.map_map,List.map_map]
  refine List.map_congr_left λp _=> ?_
  show(if p.1=w then(p.1,V.int mk) else(p.1,V.int p.2))=((if p.1=w then(p.1,mk) else p).1,V.int (if p.1=w then(p.1,mk) else p).2)
  split<;>rfl
 ·rw[List.map_append];rfl
set_option tactic.hygienic true in
theorem z8x{pk:List (Str×Int)}{w:Str}{mk:Int}{p:Str×Int}(h:p∈z5W pk w mk):p=(w,mk)∨p∈pk:=by
 unfold z5W at h
 split at h
 ·apply z0o h;intro p' hp
  split
  ·rename_i e;exact .inl (by rw[e])
  ·exact .inr hp
 ·rcases List.mem_append.mp h with h|h
  ·exact .inr h
  ·exact .inl (List.mem_singleton.mp h)
set_option tactic.hygienic true in
theorem z9G{pk:List (Str×Int)}{w:Str}{mk:Int}(hn:(pk.map (·.1)).Nodup):((z5W pk w mk).map (·.1)).Nodup:=by
 unfold z5W
 split
 ·rw[List.map_map,show((λp:Str×Int=>p.1)∘λp=>if p.1=w then(p.1,mk) else p)=λp=>p.1 by funext p;show(if p.1=w then(p.1,mk) else p).1=p.1;split<;>rfl]
  exact hn
 ·rename_i h
  rw[List.map_append]
  refine z0Y hn λhm=>h ?_
  obtain⟨p,hp,e⟩:=List.mem_map.mp hm
  exact List.any_eq_true.mpr ⟨p,hp,decide_eq_true e⟩
theorem y1L(S:Rw σ ro rv es){pk:List (Str×Int)}(hn:(pk.map (·.1)).Nodup)(pi:PkIn es pk):pk.length<=rv.length:=by
 have:=z4y (r:=rv.map (·.1)) hn λw hw=>by
  apply z0o hw;intro p hp
  obtain⟨ns,hns⟩:=pi p hp
  exact S.inRv hns
 rw[List.length_map,List.length_map] at this
 exact this
theorem PkIn.put{pk:List (Str×Int)}(pi:PkIn es pk){w:Str}{mk:Int}{ns:List z0f}(h:(mk,ns)∈es w):PkIn es (z5W pk w mk):=λp hp=>by
 rcases z8x hp with rfl|hp
 ·exact⟨ns,h⟩
 ·exact pi p hp
theorem PkB.sub{pk pk':List (Str×Int)}(pb:PkB pk)(h:pk'.Sublist pk):PkB pk':=⟨(h.map _).nodup pb.nd,Nat.le_trans h.length_le pb.len,λp hp=>pb.ok p (h.subset hp)⟩
theorem z3l(S:Rw σ ro rv es)(h4r:rv.length<=5){wi:List z0f}(ok:WishOk wi){pk:List (Str×Int)}(pb:PkB pk)(pi:PkIn es pk):∃N R,N<=60/\Bf (nx es pk) N [] (wi.map (·.1)) R/\(∀w∈R,Ware w)/\R.length<=N:=by
 obtain⟨N,R,hN,hB⟩:=y4b (es:=es) (pk:=pk) (wi:=wi) (Nat.le_trans (Nat.le_trans (y1L S pb.nd pi) h4r) (by decide)) (λw p hp=>((S.eok w).nok p hp).len) ok.len
 refine⟨N,R,hN,hB,hB.all (z9s λw p hp n hn=>((S.eok w).nok p hp).ok n hn) (λ_ h=>by cases h) λy hy=> ?_,?_⟩
 ·apply z0o hy;intro n hn
  exact(ok.ok n hn).w
 ·have:=hB.rlen
  rw[List.length_nil,Nat.zero_add] at this
  exact this
noncomputable def pI(pk:List (Str×Int))(w:Str):Option Int:=(pk.find? (λp=>decide (p.1=w))).map (·.2)
theorem y4L{pk:List (Str×Int)}(hn:(pk.map (·.1)).Nodup){w:Str}{mk:Int}(h:(w,mk)∈pk):pI pk w=some mk:=by
 unfold pI;rw[z1T hn h];rfl
theorem y1e{ps:List (Str×Int)}{x:Str}(hn:(ps.map (·.1)).Nodup)(h:x∈ps.map (·.1)):∃m,(x,m)∈ps/\pI ps x=some m:=by
 apply z0o h;rintro ⟨x,m⟩ hp
 exact⟨m,hp,y4L hn hp⟩
end
end
section
section
variable {C:Cx} [HM C] [NF C] {d:Nat} {σ:Sto} {Q:V->Sto->Prop} {i k ro:Addr} {kv rv:List (Str×Addr)} {es:Str->List (Int×List z0f)}
theorem Ware.ok{x:Str}(h:Ware x):PyData.strOk x=true:=by
 unfold PyData.strOk
 rw[<-Array.all_toList,List.all_eq_true]
 intro c hc
 have:=h.lt c hc
 simp[z22] at this
 exact decide_eq_true (show c<0x110000 by lia)
theorem z9z{α:Type}(f:α->V)(g:α->PyData)(h:∀a,Dp σ (f a) (g a)):∀l:List α,Dps σ (l.map f) (l.map g)
 |[]=> .nil
 |a::l=> .cons (h a) (z9z f g h l)
theorem z9v{α:Type}(g:α->PyData)(hd:∀a,PyData.depth (g a)<=2):∀l:List α,(∀a∈l,PyData.canLay0 (g a)=true)->PyData.canLayAll0 (l.map g)=true/\PyData.depthAll (l.map g)<=2
 |[],_=>⟨rfl,Nat.zero_le _⟩
 |a::l,hc=>by
  have ih:=z9v g hd l λb hb=>hc b (.tail _ hb)
  exact⟨by simp[PyData.canLayAll0,hc a (.head _),ih.1],by have:=ih.2;have:=hd a;simp only[List.map_cons,PyData.depthAll];lia⟩
structure Dat(xs:List V)(ds:List PyData):Prop where
 dp:∀σ,Dps σ xs ds
 sh:SeqAt.shaped (.list ds)=true
 nil:PyData.eqv (.list ds) (.list [])=xs.isEmpty
theorem z7C{α:Type}(f:α->V)(g:α->PyData)(l:List α)(h1:∀σ a,Dp σ (f a) (g a))(hd:∀a,PyData.depth (g a)<=2)(hc:∀a∈l,PyData.canLay0 (g a)=true):
  Dat (l.map f) (l.map g):=by
 refine⟨λσ=>z9z f g (h1 σ) l,?_,by cases l<;>simp[PyData.eqv,PyData.eqvAll]⟩
 have:=z9v g hd l hc
 have h2:PyData.depth (.list (l.map g))<=64:=by
  have:=this.2
  simp only[PyData.depth];lia
 unfold SeqAt.shaped
 rw[show PyData.canLay0 (.list (l.map g))=true from by simp only[PyData.canLay0];exact this.1,decide_eq_true h2];rfl
theorem z7c{l:List Str}(h:∀w∈l,Ware w):Dat (l.map V.str) (l.map PyData.str):=
 z7C V.str PyData.str l (λ_ a=> .str a) (λa=>by simp[PyData.depth]) λa ha=>by simp only[PyData.canLay0];exact(h a ha).ok
theorem Has.dp{x:V}{xs:List V}{ds:List PyData}{P:Sto->Prop}(h:Has σ x (.list xs) P)(hd:Dps σ xs ds):Dp σ x (.list ds):=by
 cases h with
 |lst=>exact .lst hd
 |refL h=>exact .ref h hd
theorem z9w{x:V}{xs:List V}{ds:List PyData}{P:Sto->Prop}(D:Dat xs ds)(hx:Has σ x (.list xs) P)(q:Q (.bool (!xs.isEmpty)) σ):AC2 C d (compareOp .NotEq) x (.lst []) σ Q:=by
 refine z9t (hx.dp (D.dp σ)) (.lst .nil) D.sh rfl ?_
 rw[D.nil];exact q
theorem eqvS:∀a b:List Str,PyData.eqvAll (a.map PyData.str) (b.map PyData.str)=decide (a=b)
 |[],[]=>by simp[PyData.eqvAll]
 |[],_::_=>by simp[PyData.eqvAll]
 |_::_,[]=>by simp[PyData.eqvAll]
 |x::a,y::b=>by
  simp only[List.map_cons,PyData.eqvAll,PyData.eqv,eqvS a b,List.cons.injEq]
  by_cases h:x=y
  ·simp[h]
  ·simp[h]
theorem y10{a b:List Str}(ha:∀w∈a,Ware w)(hb:∀w∈b,Ware w)(q:Q (.bool (decide (a=b))) σ):AC2 C d (compareOp .Eq) (.lst (a.map V.str)) (.lst (b.map V.str)) σ Q:=by
 refine y1r ((Has.lst _).dp ((z7c ha).dp σ)) ((Has.lst _).dp ((z7c hb).dp σ)) (z7c ha).sh (z7c hb).sh ?_
 rw[show PyData.eqv (.list (a.map PyData.str)) (.list (b.map PyData.str))=_ from eqvS a b];exact q
theorem y4B{a b:List Str}(ha:∀w∈a,Ware w)(hb:∀w∈b,Ware w)(q:Q (.bool (!decide (a=b))) σ):AC2 C d (compareOp .NotEq) (.lst (a.map V.str)) (.lst (b.map V.str)) σ Q:=by
 refine z9t ((Has.lst _).dp ((z7c ha).dp σ)) ((Has.lst _).dp ((z7c hb).dp σ)) (z7c ha).sh (z7c hb).sh ?_
 rw[show PyData.eqv (.list (a.map PyData.str)) (.list (b.map PyData.str))=_ from eqvS a b];exact q
theorem z19{l:List Str}(h:∀w∈l,Ware w):∀w∈z1E l,Ware w:=λw hw=>h w ((z2F l).mem_iff.mp hw)
noncomputable def z1g(pk:List (Str×Int))(n:z0f):Bool:=match vAt (pkV pk) n.1 with
 |some (.int mk)=>decide (n.2.1<=mk)&&decide (mk<=n.2.2)
 |_=>false
theorem z7l{pk:List (Str×Int)}{w:Str}{lo hi mk:Int}(h:vAt (pkV pk) w=some (.int mk)):z1g pk (w,lo,hi)=(decide (lo<=mk)&&decide (mk<=hi)):=by unfold z1g;rw[h]
theorem z9x{pk:List (Str×Int)}{w:Str}{lo hi:Int}(h:vAt (pkV pk) w=none):z1g pk (w,lo,hi)=false:=by unfold z1g;rw[h]
noncomputable def y3X(pk:List (Str×Int)):V->V
 | .tup [.str w,.int lo,.int hi]=> .bool (z1g pk (w,lo,hi))
 |v=>v
noncomputable def z1F(es:Str->List (Int×List z0f))(wi:List z0f)(pk:List (Str×Int))(R:List Str):Bool:=
 decide (z1E (pk.map (·.1))=z1E R)&&(wi.all (z1g pk)&&pk.all λp=>(z2e es p).all (z1g pk))
theorem y1u(pk:List (Str×Int))(l:List z0f):(l.map z0m).map (y3X pk)=(l.map (z1g pk)).map V.bool:=by rw[List.map_map,List.map_map];rfl
theorem y0J(pk:List (Str×Int))(l:List z0f):(l.map (z1g pk)).all id=l.all (z1g pk):=by rw[List.all_map];rfl
noncomputable def t_is_met:TC:=⟨[.loc 0,.subT 0,.loc 1,.cmpc .In,.vop .And [.loc 1,.loc 0,.subT 0,.sub,.loc 0,.subT 1,.loc 0,.subT 2,.call (.ref 156) 3],.ret],[],[]⟩
--t_is_met 0
noncomputable def z4O(r1:Expr)(r2:Expr):TC:=⟨[.loc 2,.call (.bi "sorted") 1,.loc 0,.loc 1,.loc 2,.call (.ref 173) 3,.call (.bi "sorted") 1,.tcmpc .NotEq,.ife [.psh (.bool false),.ret] [],.raw r1,.call (.bi "all") 1,.tvalc,.not,.ife [.psh (.bool false),.ret] [],.loc 2,.forDS 3 [.raw r2,.call (.bi "all") 1,.tvalc,.not,.ife [.psh (.bool false),.ret] []],.psh (.bool true),.ret],[.inr r1,.inr r2],[([1],some [0,1]),([2,0,0],some [0,1])]⟩
--z4O 2
theorem z8n(H:G1 C){pa:Addr}{pk:List (Str×Int)}(hp:At σ pa (dS (pkV pk)))(hn:(pk.map (·.1)).Nodup){n:z0f}(q:Q (.bool (z1g pk n)) σ):CW C (d+2) (.ref 180) [z0m n,.ref pa] σ Q:=by
 obtain⟨w,lo,hi⟩:=n
 refine z08 (G1.kin (by assumption)) ["need","pick"] [("within",.ref 156)] (by kernel_rfl) (vs2 λ_ _=>by kernel_rfl) rfl (z0a (z8t (by assumption)) GL_nil) ?_
 intro env hsc
 clear hsc
 have hpn:((pkV pk).map (·.1)).Nodup:=by rw[z0B];exact hn
 by_cases hm:w∈pk.map (·.1)
 ·obtain⟨⟨w,mk⟩,hpm,rfl⟩:=List.mem_map.mp hm
  have hv:vAt (pkV pk) w=some (.int mk):=z0v hpn (List.mem_map.mpr ⟨_,hpm,rfl⟩)
  rw[z7l hv] at q
  refine z0n (z0x H) (z0A H) t_is_met rfl (by kernel_rfl) ?_
  intro F m0
  refine Leaf.mk (z2O H.ns hp hpn ?_)
  rw[hv]
  refine Leaf.mk (z13 hp hpn hv ?_)
  exact⟨fnc (z8f H q)⟩
 ·have hv:vAt (pkV pk) w=none:=z1i (by rw[z0B];exact hm)
  rw[z9x hv] at q
  refine z0n (z0x H) (z0A H) t_is_met rfl (by kernel_rfl) ?_
  intro F m0
  refine Leaf.mk (z2O H.ns hp hpn ?_)
  rw[hv]
  exact q
inductive MaI(a0 a1 a2:V)(es:Str->List (Int×List z0f))(pk:List (Str×Int))(σ:Sto)(j:Nat):Loc->Sto->Prop
 |mk {v:Option V}:((pk.take j).all λp=>(z2e es p).all (z1g pk))=true->MaI a0 a1 a2 es pk σ j [some a0,some a1,some a2,v] σ
theorem z4F(H:G1 C)(S:Shp σ i k kv es)(hE:∀w,((es w).map (·.1)).Nodup){x:V}{wi:List z0f}{Px:Sto->Prop}(hx:Has σ x (.list (wi.map z0m)) Px)(ok:WishOk wi){pa:Addr}{pk:List (Str×Int)}(hp:At σ pa (dS (pkV pk)))(pb:PkB pk)(pi:PkIn es pk)
  {N:Nat} {R:List Str} (hN:N<=60) (hB:Bf (nx es pk) N [] (wi.map (·.1)) R) (hRw:∀w∈R,Ware w) (hRl:R.length<=N) (q:Q (.bool (z1F es wi pk R)) σ):CW C (d+5) (.ref 185) [.ref i,x,.ref pa] σ Q:=by
 refine z08 (G1.kin (by assumption)) ["shop","wish","pick","ware"] [("sorted",.bi "sorted"),("agenda_of",.ref 173),("all",.bi "all")] (by kernel_rfl) (vs3 λ_ _ _=>by kernel_rfl) rfl (z0a (z2C (by assumption)) (z0a (z3a (by assumption)) (z0a (z6y (by assumption)) GL_nil))) ?_
 intro env hsc
 have hpn:((pkV pk).map (·.1)).Nodup:=by rw[z0B];exact pb.nd
 have hkw:∀w∈pk.map (·.1),Ware w:=λw hw=>by
  apply z0o hw;intro p hp
  exact(pb.ok p hp).1
 have hxl:(wi.map z0m).length<=sizeLine:=z0M ok.len (by decide)
 obtain⟨dx,hin⟩:=S.inst
 obtain⟨o,hm⟩:=id hp
 refine z0n (z0x H) (z0A H) (z4O _ _) (by exact rfl) (by kernel_rfl) ?_
 intro F m0
 refine Leaf.mk (z32 H.ns hp hpn (by rw[List.length_map];exact Nat.lt_of_le_of_lt pb.len (by decide)) (.inl ?_))
 rw[z0B]
 refine Leaf.mk (fnc (z11 H S hx ok hp pb pi (Nat.le_trans hN (by decide)) hB ?_))
 refine Leaf.mk (z5J (.lst _) (Nat.lt_of_le_of_lt hRl (Nat.lt_of_le_of_lt hN (by decide))) (.inl ?_))
 refine Leaf.mk (y4B (z19 hkw) (z19 hRw) (z0h ?_))
 have q:Q (.bool (decide (z1E (pk.map (·.1))=z1E R)&&(wi.all (z1g pk)&&pk.all λp=>(z2e es p).all (z1g pk)))) σ:=q
 refine z0T (λhb=> ?_) λhb=> ?_
 ·exact qB q (by rw[(Bool.not_eq_true' _).mp hb];rfl)
 rw[(Bool.not_eq_false' _).mp hb,Bool.true_and] at q
 refine Leaf.mk ?_
 show AT C env ["shop","wish","pick","ware"] _ true _ (eval _ env) [some (.ref i),some x,some (.ref pa),none] _ _
 refine z0H "need" ["pick"] [("is_met",.ref 180)] (by rw[hsc];kernel_rfl) (z0a (z7H H) GL_nil) (.cons LkC.lk .nil) (z0W ?_)
 with_reducible refine z0d ?_
 refine⟨_,_,hx,hxl,λenv' he=>z0K (f:=y3X pk) (z0r he (by decide+kernel)) hx.p _ _ _ (λX hX K hK=> ?_) ?_⟩
 ·revert hK;apply z0o hX;intro n hn hK
  repeat' with_reducible first|refine z0d ?_|refine z0s ?_|refine z0i ?_|refine z0b ?_|refine z0c ?_|refine⟨z5G (by assumption),?_⟩|fail
  exact fnc (z8n H hp pb.nd hK)
 rw[List.nil_append,y1u]
 refine Leaf.mk (z59 (.lst _) ?_)
 rw[y0J]
 refine z0T (λhb=> ?_) λhb=> ?_
 ·exact qB q (by rw[(Bool.not_eq_true' _).mp hb];rfl)
 rw[(Bool.not_eq_false' _).mp hb,Bool.true_and] at q
 refine Leaf.mk (.mk pa o (pkV pk) (MaI (.ref i) x (.ref pa) es pk σ) rfl H.ns hm hpn (.mk rfl) (λj p hX m τ hI QB hQB hQR=> ?_) λm τ hI=> ?_)
 ·refine hI.casesOn @λv hall=> ?_
  rw[List.getElem?_map] at hX
  apply z0X hX;rintro ⟨w,mk⟩ hpe
  have hpm:=List.mem_of_getElem? hpe
  have hv:vAt (pkV pk) w=some (.int mk):=z0v hpn (List.mem_map.mpr ⟨_,hpm,rfl⟩)
  obtain⟨hw,g1,g2⟩:=pb.ok _ hpm
  obtain⟨ns,hns⟩:=pi _ hpm
  have hnd:=z40 (hE w) hns
  have hnl:=(S.eok w).2.2 _ hns
  have htk:((pk.take (j+1)).all λp=>(z2e es p).all (z1g pk))=ns.all (z1g pk):=by
   rw[z2i hpe,List.all_append,hall,<-hnd]
   exact(Bool.true_and _).trans (Bool.and_true _)
  have hno:ns.all (z1g pk)=false->∀m,QB (.ret (.bool false)) m σ:=λhf m=>hQR _ _ _ (qB q (List.all_eq_false.mpr ⟨(w,mk),hpm,by show¬(z2e es (w,mk)).all (z1g pk)=true;rw[hnd,hf];exact Bool.false_ne_true⟩))
  have hyes:ns.all (z1g pk)=true->QB .next [some (.ref i),some x,some (.ref pa),some (.str w)] σ:=λh=>hQB _ _ hm (.mk (htk.trans h))
  clear hQB hQR hall htk hX hpe hnd q
  refine Leaf.mk ?_
  show AT C env ["shop","wish","pick","ware"] _ true _ (eval _ env) [some (.ref i),some x,some (.ref pa),some (.str w)] _ _
  refine z0H "need" ["pick"] [("is_met",.ref 180)] (by rw[hsc];kernel_rfl) (z0a (z7H H) GL_nil) (.cons LkC.lk .nil) (z0W ?_)
  refine z21 (z4a H) ?_
  with_reducible refine z0d ?_
  refine z0S hin (by decide+kernel) ?_
  repeat' with_reducible first|refine z0d ?_|refine z0C ?_|refine z0b ?_|refine z0c ?_|fail
  refine z13 hp hpn hv ?_
  with_reducible refine z0c ?_
  refine fnc (z9J H S hw g1 g2 hns (.inl ?_))
  refine⟨_,_,.lst _,z0M hnl (by decide),λenv' he=>z0K (f:=y3X pk) (z0r he (by decide+kernel)) trivial _ _ _ (λX hX K hK=> ?_) ?_⟩
  ·revert hK;apply z0o hX;intro n hn hK
   repeat' with_reducible first|refine z0d ?_|refine z0s ?_|refine z0i ?_|refine z0b ?_|refine z0c ?_|refine⟨z5G (by assumption),?_⟩|fail
   exact fnc (z8n H hp pb.nd hK)
  rw[List.nil_append,y1u]
  refine Leaf.mk (z59 (.lst _) ?_)
  rw[y0J]
  refine z0T (λhb=> ?_) λhb=> ?_
  ·exact hno ((Bool.not_eq_true' _).mp hb) _
  ·exact hyes ((Bool.not_eq_false' _).mp hb)
 ·refine hI.casesOn @λv hall=> ?_
  rw[List.length_map,List.take_length] at hall
  exact qB q hall
end
end
section
section
variable {C:Cx} [HM C] [NF C] {d:Nat} {σ:Sto} {Q:V->Sto->Prop} {i k ro:Addr} {kv rv:List (Str×Addr)} {es:Str->List (Int×List z0f)}
noncomputable def z1Y(r1:Expr):TC:=⟨[.loc 4,.mty "list",.psh (.int 0),.meth (.bi "list.pop") 1,.asg 5,.loc 5,.loc 3,.tcmpc .NotIn,.ife [.loc 3,.mty "list",.loc 5,.meth (.bi "list.append") 1,.pop,.loc 5,.loc 2,.tcmpc .In,.ife [.loc 4,.raw r1,.binc .Add,.asg 4,.drp] []] []],[.inr r1],[([1,0,1,0,0],some [1])]⟩
--z1Y 1
noncomputable def z3u(r1:Stmt)(r2:Stmt):TC:=⟨[.asgL 3,.rawS r1,.rawS r2,.loc 3,.ret],[.inl r1,.inl r2],[([1],none),([2],none)]⟩
--z3u 2
inductive LaI(a0 a1 a2:V)(a:Addr)(nx:Str->List Str)(R:List Str)(σ:Sto)(n:Nat):Loc->Sto->Prop
 |mk {oa ob:Obj} {b:Addr} {v:Option V} {f w:List Str}:Bf nx n f w R->(∀y∈f++w,Ware y)->f.length+n<=100->LaI a0 a1 a2 a nx R σ n [some a0,some a1,some a2,some (.ref a),some (.ref b),v] ((b,ob,.list (w.map V.str))::(a,oa,.list (f.map V.str))::σ)
theorem y1A{n:z0f}{K:V->Sto->Prop}(q:K (.str n.1) σ):SubR C d (z0m n) (.int 0) σ K:=z3Q (by with_unfolding_all decide) (by with_unfolding_all decide) (by with_unfolding_all exact rfl) q
theorem y1f(l:List z0f):(l.map z0m).map fstV=(l.map (·.1)).map V.str:=by rw[List.map_map,List.map_map];rfl
theorem z5Z(H:G1 C)(S:Rw σ ro rv es){x:V}{wi:List z0f}{Px:Sto->Prop}(hx:Has σ x (.list (wi.map z0m)) Px)(ok:WishOk wi){pa:Addr}{pk:List (Str×Int)}(hp:At σ pa (dS (pkV pk)))(pb:PkB pk)(pi:PkIn es pk)
  {N:Nat} {R:List Str} (hN:N<=100) (hB:Bf (nx es pk) N [] (wi.map (·.1)) R) (q:Q (.lst (R.map V.str)) σ):CW C (d+1) (.ref 407) [.ref ro,x,.ref pa] σ Q:=by
 refine z2v (z2L ?_)
 refine z08 (G1.kin (by assumption)) ["_law_rows_here","_law_wish_here","_law_pick","_law_found","_law_waiting","_law_ware"] [] (by kernel_rfl) (vs3 λ_ _ _=>by kernel_rfl) rfl GL_nil ?_
 intro env hsc
 have hn:((pkV pk).map (·.1)).Nodup:=by rw[z0B];exact pb.nd
 have hrn:((kvV rv).map (·.1)).Nodup:=by rw[z0z];exact S.rwn
 have hro:=S.rows
 have hnw:=z9s (es:=es) (pk:=pk) λw p hp n hn=>((S.eok w).nok p hp).ok n hn
 refine z0n (z0x H) (z0A H) (z3u _ _) (by exact rfl) (by kernel_rfl) ?_
 intro F m0 a o hf
 refine Leaf.mk ?_
 show AS C env ["_law_rows_here","_law_wish_here","_law_pick","_law_found","_law_waiting","_law_ware"] _ true _ (exec _ env) [some (.ref ro),some x,some (.ref pa),some (.ref a),none,none] _ _
 refine z5w "_law_need" [] [] (z26 (by rw[hsc];kernel_rfl)) (by rw[hsc];kernel_rfl) GL_nil .nil (z0W ?_)
 with_reducible refine z0d ?_
 have hx2:=hx.mono (τ:=(a,o,AO.list [])::σ) λp h=> .tail _ h
 refine⟨_,_,hx2,z0M ok.len (by decide),λenv' he=>z0K (f:=fstV) (z0r he (by decide+kernel)) hx2.p _ _ _ (λX hX K hK=> ?_) ?_⟩
 ·revert hK;apply z0o hX;intro n hn hK
  repeat' with_reducible first|refine z0d ?_|refine z0p ?_|refine z0C ?_|fail
  exact y1A hK
 clear hx2
 rw[List.nil_append,y1f]
 intro b ob
 with_reducible refine z2A ?_
 refine Leaf.mk ?_
 show AS C env ["_law_rows_here","_law_wish_here","_law_pick","_law_found","_law_waiting","_law_ware"] _ true _ (exec _ env) [some (.ref ro),some x,some (.ref pa),some (.ref a),some (.ref b),none] _ _
 refine z8i (LaI (.ref ro) x (.ref pa) a (nx es pk) R σ) (λn m τ hI QB hQB=> ?_) N (.mk (f:=[]) hB (λy hy=> ?_) (by rw[List.length_nil,Nat.zero_add];exact hN))
 rotate_left
 ·apply z0o hy;intro n hn
  exact(ok.ok n hn).w
 clear hB hN hx ok
 refine hI.casesOn @λoa ob b v f w hB hw hfl=> ?_
 have hwl:=hB.len
 repeat' with_reducible first|refine z0d ?_|refine z0L ?_|refine z0P ?_|refine z0c ?_|refine⟨by with_unfolding_all exact Nat.le_of_ble_eq_true rfl,?_⟩|fail
 refine z9w (z7c λy hy=>hw y (List.mem_append_right _ hy)) (.refL (.head _)) (z0h ⟨λhb=> ?_,λhb=> ?_⟩)
 ·cases w with
  |nil=>exact ff hb
  |cons y w=>
   clear hb q
   rw[List.length_cons] at hwl
   have hwy:=hw y (List.mem_append_right _ (.head _))
   have hz:((y::w).map V.str).length<=sizeLine:=z0M (n:=100) (by rw[List.length_cons];lia) (by decide)
   have hzf:(f.map V.str).length<=sizeLine:=z0M (n:=100) (by lia) (by decide)
   by_cases hy:y∈f
   ·have hend:∀ob',QB .next [some (.ref ro),some x,some (.ref pa),some (.ref a),some (.ref b),some (.str y)] ((b,ob',.list (w.map V.str))::(a,oa,.list (f.map V.str))::σ):=λob'=>by
     cases hB with
     |take h _=>exact absurd hy h
     | @skip n _ _ _ _ _ hB=>exact hQB n _ _ (Nat.lt_succ_self n) (.mk hB (λz hz=>hw z ((List.mem_append.mp hz).elim (λh=>List.mem_append_left _ h) λh=>List.mem_append_right _ (.tail _ h))) (by lia))
    clear hQB hB
    refine z0n (z0x H) (z0A H) (z1Y _) (by exact rfl) (by kernel_rfl) ?_
    intro F m0
    refine Leaf.mk ⟨tyL At.hd,?_⟩
    refine Leaf.mk (z9I hz λob'=> ?_)
    refine Leaf.mk (z3Y (.refL (.tail _ (.head _))) (z0h ?_))
    rw[any_mem.mpr hy]
    exact hend ob'
   ·obtain⟨n,rfl,hB2⟩:∃n',n=n'+1/\Bf (nx es pk) n' (f++[y]) (w++nx es pk y) R:=by
     cases hB with
     |skip h _=>exact absurd h hy
     |take _ h=>exact⟨_,rfl,h⟩
    have hwl2:=hB2.len
    rw[List.length_append] at hwl2
    have hw2:∀z∈(f++[y])++(w++nx es pk y),Ware z:=λz hz=>by
     rcases List.mem_append.mp hz with h|h
     ·rcases List.mem_append.mp h with h|h
      ·exact hw z (List.mem_append_left _ h)
      ·rw[List.mem_singleton.mp h];exact hwy
     ·rcases List.mem_append.mp h with h|h
      ·exact hw z (List.mem_append_right _ (.tail _ h))
      ·exact hnw y z h
    have hend:∀b ob' oa' v,QB .next [some (.ref ro),some x,some (.ref pa),some (.ref a),some (.ref b),v] ((b,ob',.list ((w++nx es pk y).map V.str))::(a,oa',.list ((f++[y]).map V.str))::σ):=λb ob' oa' v=>hQB n _ _ (Nat.lt_succ_self n) (.mk hB2 hw2 (by rw[List.length_append];show f.length+1+n<=100;lia))
    clear hQB hB hB2 hw2 hw
    refine z0n (z0x H) (z0A H) (z1Y _) (by exact rfl) (by kernel_rfl) ?_
    intro F m0
    refine Leaf.mk ⟨tyL At.hd,?_⟩
    refine Leaf.mk (z9I hz λob'=> ?_)
    refine Leaf.mk (z3Y (.refL (.tail _ (.head _))) (z0h ?_))
    rw[show(f.any (·==y))=false from eq_false_of_ne_true λh=>hy (any_mem.mp h)]
    refine Leaf.mk ⟨tyL (At.cons _ At.hd),?_⟩
    refine Leaf.mk (z5f (σ':=λo'=>(b,ob',.list (w.map V.str))::(a,o',.list (f.map V.str++[.str y]))::σ) (λo'=> .tail .head) hzf λoa'=> ?_)
    rw[show f.map V.str++[V.str y]=(f++[y]).map V.str by rw[List.map_append];rfl]
    refine Leaf.mk (z2O H.ns ((hp.cons _).cons _) hn (z0h ?_))
    rcases y3z pb pi y (S.eok y).nd with⟨_,e1,e2⟩|⟨mk,ns,hpm,e1,hns,e2⟩
    ·rw[e1]
     rw[e2,List.append_nil] at hend
     exact hend _ _ _ _
    ·rw[e1]
     have hym:y∈rv.map (·.1):=by
      by_cases h:y∈rv.map (·.1)
      ·exact h
      ·rw[S.out y h] at hns;cases hns
     obtain⟨rb,hrb,hv1,hat⟩:=S.at hym
     have hen:((esV (es y)).map (·.1)).Nodup:=by rw[z0E];exact(S.eok y).nd
     have hv2:vAt (esV (es y)) mk=some (.lst (ns.map z0m)):=z0v hen (List.mem_map.mpr ⟨_,hns,rfl⟩)
     have hnl:=((S.eok y).nok _ hns).len
     refine Leaf.mk ?_
     show AT C env ["_law_rows_here","_law_wish_here","_law_pick","_law_found","_law_waiting","_law_ware"] _ true _ (eval _ env) [some (.ref ro),some x,some (.ref pa),some (.ref a),some (.ref b),some (.str y)] _ _
     refine z0H "_law_need" [] [] (by rw[hsc];kernel_rfl) GL_nil .nil (z0W ?_)
     repeat' with_reducible first|refine z0d ?_|refine z0C ?_|refine z13 ((hro.cons _).cons _) hrn hv1 ?_|refine z13 ((hp.cons _).cons _) hn e1 ?_|refine y22 ((hat.cons _).cons _) hen hv2 ?_|fail
     refine⟨_,_,.lst _,z0M hnl (by decide),λenv' he=>z0K (f:=fstV) (z0r he (by decide+kernel)) trivial _ _ _ (λX hX K hK=> ?_) ?_⟩
     ·revert hK;apply z0o hX;intro n hn hK
      repeat' with_reducible first|refine z0d ?_|refine z0p ?_|refine z0C ?_|fail
      exact y1A hK
     rw[List.nil_append,y1f,<-e2]
     refine Leaf.mk (z1M (.refL (.head _)) (.lst _) (z0y (by rw[List.length_map,List.length_map];lia)) (y5j λc oc=> ?_))
     rw[<-List.map_append]
     refine Leaf.mk ⟨(c,oc,.list ((w++nx es pk y).map V.str))::(a,oa',.list ((f++[y]).map V.str))::σ,.cons_cons _ (List.sublist_cons_self _ _),?_⟩
     exact hend _ _ _ _
 ·cases w with
  |nil=>
   have hfR:f=R:=by cases hB;rfl
   subst hfR
   exact⟨_,List.sublist_cons_self _ _,a,oa,_,σ,rfl,rfl,q⟩
  |cons y w=>exact tf hb
end
end
section
section
variable {C:Cx} [HM C] [NF C] {d:Nat} {σ:Sto} {Q:V->Sto->Prop} {i k ro:Addr} {kv rv:List (Str×Addr)} {es:Str->List (Int×List z0f)}
theorem y35{l:List (Str×Int)}(h:∀p∈l,(z2e es p).length<=6):(l.flatMap (z2e es)).length<=6*l.length:=by
 induction l with
 |nil=>exact Nat.le_refl _
 |cons p l ih=>
  have h1:=h p (.head _)
  have h2:=ih λp hp=>h p (.tail _ hp)
  rw[List.flatMap_cons,List.length_append,List.length_cons];lia
theorem y3P(pk:List (Str×Int))(wi:List z0f):(wi++pk.flatMap (z2e es)).all (z1g pk)=(wi.all (z1g pk)&&pk.all λp=>(z2e es p).all (z1g pk)):=by rw[List.all_append,List.all_flatMap]
noncomputable def t__law_meets_1:TC:=⟨[.loc 4,.loc 2,.tcmpc .NotIn,.mop .Or [.loc 5,.loc 2,.loc 4,.sub,.tcm2 .LtE [.loc 6,.tcmpc .LtE],.not,.mop .Or [.psh (.bool false)]],.ife [.psh (.bool false),.ret] []],[],[]⟩
--t__law_meets_1 0
noncomputable def z3S(r1:Stmt):TC:=⟨[.loc 1,.call (.type "list") 1,.asg 3,.loc 2,.forDS 4 [.loc 3,.loc 0,.loc 4,.sub,.loc 2,.loc 4,.sub,.sub,.binc .Add,.asg 3],.rawS r1,.loc 2,.call (.bi "sorted") 1,.loc 0,.loc 1,.loc 2,.call (.ref 407) 3,.call (.bi "sorted") 1,.cmpc .Eq,.ret],[.inl r1],[([2],none)]⟩
--z3S 1
inductive LmI(a0 a1 a2:V)(es:Str->List (Int×List z0f))(wi:List z0f)(pk:List (Str×Int))(σ:Sto)(j:Nat):Loc->Sto->Prop
 |mk {v:Option V}:LmI a0 a1 a2 es wi pk σ j [some a0,some a1,some a2,some (.lst ((wi++(pk.take j).flatMap (z2e es)).map z0m)),v,none,none] σ
inductive LnI(a0 a1 a2 a3:V)(al:List z0f)(pk:List (Str×Int))(σ:Sto)(j:Nat):Loc->Sto->Prop
 |mk {v1 v2 v3:Option V}:(al.take j).all (z1g pk)=true->LnI a0 a1 a2 a3 al pk σ j [some a0,some a1,some a2,some a3,v1,v2,v3] σ
theorem z2N(H:G1 C)(S:Rw σ ro rv es){x:V}{wi:List z0f}{Px:Sto->Prop}(hx:Has σ x (.list (wi.map z0m)) Px)(ok:WishOk wi){pa:Addr}{pk:List (Str×Int)}(hp:At σ pa (dS (pkV pk)))(pb:PkB pk)(pi:PkIn es pk)
  {N:Nat} {R:List Str} (hN:N<=60) (hB:Bf (nx es pk) N [] (wi.map (·.1)) R) (hRw:∀w∈R,Ware w) (hRl:R.length<=N) (q:Q (.bool (z1F es wi pk R)) σ):CW C (d+2) (.ref 414) [.ref ro,x,.ref pa] σ Q:=by
 refine z08 (G1.kin (by assumption)) ["_law_rows_here","_law_wish_here","_law_pick","_law_needs_here","_law_ware","_law_low","_law_high"] [("list",.type "list"),("sorted",.bi "sorted"),("_law_agenda",.ref 407)] (by kernel_rfl) (vs3 λ_ _ _=>by kernel_rfl) rfl (z0a (z03 (by assumption)) (z0a (z2C (by assumption)) (z0a (z51 (by assumption)) GL_nil))) ?_
 intro env hsc
 clear hsc
 have hpn:((pkV pk).map (·.1)).Nodup:=by rw[z0B];exact pb.nd
 have hrn:((kvV rv).map (·.1)).Nodup:=by rw[z0z];exact S.rwn
 have hro:=S.rows
 have hkw:∀w∈pk.map (·.1),Ware w:=λw hw=>by
  apply z0o hw;intro p hp
  exact(pb.ok p hp).1
 have hnd:∀p∈pk,(z2e es p).length<=6:=λp hp=>by
  obtain⟨ns,hns⟩:=pi p hp
  rw[show z2e es p=ns from z40 (S.eok p.1).nd hns]
  exact((S.eok p.1).nok _ hns).len
 have hlen:∀j,(wi++(pk.take j).flatMap (z2e es)).length<=80:=λj=>by
  have h1:=y35 (es:=es) (l:=pk.take j) λp hp=>hnd p (List.mem_of_mem_take hp)
  have h2:(pk.take j).length<=pk.length:=(List.take_sublist _ _).length_le
  have h12:=pb.len
  have h8:=ok.len
  rw[List.length_append];lia
 obtain⟨o,hm⟩:=id hp
 refine z0n (z0x H) (z0A H) (z3S _) (by exact rfl) (by kernel_rfl) ?_
 intro F m0
 refine Leaf.mk (z5c hx (z0M ok.len (by decide)) (.inl ?_))
 have h0:LmI (.ref ro) x (.ref pa) es wi pk σ 0 [some (.ref ro),some x,some (.ref pa),some (.lst ((wi++(pk.take 0).flatMap (z2e es)).map z0m)),none,none,none] σ:= .mk
 rw[List.take_zero,List.flatMap_nil,List.append_nil] at h0
 refine Leaf.mk (.mk pa o (pkV pk) (LmI (.ref ro) x (.ref pa) es wi pk σ) rfl H.ns hm hpn h0 (λj p hX m τ hI QB hQB _=> ?_) λm τ hI=> ?_)
 ·clear h0 q
  refine hI.casesOn @λv=> ?_
  rw[List.getElem?_map] at hX
  apply z0X hX;rintro ⟨w,mk⟩ hpe
  have hpm:=List.mem_of_getElem? hpe
  have hv:vAt (pkV pk) w=some (.int mk):=z0v hpn (List.mem_map.mpr ⟨_,hpm,rfl⟩)
  obtain⟨ns,hns⟩:=pi _ hpm
  have hnd2:=z40 (S.eok w).nd hns
  obtain⟨b,hb,hrb,hat⟩:=S.at (S.inRv hns)
  have hen:((esV (es w)).map (·.1)).Nodup:=by rw[z0E];exact(S.eok w).nd
  have hv2:vAt (esV (es w)) mk=some (.lst (ns.map z0m)):=z0v hen (List.mem_map.mpr ⟨_,hns,rfl⟩)
  have htk:wi++(pk.take (j+1)).flatMap (z2e es)=(wi++(pk.take j).flatMap (z2e es))++ns:=by
   rw[z2i hpe,List.flatMap_append,List.append_assoc,List.flatMap_cons,List.flatMap_nil,List.append_nil,hnd2]
  have hlj:=hlen (j+1)
  have hend:QB .next [some (.ref ro),some x,some (.ref pa),some (.lst ((wi++(pk.take (j+1)).flatMap (z2e es)).map z0m)),some (.str w),none,none] σ:=hQB _ _ hm .mk
  rw[htk] at hend hlj
  rw[List.map_append] at hend
  clear hQB htk hX hpe hnd2 hlen
  refine Leaf.mk (z13 hro hrn hrb ?_)
  refine Leaf.mk (z13 hp hpn hv ?_)
  refine Leaf.mk (y22 hat hen hv2 ?_)
  refine Leaf.mk (z1M (.lst _) (.lst _) (z0y (by rw[List.length_append] at hlj;rw[List.length_map,List.length_map];exact Nat.le_trans hlj (by decide))) (z2d ?_))
  exact hend
 refine hI.casesOn @λv=> ?_
 rw[List.length_map,List.take_length]
 have hal:=hlen pk.length
 rw[List.take_length] at hal
 have hmt:=y3P (es:=es) pk wi
 have q:Q (.bool (decide (z1E (pk.map (·.1))=z1E R)&&(wi.all (z1g pk)&&pk.all λp=>(z2e es p).all (z1g pk)))) σ:=q
 rw[<-hmt] at q
 generalize wi++pk.flatMap (z2e es)=al at hal q⊢
 clear hmt hlen hnd h0
 refine Leaf.mk ?_
 show AS C env ["_law_rows_here","_law_wish_here","_law_pick","_law_needs_here","_law_ware","_law_low","_law_high"] _ true _ (exec _ env) [some (.ref ro),some x,some (.ref pa),some (.lst (al.map z0m)),v,none,none] _ _
 refine y4y (LnI (.ref ro) x (.ref pa) (.lst (al.map z0m)) al pk σ) (z0W ?_)
 with_reducible refine z0d ?_
 refine⟨_,_,.lst _,.mk rfl,λj X hX m τ hI QB hQB hQR=> ?_,λm τ hI=> ?_⟩
 ·refine hI.casesOn @λv1 v2 v3 hall=> ?_
  rw[List.getElem?_map] at hX
  apply z0X hX;rintro ⟨w,lo,hi⟩ hne
  have hnm:=List.mem_of_getElem? hne
  have htk:(al.take (j+1)).all (z1g pk)=z1g pk (w,lo,hi):=by
   rw[z2i hne,List.all_append,hall]
   exact(Bool.true_and _).trans (Bool.and_true _)
  have hbad:z1g pk (w,lo,hi)=false->∀m,QB (.ret (.bool false)) m σ:=λh m=>hQR _ _ _ (qB q (by
   rw[show al.all (z1g pk)=false from List.all_eq_false.mpr ⟨_,hnm,by rw[h];exact Bool.false_ne_true⟩,Bool.and_false]))
  have hgood:z1g pk (w,lo,hi)=true->QB .next [some (.ref ro),some x,some (.ref pa),some (.lst (al.map z0m)),some (.str w),some (.int lo),some (.int hi)] σ:=λh=>hQB _ _ trivial (.mk (htk.trans h))
  clear hQB hQR htk hall hX hne hnm q
  show AA C env _ _ _ _ _ (V.tup [.str w,.int lo,.int hi]) _ _ _
  with_reducible refine y5n ?_
  with_reducible refine z0w PutC.put ?_
  with_reducible refine z0w PutC.put ?_
  with_reducible refine z0w PutC.put ?_
  refine z0n (z0x H) (z0A H) t__law_meets_1 rfl (by kernel_rfl) ?_
  intro F m0
  refine Leaf.mk (y2r H.ns hp hpn (z0h ?_))
  by_cases hm2:w∈pk.map (·.1)
  ·obtain⟨mk,hpm,_⟩:=y1e pb.nd hm2
   have hv:vAt (pkV pk) w=some (.int mk):=z0v hpn (List.mem_map.mpr ⟨_,hpm,rfl⟩)
   rw[hv]
   rw[z7l hv] at hgood hbad
   refine Leaf.mk (z13 hp hpn hv ?_)
   refine z0T (λh1=> ?_) λh1=> ?_
   ·rw[h1,Bool.true_and] at hbad hgood
    refine z0T (λh2=> ?_) λh2=> ?_
    ·exact hbad ((Bool.not_eq_true' _).mp h2) _
    ·exact hgood ((Bool.not_eq_false' _).mp h2)
   ·rw[h1,Bool.false_and] at hbad
    exact hbad rfl _
  ·have hv:vAt (pkV pk) w=none:=z1i (by rw[z0B];exact hm2)
   rw[hv]
   exact hbad (z9x hv) _
 refine hI.casesOn @λv1 v2 v3 hall=> ?_
 rw[List.length_map,List.take_length] at hall
 rw[hall,Bool.and_true] at q
 refine Leaf.mk (z32 H.ns hp hpn (by rw[List.length_map];exact Nat.lt_of_le_of_lt pb.len (by decide)) (.inl ?_))
 rw[z0B]
 refine Leaf.mk (fnc (z5Z H S hx ok hp pb pi (Nat.le_trans hN (by decide)) hB ?_))
 refine Leaf.mk (z5J (.lst _) (Nat.lt_of_le_of_lt hRl (Nat.lt_of_le_of_lt hN (by decide))) (.inl ?_))
 exact⟨y10 (z19 hkw) (z19 hRw) q⟩
end
end
section
section
variable {C:Cx} [HM C] [NF C] {d:Nat} {σ:Sto} {Q:V->Sto->Prop} {i k ro:Addr} {kv rv:List (Str×Addr)} {es:Str->List (Int×List z0f)}
theorem PkB.put(S:Rw σ ro rv es){pk:List (Str×Int)}(pb:PkB pk)(pi:PkIn es pk){w:Str}{mk:Int}{ns:List z0f}(h:(mk,ns)∈es w):PkB (z5W pk w mk):=by
 refine⟨z9G pb.nd,Nat.le_trans (y1L S (z9G pb.nd) (pi.put h)) S.rl,λp hp=> ?_⟩
 rcases z8x hp with rfl|hp
 ·obtain⟨q,hq,e⟩:=List.mem_map.mp (S.inRv h)
  have:=(S.eok w).mb _ h
  exact⟨e▸S.wok q hq,this.1,this.2⟩
 ·exact pb.ok p hp
inductive PkR(es:Str->List (Int×List z0f))(τ:Sto)(r:Addr):Prop
 |mk {pk:List (Str×Int)}:At τ r (dS (pkV pk))->PkB pk->PkIn es pk->PkR es τ r
theorem PkR.mono{τ τ':Sto}{r:Addr}(h:PkR es τ r)(hs:∀p∈τ,p∈τ'):PkR es τ' r:=by
 obtain⟨⟨o,h1⟩,h2,h3⟩:=h
 exact⟨⟨o,hs _ h1⟩,h2,h3⟩
theorem PkR.upd{τ τ':Sto}{r a:Addr}{x:AO}(h:PkR es τ r)(U:UpdS τ τ' a x)(hne:r≠a):PkR es τ' r:=by
 obtain⟨h1,h2,h3⟩:=h
 exact⟨U.at h1 hne,h2,h3⟩
theorem y3h{rs:List Addr}:∀{ys:List V},ys.Sublist (rs.map V.ref)->∃rs':List Addr,ys=rs'.map V.ref/\rs'.Sublist rs:=λh=>by
 obtain⟨l,h1,h2⟩:=List.sublist_map_iff.mp h
 exact⟨l,h2,h1⟩
theorem z8S{env:Env}{caps:List Str}{gl:List (Str×V)}{x:Str}{elt c:Expr}{pp:Pos}{P:Sto->Prop}{Z:List V->Sto->Prop}{ms:Loc}{Gd:V->Prop}(hk:env.kindOf x=some .local)(hP:P σ)(xs:List V):
  ∀(acc:List V) (o:Option V),(∀X∈xs,∀K:Bool->Sto->Prop,(∀b,(b=true->Gd X)->K b σ)->AB C env (x::caps) gl false d (isTrue c env (eval c env)) (some X::ms) σ K)->
   (∀X∈xs,∀K:V->Sto->Prop,K X σ->AT C env (x::caps) gl false d (eval elt env) (some X::ms) σ K)->(∀ys:List V,ys.Sublist xs->(∀y∈ys,Gd y)->Z (acc++ys) σ)->
   z04 C env (x::caps) gl d (.Name x pp) elt [c] P Z xs acc (o::ms) σ:=by
 induction xs with
 |nil=>intro acc o _ _ q;have:=q [] (List.Sublist.refl _) (λ_ h=>by cases h);rw[List.append_nil] at this;exact this
 |cons X xs ih=>
  intro acc o ht h q
  refine z0w Put.head ?_ (.inr hk)
  refine ht X (.head _) _ λb hg=>⟨λe=>h X (.head _) _ ⟨hP,ih (acc++[X]) (some X) (λY hY=>ht Y (.tail _ hY)) (λY hY=>h Y (.tail _ hY)) λys hs hy=> ?_⟩,λe=>⟨hP,ih acc (some X) (λY hY=>ht Y (.tail _ hY)) (λY hY=>h Y (.tail _ hY)) λys hs hy=>q ys (hs.cons _) hy⟩⟩
  rw[List.append_assoc]
  refine q (X::ys) (hs.cons_cons _) λy hm=> ?_
  rcases List.mem_cons.mp hm with rfl|hm
  ·exact hg e
  ·exact hy y hm
inductive MtB(es:Str->List (Int×List z0f))(wi:List z0f)(pk:List (Str×Int)):Prop
 |mk (N:Nat) (R:List Str):N<=60->Bf (nx es pk) N [] (wi.map (·.1)) R->(∀w∈R,Ware w)->R.length<=N->z1F es wi pk R=true->MtB es wi pk
inductive PkM(es:Str->List (Int×List z0f))(wi:List z0f)(τ:Sto)(r:Addr):Prop
 |mk {pk:List (Str×Int)}:At τ r (dS (pkV pk))->PkB pk->PkIn es pk->MtB es wi pk->PkM es wi τ r
theorem y5b{j:Nat}(h:j<=5):3^j<=243:=Nat.pow_le_pow_right (by decide) h
noncomputable def z2w(r1:Expr):TC:=⟨[.dic,.lst 1,.asg 2,.loc 0,.forDS 3 [.asgL 4,.loc 2,.forL 5 [.loc 4,.mty "list",.loc 5,.meth (.bi "list.append") 1,.pop,.loc 0,.loc 3,.sub,.forDI 6 [.loc 5,.call (.type "dict") 1,.asg 7,.loc 6,.loc 7,.loc 3,.setI,.loc 4,.mty "list",.loc 7,.meth (.bi "list.append") 1,.pop]],.loc 4,.asg 2],.raw r1,.ret],[.inr r1],[([2],some [])]⟩
--z2w 1
inductive ApI(a0 a1:V)(es:Str->List (Int×List z0f))(σ:Sto)(j:Nat):Loc->Sto->Prop
 |mk {rs:List Addr} {px:V} {Pp:Sto->Prop} {v1 v2 v3 v4 v5:Option V} {τ:Sto}:Has τ px (.list (rs.map V.ref)) Pp->(∀r∈rs,Fresh σ r/\PkR es τ r)->rs.length<=3^j->(∀p∈σ,p∈τ)->ApI a0 a1 es σ j [some a0,some a1,some px,v1,v2,v3,v4,v5] τ
inductive AqI(a0 a1 px a3:V)(mo:Addr)(es:Str->List (Int×List z0f))(σ τ:Sto)(k:Nat):Loc->Sto->Prop
 |mk {rs:List Addr} {v3 v4 v5:Option V} {τ':Sto}:At τ' mo (.list (rs.map V.ref))->(∀r∈rs,r≠mo/\Fresh σ r/\PkR es τ' r)->rs.length<=3*k->(∀p∈τ,p∈τ')->AqI a0 a1 px a3 mo es σ τ k [some a0,some a1,some px,some a3,some (.ref mo),v3,v4,v5] τ'
inductive ArI(a0 a1 px a3 a5:V)(mo:Addr)(es:Str->List (Int×List z0f))(σ τ:Sto)(k l:Nat):Loc->Sto->Prop
 |mk {rs:List Addr} {v4 v5:Option V} {τ':Sto}:At τ' mo (.list (rs.map V.ref))->(∀r∈rs,r≠mo/\Fresh σ r/\PkR es τ' r)->rs.length<=3*k+1+l->(∀p∈τ,p∈τ')->ArI a0 a1 px a3 a5 mo es σ τ k l [some a0,some a1,some px,some a3,some (.ref mo),some a5,v4,v5] τ'
set_option tactic.hygienic true in
theorem z4x(H:G1 C)(S:Rw σ ro rv es)(h4r:rv.length<=5)(h4:∀w,(es w).length<=2){x:V}{wi:List z0f}{Px:Sto->Prop}(hx:Has σ x (.list (wi.map z0m)) Px)(ok:WishOk wi)
  (q:∀(rs:List Addr) σ',(∀p∈σ,p∈σ')->(∀r∈rs,Fresh σ r/\PkM es wi σ' r)->rs.length<=243->Q (.lst (rs.map V.ref)) σ'):CW C (d+3) (.ref 419) [.ref ro,x] σ Q:=by
 refine z08 (G1.kin (by assumption)) ["_law_rows_here","_law_wish_here","_law_picks","_law_ware","_law_more","_law_pick","_law_make","_law_beside"] [("dict",.type "dict")] (by kernel_rfl) (vs2 λ_ _=>by kernel_rfl) rfl (z0a (z3x (by assumption)) GL_nil) ?_
 intro env hsc
 have hrn:((kvV rv).map (·.1)).Nodup:=by rw[z0z];exact S.rwn
 obtain⟨oro,hrm⟩:=S.rows
 refine z0n (z0x H) (z0A H) (z2w _) (by exact rfl) (by kernel_rfl) ?_
 intro F m0 a0 o0 hf0
 refine Leaf.mk (.mk ro oro (kvV rv) (ApI (.ref ro) x es σ) rfl H.ns (.tail _ hrm) hrn (.mk (rs:=[a0]) (.lst _) (λr hr=> ?_) (Nat.le_refl 1) λp hp=> .tail _ hp) (λj p hX m τ hI QB hQB _=> ?_) λm τ hI=> ?_)
 ·rw[List.mem_singleton.mp hr]
  exact⟨hf0,.mk (pk:=[]) At.hd ⟨List.nodup_nil,by decide,λ_ h=>by cases h⟩ λ_ h=>by cases h⟩
 ·clear q hsc
  refine hI.casesOn @λrs px Pp v1 v2 v3 v4 v5 τ hpx hrs hrl hkp=> ?_
  rw[List.getElem?_map] at hX
  apply z0X hX;rintro ⟨w,b⟩ hpe
  have hj:=(List.getElem?_eq_some_iff.mp hpe).1
  have hb:=List.mem_of_getElem? hpe
  have hrb:vAt (kvV rv) w=some (.ref b):=z0v hrn (List.mem_map.mpr ⟨_,hb,rfl⟩)
  have hen:((esV (es w)).map (·.1)).Nodup:=by rw[z0E];exact(S.eok w).nd
  obtain⟨ob,hbm⟩:=S.rin _ hb
  have hw4:=h4 w
  have hr243:rs.length<=243:=Nat.le_trans hrl (y5b (Nat.le_trans (Nat.le_of_lt hj) h4r))
  intro mo omo hfm
  refine Leaf.mk (.mk _ _ (AqI (.ref ro) x px (.str w) mo es σ τ) (hpx.mono λp h=> .tail _ h) (.mk (rs:=[]) At.hd (λ_ h=>by cases h) (Nat.le_refl _) λp hp=> .tail _ hp) (λk X hX m τ1 hI QB' hQB' _=> ?_) λm τ1 hI=> ?_)
  ·clear hQB hrl
   refine hI.casesOn @λrs' v3 v4 v5 τ1 hmo hrs' hl' hkp'=> ?_
   rw[List.getElem?_map] at hX
   apply z0X hX;intro r hre
   have hk:=(List.getElem?_eq_some_iff.mp hre).1
   obtain⟨hfr,hpkr⟩:=hrs r (List.mem_of_getElem? hre)
   obtain⟨hpk0,pb,pi⟩:=id hpkr
   rename_i pk
   have hrne:r≠mo:=hfm.ne hpk0
   have hpn:((pkV pk).map (·.1)).Nodup:=by rw[z0B];exact pb.nd
   have hz:(rs'.map V.ref).length<=sizeLine:=z0M (n:=5000) (by lia) (by decide)
   refine Leaf.mk ⟨tyL hmo,?_⟩
   refine Leaf.mk (y3G hmo hz λτ2 U2=> ?_)
   have keep2:∀p∈τ,p∈τ2:=λp hp=>U2.keep p (hkp' p hp) (hfm p hp)
   refine Leaf.mk (z13 ⟨oro,keep2 _ (hkp _ hrm)⟩ hrn hrb ?_)
   refine Leaf.mk (.mk b ob (esV (es w)) (ArI (.ref ro) x px (.str w) (.ref r) mo es σ τ k) rfl H.ns (keep2 _ (hkp _ hbm)) hen (.mk (rs:=rs'++[r]) (by rw[List.map_append];exact U2.here) (λr' hr'=> ?_) (by rw[List.length_append];exact Nat.succ_le_succ hl') keep2) (λl p hX m τ3 hI QB2 hQB2 _=> ?_) λm τ3 hI=> ?_)
   ·rcases List.mem_append.mp hr' with h|h
    ·obtain⟨h1,h2,h3⟩:=hrs' r' h
     exact⟨h1,h2,h3.upd U2 h1⟩
    ·rw[List.mem_singleton.mp h]
     exact⟨hrne,hfr,hpkr.mono keep2⟩
   ·clear hQB' hrs' hmo U2 keep2 hz hl' hkp'
    refine hI.casesOn @λrs3 v4 v5 τ3 hmo3 hrs3 hl3 kp3=> ?_
    rw[List.getElem?_map] at hX
    apply z0X hX;rintro ⟨mk,ns⟩ hee
    have hl:=(List.getElem?_eq_some_iff.mp hee).1
    have hmem:=List.mem_of_getElem? hee
    obtain⟨opk,hpkm⟩:=hpk0
    have hpk3:At τ3 r (dS (pkV pk)):=⟨opk,kp3 _ hpkm⟩
    have hz3:(rs3.map V.ref).length<=sizeLine:=z0M (n:=5000) (by lia) (by decide)
    refine Leaf.mk (z7W H.ns hpk3 hpn (z0M pb.len (by decide)) λba oba hfb=> ?_)
    refine Leaf.mk (y0I At.hd hpn (z0M pb.len (by decide)) λτ4 U4=> ?_)
    have U4:UpdS ((ba,oba,dS (pkV pk))::τ3) τ4 ba (dS (z1w (pkV pk) w (.int mk))):=U4
    rw[y33] at U4
    have keep4:∀p∈τ3,p∈τ4:=λp hp=>U4.keep p (.tail _ hp) (hfb p hp)
    have hmo4:At τ4 mo (.list (rs3.map V.ref)):=by obtain⟨o,h⟩:=hmo3;exact⟨o,keep4 _ h⟩
    have hbne:ba≠mo:=(hfb.ne hmo3).symm
    refine Leaf.mk ⟨tyL hmo4,?_⟩
    refine Leaf.mk (y3G hmo4 hz3 λτ5 U5=> ?_)
    refine hQB2 _ _ (U5.keep _ (keep4 _ (kp3 _ (hkp _ hbm))) (hfm _ (hkp _ hbm))) (.mk (rs:=rs3++[ba]) (by rw[List.map_append];exact U5.here) (λr' hr'=> ?_) (by rw[List.length_append];exact Nat.succ_le_succ hl3) λp hp=>U5.keep p (keep4 _ (kp3 p hp)) (hfm p hp))
    rcases List.mem_append.mp hr' with h|h
    ·obtain⟨h1,h2,h3⟩:=hrs3 r' h
     exact⟨h1,h2,(h3.mono keep4).upd U5 h1⟩
    ·rw[List.mem_singleton.mp h]
     exact⟨hbne,λp hp=>hfb p (kp3 _ (hkp p hp)),PkR.upd ⟨U4.here,pb.put S pi hmem,pi.put hmem⟩ U5 hbne⟩
   ·refine hI.casesOn @λrs3 v4 v5 τ3 hmo3 hrs3 hl3 kp3=> ?_
    rw[List.length_map] at hl3
    exact hQB' _ _ (hpx.mono kp3).p (.mk hmo3 hrs3 (by lia) kp3)
  ·refine hI.casesOn @λrs' v3 v4 v5 τ1 hmo hrs' hl' hkp'=> ?_
   rw[List.length_map] at hl'
   obtain⟨om,hmm⟩:=hmo
   exact hQB _ _ (hkp' _ (hkp _ hrm)) (.mk (.refL hmm) (λr hr=>(hrs' r hr).2) (by rw[Nat.pow_succ];lia) λp hp=>hkp' _ (hkp p hp))
 refine hI.casesOn @λrs px Pp v1 v2 v3 v4 v5 τ hpx hrs hrl hkp=> ?_
 rw[List.length_map] at hrl
 have hrl:=Nat.le_trans hrl (y5b h4r)
 have hrz:(rs.map V.ref).length<=sizeLine:=z0M hrl (by decide)
 have S':Rw τ ro rv es:=S.frame λa _ x ⟨o,h⟩=>⟨o,hkp _ h⟩
 refine Leaf.mk ?_
 show AT C env ["_law_rows_here","_law_wish_here","_law_picks","_law_ware","_law_more","_law_pick","_law_make","_law_beside"] _ true _ (eval _ env) [some (.ref ro),some x,some px,v1,v2,v3,v4,v5] _ _
 refine z0H "_law_pick" ["_law_rows_here","_law_wish_here"] [("_law_meets",.ref 414)] (by rw[hsc];kernel_rfl) (z0a (z3T H) GL_nil) (.cons LkC.lk (.cons LkC.lk .nil)) (z0W ?_)
 with_reducible refine z0d ?_
 refine⟨_,_,hpx,hrz,λenv' he=>z8S (Gd:=λX=>∀r,X= .ref r->PkM es wi τ r) (z0r he (by decide+kernel)) hpx.p _ _ _ (λX hX K hK=> ?_) (λX hX K hK=> ?_) λys hys hg=> ?_⟩
 ·revert hK;apply z0o hX;intro r hr hK
  obtain⟨hpk,pb,pi⟩:=(hrs r hr).2
  obtain⟨N,R,hN,hB,hRw,hRl⟩:=z3l S h4r ok pb pi
  repeat' with_reducible first|refine z0d ?_|refine z0s ?_|refine z0i ?_|refine z0b ?_|refine z0c ?_|refine z09 ?_|refine⟨z3N (by assumption),?_⟩|fail
  refine fnc (z2N H S' (hx.mono hkp) ok hpk pb pi hN hB hRw hRl (z0h (hK _ λe r' e'=> ?_)))
  rw[<-V.ref.inj e'];exact⟨hpk,pb,pi,N,R,hN,hB,hRw,hRl,e⟩
 ·with_reducible refine z0d ?_
  exact hK
 obtain⟨rs',rfl,hsub⟩:=y3h hys
 rw[List.nil_append]
 exact q rs' _ hkp (λr hr=>⟨(hrs r (hsub.subset hr)).1,hg _ (List.mem_map.mpr ⟨r,hr,rfl⟩) r rfl⟩) (Nat.le_trans hsub.length_le hrl)
end
end
section
section
variable {C:Cx} [HM C] [NF C] {d:Nat} {σ:Sto} {Q:V->Sto->Prop} {EQ:Value->Sto->Prop} {i k ro:Addr} {kv rv:List (Str×Addr)} {es:Str->List (Int×List z0f)}
theorem z6n{xs:List V}(h:xs.length=3):∃a b c,xs=[a,b,c]:=by
 rcases xs with _|⟨a,_|⟨b,_|⟨c,_|⟨e,xs⟩⟩⟩⟩<;>first|(simp at h;done)|exact⟨_,_,_,rfl⟩
theorem z9K{xs:List V}(h:xs.length=2):∃a b,xs=[a,b]:=by
 rcases xs with _|⟨a,_|⟨b,_|⟨c,xs⟩⟩⟩<;>first|(simp at h;done)|exact⟨_,_,rfl⟩
theorem Dn.intE{v:V}{i:Int}{n:Nat}(h:Dn σ n v (.int i)):v= .int i:=by obtain⟨x,h1,h2⟩:=h.intI rfl rfl;rw[h1,<-h2]
theorem Dn.strE{v:V}{x:Str}{n:Nat}(h:Dn σ n v (.str x)):v= .str x:=by obtain⟨y,h1,h2,_⟩:=h.strI rfl;rw[h1,<-h2]
theorem z58{t:V}(h:wareV t=true):∃x,t= .str x/\Ware x:=by
 cases t<;>first|exact ff h|exact⟨_,rfl,z5t h⟩
noncomputable def leB:V->V->Bool
 | .int a,.int b=>decide (a<=b)
 |_,_=>false
noncomputable def needB:V->Bool
 | .tup [a,b,c]=>wareV a&&(makeV b&&(makeV c&&leB b c))
 |_=>false
theorem y1X{t:V}(h:tkB t .tup=false):needB t=false:=by cases t<;>first|rfl|exact tf h
theorem z93{l:List V}(h:l.length≠3):needB (.tup l)=false:=by
 rcases l with _|⟨a,_|⟨b,_|⟨c,_|⟨e,l⟩⟩⟩⟩<;>first|rfl|exact absurd rfl h
theorem y0v{n:z0f}(h:NeedOk n):needB (z0m n)=true:=by
 show(wareV (.str n.1)&&(makeV (.int n.2.1)&&(makeV (.int n.2.2)&&decide (n.2.1<=n.2.2))))=true
 have e:∀i:Int,makeV (.int i)=(decide (1<=i)&&decide (i<=999)):=λ_=>rfl
 rw[z4f h.w,e,e,decide_eq_true h.lo,decide_eq_true h.hi,decide_eq_true h.le,decide_eq_true (Int.le_trans h.lo h.le),decide_eq_true (Int.le_trans h.le h.hi)];rfl
theorem z80(H:G1 C){v t:V}{n:Nat}(h:Dn σ n v t)(q:Q (.bool (needB t)) σ):CW C (d+2) (.ref 149) [v] σ Q:=by
 refine z08 (G1.kin (by assumption)) ["thing"] [("isinstance",.bi "isinstance"),("tuple",.type "tuple"),("len",.bi "len"),("is_ware",.ref 135),("is_make",.ref 142)] (by kernel_rfl) (vs1 λ_=>by kernel_rfl) rfl (z0a (z0t (by assumption)) (z0a (z12 (by assumption)) (z0a (z00 (by assumption)) (z0a (z1K (by assumption)) (z0a (z2o (by assumption)) GL_nil))))) ?_
 intro env hsc
 clear hsc
 cases hk:tkB t .tup with
 |false=>
  refine z0n (z0x H) (z0A H) t_is_need rfl (by kernel_rfl) ?_
  intro F m0
  refine z8A h hk ?_
  rw[y1X hk] at q
  exact q
 |true=>
  obtain⟨m2,us,zs,_,rfl,rfl,hl,h200,hd⟩:=h.tupI hk
  clear h hk
  by_cases h3:us.length=3
  ·obtain⟨a,b,c,rfl⟩:=z6n h3
   obtain⟨ya,yb,yc,rfl⟩:=z6n (hl▸h3)
   have d0:=hd 0 _ _ rfl rfl
   have d1:=hd 1 _ _ rfl rfl
   have d2:=hd 2 _ _ rfl rfl
   clear hd hl h3 h200
   have q:Q (.bool (wareV ya&&(makeV yb&&(makeV yc&&leB yb yc)))) σ:=q
   refine z0n (z0x H) (z0A H) t_is_need rfl (by kernel_rfl) ?_
   intro F m0
   refine Leaf.mk (fnc (z3B H d0 ?_))
   cases hw:wareV ya with
   |false=>rw[hw] at q;exact q
   |true=>
   refine Leaf.mk (fnc (z2G H d1 ?_))
   rw[hw] at q
   cases h1:makeV yb with
   |false=>rw[h1] at q;exact q
   |true=>
   refine Leaf.mk (fnc (z2G H d2 ?_))
   rw[h1] at q
   cases h2:makeV yc with
   |false=>rw[h2] at q;exact q
   |true=>
   rw[h2] at q
   obtain⟨i1,rfl,_⟩:=z3q h1
   obtain⟨i2,rfl,_⟩:=z3q h2
   obtain rfl:=d1.intE
   obtain rfl:=d2.intE
   exact q
  ·refine z0n (z0x H) (z0A H) t_is_need rfl (by kernel_rfl) ?_
   intro F m0
   refine z7D (y4s h200 rfl) ?_
   refine z7D (show(!decide ((us.length:Int)=3))=true by rw[decide_eq_false (by lia)];rfl) ?_
   rw[z93 (hl▸h3)] at q
   exact q
noncomputable def wishB:V->Bool
 | .lst ts=>decide (ts.length<=8)&&ts.all needB
 |_=>false
theorem y1O{t:V}(h:tkB t .lst=false):wishB t=false:=by cases t<;>first|rfl|exact tf h
theorem y11{wi:List z0f}(ok:WishOk wi):wishB (.lst (wi.map z0m))=true:=by
 show(decide ((wi.map z0m).length<=8)&&(wi.map z0m).all needB)=true
 rw[decide_eq_true (by rw[List.length_map];exact ok.len),List.all_map]
 exact List.all_eq_true.mpr λn hn=>y0v (ok.ok n hn)
noncomputable def ndV(t:V):V:= .bool (needB t)
noncomputable abbrev veM:List Value:=[.type "ValueError",.type "Exception",.type "BaseException",.type "object"]
theorem z4w(H:G1 C):PyProof.Rows.OwnCls "BadWish" 116 veM "ValueError.__new__" C.mg C.base:=H.own _ _ _ _ rfl (by kernel_rfl)
theorem z02(H:G1 C):PyProof.Rows.OwnCls "BadPick" 128 veM "ValueError.__new__" C.mg C.base:=H.own _ _ _ _ rfl (by kernel_rfl)
theorem z1e{env:Env}{vars:List Str}{gl:List (Str×V)}{m:Loc}{Q:Fl->Loc->Sto->Prop}{x:Str}{np cpos pos tp:Pos}{t:Str}{k:Nat}{a:Addr}(O:PyProof.Rows.OwnCls x a veM "ValueError.__new__" C.mg C.base)[h:GInC gl x (.ref a)](q:EQ (.ref a) σ):
  SE C env vars gl d (execs [.Raise (some (.Call (.Name x np) [.Constant (.str t) k tp] [] cpos)) none pos] env) m σ Q EQ:=z0k (y06 O F.excBase_ValueError h.mem q)
theorem z4C{env:Env}{caps:List Str}{gl:List (Str×V)}{x:Str}{elt:Expr}{pp:Pos}{P:Sto->Prop}{Z:List V->Sto->Prop}{ms:Loc}(hk:env.kindOf x=some .local)(hP:P σ):∀(xs ys acc:List V) (o:Option V),xs.length=ys.length->
  (∀(j:Nat) X Y,xs[j]? =some X->ys[j]? =some Y->∀K:V->Sto->Prop,K Y σ->AT C env (x::caps) gl false d (eval elt env) (some X::ms) σ K)->Z (acc++ys) σ->z04 C env (x::caps) gl d (.Name x pp) elt [] P Z xs acc (o::ms) σ:=by
 intro xs
 induction xs with
 |nil=>
  intro ys acc o hl _ q
  rw[List.length_eq_zero_iff.mp hl.symm,List.append_nil] at q
  exact q
 |cons X xs ih=>
  intro ys acc o hl h q
  cases ys with
  |nil=>exact absurd hl (Nat.succ_ne_zero _)
  |cons Y ys=>
   refine z0w Put.head ?_ (.inr hk)
   refine⟨λ_=>h 0 X Y rfl rfl _ ⟨hP,ih ys (acc++[Y]) (some X) (Nat.succ.inj hl) (λj X Y h1 h2=>h (j+1) X Y h1 h2) (by rw[List.append_assoc];exact q)⟩,λe=>by cases e⟩
theorem z3P(H:G1 C){v t:V}{n:Nat}(h:Dn σ n v t)(q:wishB t=true->Q .none σ)(e:wishB t=false->EQ (.ref 116) σ):CE C (d+3) (.ref 161) [v] σ Q EQ:=by
 refine z4g (G1.kin (by assumption)) ["wish"] [("isinstance",.bi "isinstance"),("list",.type "list"),("len",.bi "len"),("MOST_WISHES",.int 8),("all",.bi "all"),("BadWish",.ref 116)] (by kernel_rfl) (vs1 λ_=>by kernel_rfl) rfl (z0a (z0t (by assumption)) (z0a (z03 (by assumption)) (z0a (z00 (by assumption)) (z0a (z3v (by assumption)) (z0a (z6y (by assumption)) (z0a (z6z (by assumption)) GL_nil)))))) ?_
 intro env hsc
 refine z0k (z1Z ?_)
 show AB C env ["wish"] _ true _ _ [some v] σ _
 repeat' with_reducible first|refine z16 ?_|refine z2T ?_|refine z1l ?_|refine z0L ?_|refine z09 ?_|refine z0d ?_|refine z0s ?_|refine z0i ?_|refine z0b ?_|refine z0c ?_|refine⟨z0q,?_⟩|fail
 refine y0l (k:= .lst) h ?_
 cases hk:tkB t .lst with
 |false=>
  refine z0h ⟨λ_=>⟨λ_=> ?_,λhb=>tf hb⟩,λhb=>tf hb⟩
  exact z1e (z4w H) (e (y1O hk))
 |true=>
  refine z0h ⟨λhb=>ff hb,λ_=> ?_⟩
  obtain⟨m2,us,ts,P,_,hH,rfl,hl,h200,hd⟩:=h.lstI hk
  clear h hk
  have hz:us.length<=sizeLine:=Nat.le_trans h200 (by decide)
  repeat' with_reducible first|refine z2T ?_|refine z0L ?_|refine z0d ?_|refine z0s ?_|refine z0i ?_|refine z0b ?_|refine z0c ?_|refine⟨z0q,?_⟩|fail
  refine z7r hH hz ?_
  with_reducible refine z0s ?_
  refine y5i (z0h ⟨λhb=>⟨λ_=> ?_,λhb=>tf hb⟩,λhb=> ?_⟩)
  ·refine z1e (z4w H) (e ?_)
   show(decide (ts.length<=8)&&ts.all needB)=false
   rw[decide_eq_false (by have:=of_decide_eq_true hb;rw[<-hl];lia)];rfl
  have h8:decide (ts.length<=8)=true:=decide_eq_true (by have:=of_decide_eq_false hb;rw[<-hl];lia)
  have q:ts.all needB=true->Q .none σ:=λh=>q (show(decide (ts.length<=8)&&ts.all needB)=true by rw[h8,h];rfl)
  have e:ts.all needB=false->EQ (.ref 116) σ:=λh=>e (show(decide (ts.length<=8)&&ts.all needB)=false by rw[h8,h];rfl)
  repeat' with_reducible first|refine z2T ?_|refine z1l ?_|refine z09 ?_|refine z0d ?_|refine z0s ?_|refine z0i ?_|refine z0b ?_|refine z0c ?_|refine⟨z0q,?_⟩|fail
  refine z0H "need" [] [("is_need",.ref 149)] (by rw[hsc];kernel_rfl) (z0a (z6x H) GL_nil) .nil (z0W ?_)
  with_reducible refine z0d ?_
  refine⟨_,_,hH,hz,λenv' he=>z4C (z0r he (by decide+kernel)) hH.p _ (ts.map ndV) _ _ (by rw[List.length_map,hl]) (λj X Y hX hY K hK=> ?_) ?_⟩
  ·rw[List.getElem?_map] at hY
   revert hK;apply z0X hY;intro T hT hK
   repeat' with_reducible first|refine z0d ?_|refine z0s ?_|refine z0i ?_|refine z0b ?_|refine z0c ?_|refine⟨z6h (by assumption),?_⟩|fail
   exact fnc (z80 H (hd j X T hX hT) hK)
  ·rw[List.nil_append,show ts.map ndV=(ts.map needB).map V.bool by rw[List.map_map];rfl]
   repeat' with_reducible first|refine z0c ?_|fail
   refine z59 (.lst _) ?_
   rw[show(ts.map needB).all id=ts.all needB by rw[List.all_map];rfl]
   refine z0h ⟨λhb=>⟨λ_=>z1e (z4w H) (e ((Bool.not_eq_true' _).mp hb)),λhb=>tf hb⟩,λhb=>z36 ⟨λh=>ff h,λ_=>z0F (z0F (q ((Bool.not_eq_false' _).mp hb)))⟩⟩
end
end
section
section
variable {C:Cx} [HM C] [NF C] {d:Nat} {σ:Sto} {Q:V->Sto->Prop} {EQ:Value->Sto->Prop} {i k ro:Addr} {kv rv:List (Str×Addr)} {es:Str->List (Int×List z0f)}
noncomputable def inE(es:Str->List (Int×List z0f)):V->V->Bool
 | .str w,.int m=>(vAt (esV (es w)) m).isSome
 |_,_=>false
noncomputable def z2b(es:Str->List (Int×List z0f))(a b:V):Bool:=wareV a&&(makeV b&&inE es a b)
theorem y2D{es:Str->List (Int×List z0f)}{a b:V}(h:z2b es a b=true):∃w m,a= .str w/\b= .int m/\Ware w/\1<=m/\m<=999/\(vAt (esV (es w)) m).isSome=true:=by
 unfold z2b at h
 rw[Bool.and_eq_true,Bool.and_eq_true] at h
 obtain⟨w,rfl,hw⟩:=z58 h.1
 obtain⟨m,rfl,h1,h2⟩:=z3q h.2.1
 exact⟨w,m,rfl,rfl,hw,h1,h2,h.2.2⟩
theorem y04(H:G1 C)(S:Shp σ i k kv es){va ta vb tb:V}{n n':Nat}(ha:Dn σ n va ta)(hb:Dn σ n' vb tb)(q:Q (.bool (z2b es ta tb)) σ):CW C (d+2) (.ref 317) [.ref i,va,vb] σ Q:=by
 refine z2L ?_
 refine z08 (G1.kin (by assumption)) ["self","ware","make"] [("is_ware",.ref 135),("is_make",.ref 142)] (by kernel_rfl) (vs3 λ_ _ _=>by kernel_rfl) rfl (z0a (z1K (by assumption)) (z0a (z2o (by assumption)) GL_nil)) ?_
 intro env hsc
 clear hsc
 obtain⟨dx,hin⟩:=S.inst
 have hk:=S.kept
 have q:Q (.bool (wareV ta&&(makeV tb&&inE es ta tb))) σ:=q
 refine z0n (z0x H) (z0A H) t_Shop_has rfl (by kernel_rfl) ?_
 intro F m0
 refine Leaf.mk (fnc (z3B H ha ?_))
 cases hw:wareV ta with
 |false=>rw[hw] at q;exact⟨σ,List.Sublist.refl _,q⟩
 |true=>
 refine Leaf.mk (fnc (z2G H hb ?_))
 rw[hw] at q
 cases hm:makeV tb with
 |false=>rw[hm] at q;exact⟨σ,List.Sublist.refl _,q⟩
 |true=>
 rw[hm] at q
 obtain⟨w,rfl,hw⟩:=z58 hw
 obtain⟨mk,rfl,h1,h2⟩:=z3q hm
 obtain rfl:=ha.strE
 obtain rfl:=hb.intE
 refine Leaf.mk (z1c hin ?_)
 refine Leaf.mk ⟨tyD hk,?_⟩
 intro b o hf
 refine Leaf.mk (z46 H S λc hc=> ?_)
 refine Leaf.mk (y0C H.ns hc (S.en w) ?_)
 exact⟨σ,List.sublist_cons_self _ _,q⟩
theorem z7h(H:G1 C){v t:V}{n:Nat}(h:Dn σ n v t)(hk:tkB t .dct=false)(e:EQ (.ref 128) σ):CE C (d+3) (.ref 166) [.ref i,v] σ Q EQ:=by
 refine z4g (G1.kin (by assumption)) ["shop","pick"] [("isinstance",.bi "isinstance"),("dict",.type "dict"),("all",.bi "all"),("BadPick",.ref 128)] (by kernel_rfl) (vs2 λ_ _=>by kernel_rfl) rfl (z0a (z0t (by assumption)) (z0a (z3x (by assumption)) (z0a (z6y (by assumption)) (z0a (z1J (by assumption)) GL_nil)))) ?_
 intro env hsc
 clear hsc
 refine z0k (z1Z ?_)
 show AB C env ["shop","pick"] _ true _ _ [some (.ref i),some v] σ _
 repeat' with_reducible first|refine z16 ?_|refine z2T ?_|refine z1l ?_|refine z09 ?_|refine z0d ?_|refine z0s ?_|refine z0i ?_|refine z0b ?_|refine z0c ?_|refine⟨z0q,?_⟩|fail
 refine y0l (k:= .dct) h ?_
 rw[hk]
 exact z0h ⟨λ_=>⟨λ_=>z1e (z02 H) e,λhb=>tf hb⟩,λhb=>tf hb⟩
noncomputable def hsV(es:Str->List (Int×List z0f))(p:Str×V):Bool:=z2b es (.str p.1) p.2
theorem z4e(H:G1 C)(S:Shp σ i k kv es){pa:Addr}{kvs:List (Str×V)}(hp:At σ pa (dS kvs))(hn:(kvs.map (·.1)).Nodup)(hl:kvs.length<=20)(hd:∀p∈kvs,Asc p.1/\Dn σ 0 p.2 p.2)
  (q:kvs.all (hsV es)=true->Q .none σ) (e:kvs.all (hsV es)=false->EQ (.ref 128) σ):CE C (d+3) (.ref 166) [.ref i,.ref pa] σ Q EQ:=by
 refine z4g (G1.kin (by assumption)) ["shop","pick"] [("isinstance",.bi "isinstance"),("dict",.type "dict"),("all",.bi "all"),("BadPick",.ref 128)] (by kernel_rfl) (vs2 λ_ _=>by kernel_rfl) rfl (z0a (z0t (by assumption)) (z0a (z3x (by assumption)) (z0a (z6y (by assumption)) (z0a (z1J (by assumption)) GL_nil)))) ?_
 intro env hsc
 obtain⟨o,hm⟩:=id hp
 obtain⟨dx,hin⟩:=S.inst
 refine z0k (z1Z ?_)
 show AB C env ["shop","pick"] _ true _ _ [some (.ref i),some (.ref pa)] σ _
 repeat' with_reducible first|refine z16 ?_|refine z2T ?_|refine z1l ?_|refine z09 ?_|refine z0d ?_|refine z0s ?_|refine z0i ?_|refine z0b ?_|refine z0c ?_|refine⟨z0q,?_⟩|fail
 refine z7g (t:= .dct) (.refD hm) ?_
 refine z0h ⟨λhb=>ff hb,λ_=> ?_⟩
 repeat' with_reducible first|refine z2T ?_|refine z1l ?_|refine z09 ?_|refine z0d ?_|refine z0s ?_|refine z0i ?_|refine z0b ?_|refine z0c ?_|refine⟨z0q,?_⟩|fail
 refine z0H "ware" ["shop","pick"] [] (by rw[hsc];kernel_rfl) GL_nil (.cons LkC.lk (.cons LkC.lk .nil)) (z6G (KK.str C.prog C.w) H.ns ?_)
 with_reducible refine z0d ?_
 refine⟨pa,o,kvs,rfl,hm,hn,z0y (by rw[List.length_map];exact Nat.le_trans hl (by decide)),λenv' he=>z4C (z0r he (by decide+kernel)) hm _ (kvs.map λp=> .bool (hsV es p)) _ _ (by rw[List.length_map,List.length_map]) (λj X Y hX hY K hK=> ?_) ?_⟩
 ·rw[List.getElem?_map] at hX hY
  apply z0X hX;intro p hpe
  rw[hpe] at hY
  have hY:V.bool (hsV es p)=Y:=Option.some.inj hY
  have hpm:=List.mem_of_getElem? hpe
  obtain⟨hA,hD⟩:=hd p hpm
  have hv:vAt kvs p.1=some p.2:=z0v hn hpm
  show AT C env' _ _ _ _ _ (some (V.str p.1)::_) _ _
  refine z21 (z3y H) ?_
  with_reducible refine z0d ?_
  refine z0S hin (by decide+kernel) ?_
  repeat' with_reducible first|refine z0d ?_|refine z0C ?_|refine z0b ?_|refine z0c ?_|fail
  refine z13 hp hn hv ?_
  with_reducible refine z0c ?_
  refine fnc (y04 H S (.str (n:=0) _ hA) hD ?_)
  rw[<-hY] at hK
  exact hK
 ·rw[List.nil_append,show(kvs.map λp=>V.bool (hsV es p))=(kvs.map (hsV es)).map V.bool by rw[List.map_map];rfl]
  repeat' with_reducible first|refine z0c ?_|fail
  refine z59 (.lst _) ?_
  rw[show(kvs.map (hsV es)).all id=kvs.all (hsV es) by rw[List.all_map];rfl]
  refine z0h ⟨λhb=>⟨λ_=>z1e (z02 H) (e ((Bool.not_eq_true' _).mp hb)),λhb=>tf hb⟩,λhb=>z36 ⟨λh=>ff h,λ_=>z0F (z0F (q ((Bool.not_eq_false' _).mp hb)))⟩⟩
end
end
section
section
variable {C:Cx} [HM C] [NF C] {d:Nat} {σ:Sto} {Q:V->Sto->Prop} {EQ:Value->Sto->Prop} {i k ro:Addr} {kv rv:List (Str×Addr)} {es:Str->List (Int×List z0f)}
theorem z2s{env:Env}{vars:List Str}{gl:List (Str×V)}{m:Loc}{P:V->Sto->Prop}{x:Str}{np p:Pos}{e:Expr}{rest:List Expr}{ad:Addr}[hx:GInC gl x (.ref ad)](hF:z0l C (.ref ad))(h:AL C env vars gl true d (spliced (backTo p (starEach (e::rest) env))) m σ λXs σ₂=>CE C d (.ref ad) Xs σ₂ P EQ)
  (he:autoParam (starEach (e::rest) env=(false,eval e env)::starEach rest env) auR) (hplain:autoParam ((backTo p (starEach rest env)).any (·.1)=false) auR):
  TE C env vars gl d (eval (.Call (.Name x np) (e::rest) [] p) env) m σ P EQ:=z9O hx.mem hF (y1t h) he hplain
theorem z3o(H:G1 C){x y:V}(h:CE C (d+5) (.ref 161) [x] σ (λ_ τ=>CE C (d+5) (.ref 166) [.ref i,y] τ (λ_ τ=>CW C (d+5) (.ref 173) [.ref i,x,y] τ Q) EQ) EQ):CE C (d+6) (.ref 192) [.ref i,x,y] σ Q EQ:=by
 refine z4g (G1.kin (by assumption)) ["shop","wish","pick"] [("need_wish",.ref 161),("need_pick",.ref 166),("agenda_of",.ref 173)] (by kernel_rfl) (vs3 λ_ _ _=>by kernel_rfl) rfl (z0a (z1P (by assumption)) (z0a (z29 (by assumption)) (z0a (z3a (by assumption)) GL_nil))) ?_
 intro env hsc
 clear hsc
 refine z0k (z2n (z2s (z1q H) ?_))
 show AL C env ["shop","wish","pick"] _ true _ _ [some (.ref i),some x,some y] _ _
 repeat' with_reducible first|refine z0d ?_|refine z0b ?_|refine z0c ?_|fail
 refine h.mono (λ_ τ h=> ?_) λ_ _ e=>e
 refine z0k (z2n (z2s (z1U H) ?_))
 show AL C env ["shop","wish","pick"] _ true _ _ [some (.ref i),some x,some y] _ _
 repeat' with_reducible first|refine z0d ?_|refine z0b ?_|refine z0c ?_|fail
 refine h.mono (λ_ τ h=> ?_) λ_ _ e=>e
 refine z0k (z1X (z1V ?_))
 show AT C env ["shop","wish","pick"] _ true _ _ [some (.ref i),some x,some y] _ _
 repeat' with_reducible first|refine z0d ?_|refine z0s ?_|refine z0i ?_|refine z0b ?_|refine z0c ?_|refine⟨z25 H,?_⟩|fail
 exact fnc h
theorem z3H(H:G1 C){x y:V}(h:CE C (d+5) (.ref 161) [x] σ (λ_ τ=>CE C (d+5) (.ref 166) [.ref i,y] τ (λ_ τ=>CW C (d+5) (.ref 185) [.ref i,x,y] τ Q) EQ) EQ):CE C (d+6) (.ref 199) [.ref i,x,y] σ Q EQ:=by
 refine z4g (G1.kin (by assumption)) ["shop","wish","pick"] [("need_wish",.ref 161),("need_pick",.ref 166),("meets_all",.ref 185)] (by kernel_rfl) (vs3 λ_ _ _=>by kernel_rfl) rfl (z0a (z1P (by assumption)) (z0a (z29 (by assumption)) (z0a (z4I (by assumption)) GL_nil))) ?_
 intro env hsc
 clear hsc
 refine z0k (z2n (z2s (z1q H) ?_))
 show AL C env ["shop","wish","pick"] _ true _ _ [some (.ref i),some x,some y] _ _
 repeat' with_reducible first|refine z0d ?_|refine z0b ?_|refine z0c ?_|fail
 refine h.mono (λ_ τ h=> ?_) λ_ _ e=>e
 refine z0k (z2n (z2s (z1U H) ?_))
 show AL C env ["shop","wish","pick"] _ true _ _ [some (.ref i),some x,some y] _ _
 repeat' with_reducible first|refine z0d ?_|refine z0b ?_|refine z0c ?_|fail
 refine h.mono (λ_ τ h=> ?_) λ_ _ e=>e
 refine z0k (z1X (z1V ?_))
 show AT C env ["shop","wish","pick"] _ true _ _ [some (.ref i),some x,some y] _ _
 repeat' with_reducible first|refine z0d ?_|refine z0s ?_|refine z0i ?_|refine z0b ?_|refine z0c ?_|refine⟨z2h H,?_⟩|fail
 exact fnc h
theorem y0p(H:G1 C){x:V}(h:CE C (d+5) (.ref 161) [x] σ (λ_ _=>False) EQ):CE C (d+6) (.ref 289) [.ref i,x] σ Q EQ:=by
 refine z4g (G1.kin (by assumption)) ["shop","wish","found","reason"] [("need_wish",.ref 161),("settled",.ref 282)] (by kernel_rfl) (vs2 λ_ _=>by kernel_rfl) rfl (z0a (z1P (by assumption)) (z0a (y0j (by assumption)) GL_nil)) ?_
 intro env hsc
 clear hsc
 refine z0k (z2n (z2s (z1q H) ?_))
 show AL C env ["shop","wish","found","reason"] _ true _ _ [some (.ref i),some x,none,none] _ _
 repeat' with_reducible first|refine z0d ?_|refine z0b ?_|refine z0c ?_|fail
 exact h.mono (λ_ τ h=>h.elim) λ_ _ e=>e
theorem z3X(H:G1 C){x y z:V}(h:CE C (d+9) (.ref 161) [x] σ (λ_ τ=>CE C (d+9) (.ref 220) [.ref i,y] τ (λG τ=>CW C (d+9) (.ref 251) [.ref i,x,G,z] τ Q) EQ) EQ):CE C (d+10) (.ref 258) [.ref i,x,y,z] σ Q EQ:=by
 refine z4g (G1.kin (by assumption)) ["shop","wish","pairs","thing"] [("need_wish",.ref 161),("holds_by",.ref 251),("granted_of",.ref 220)] (by kernel_rfl) (vs4 λ_ _ _ _=>by kernel_rfl) rfl (z0a (z1P (by assumption)) (z0a (z5H (by assumption)) (z0a (z6Q (by assumption)) GL_nil))) ?_
 intro env hsc
 clear hsc
 refine z0k (z2n (z2s (z1q H) ?_))
 show AL C env ["shop","wish","pairs","thing"] _ true _ _ [some (.ref i),some x,some y,some z] _ _
 repeat' with_reducible first|refine z0d ?_|refine z0b ?_|refine z0c ?_|fail
 refine h.mono (λ_ τ h=> ?_) λ_ _ e=>e
 refine z0k (z1X (z9O (GInC.mem (X:= .ref 251)) (z5Q H) (z43 (z1V ?_))))
 show AT C env ["shop","wish","pairs","thing"] _ true _ _ [some (.ref i),some x,some y,some z] _ _
 with_reducible refine z0d ?_
 refine z43 (z1V ?_)
 show AT C env ["shop","wish","pairs","thing"] _ true _ _ [some (.ref i),some x,some y,some z] _ _
 with_reducible refine z0d ?_
 refine z43 (z2s (z4h H) ?_)
 show AL C env ["shop","wish","pairs","thing"] _ true _ _ [some (.ref i),some x,some y,some z] _ _
 repeat' with_reducible first|refine z0d ?_|refine z0b ?_|refine z0c ?_|fail
 refine h.mono (λG τ h=> ?_) λ_ _ e=>e
 refine z43 (z1V ?_)
 show AT C env ["shop","wish","pairs","thing"] _ true _ _ [some (.ref i),some x,some y,some z] _ _
 with_reducible refine z0d ?_
 exact y3Y (y0N h)
noncomputable def Np(C:Cx)(d:Nat)(i:Addr)(x y:V)(EQ:Value->Sto->Prop)(σ:Sto)(K:Sto->Prop):Prop:=
 CE C d (.ref 166) [.ref i,y] σ (λ_ τ=>CW C d (.ref 185) [.ref i,x,y] τ λB τ=>∃b,B= .bool b/\(b=false->EQ (.ref 128) τ)/\(b=true->K τ)) EQ
theorem z1h(H:G1 C){x y z:V}(h:CE C (d+5) (.ref 161) [x] σ (λ_ τ=>Np C (d+5) i x y EQ τ λτ=>Np C (d+5) i x z EQ τ λτ=>∃p1 p2 w mk,y= .ref p1/\z= .ref p2/\At τ p1 (dS [(w,.int mk)])/\At τ p2 (dS [(w,.int mk)])/\CW C (d+5) (.ref 173) [.ref i,x,y] τ λL τ'=>L= .lst [.str w]/\τ'=τ/\Q (.bool false) τ) EQ):CE C (d+6) (.ref 206) [.ref i,x,y,z] σ Q EQ:=by
 refine z4g (G1.kin (by assumption)) ["shop","wish","one","other","pick","ware"] [("need_wish",.ref 161),("need_pick",.ref 166),("meets_all",.ref 185),("BadPick",.ref 128),("agenda_of",.ref 173)] (by kernel_rfl) (vs4 λ_ _ _ _=>by kernel_rfl) rfl (z0a (z1P (by assumption)) (z0a (z29 (by assumption)) (z0a (z4I (by assumption)) (z0a (z1J (by assumption)) (z0a (z3a (by assumption)) GL_nil))))) ?_
 intro env hsc
 clear hsc
 refine z0k (z2n (z2s (z1q H) ?_))
 show AL C env ["shop","wish","one","other","pick","ware"] _ true _ _ [some (.ref i),some x,some y,some z,none,none] _ _
 repeat' with_reducible first|refine z0d ?_|refine z0b ?_|refine z0c ?_|fail
 refine h.mono (λ_ τ h2=> ?_) λ_ _ e=>e
 clear h
 refine z0k (z7e (z5e ?_))
 show AT C env ["shop","wish","one","other","pick","ware"] _ true _ _ [some (.ref i),some x,some y,some z,none,none] _ _
 repeat' with_reducible first|refine z1a ?_|refine z0d ?_|refine z0b ?_|refine z0c ?_|fail
 refine⟨by with_unfolding_all exact Nat.le_of_ble_eq_true rfl,_,rfl,?_⟩
 show AA C env ["shop","wish","one","other","pick","ware"] _ true _ _ y [some (.ref i),some x,some y,some z,none,none] _ _
 with_reducible refine z0w PutC.put ?_
 refine z0k (z2n (z2s (z1U H) ?_))
 show AL C env ["shop","wish","one","other","pick","ware"] _ true _ _ [some (.ref i),some x,some y,some z,some y,none] _ _
 repeat' with_reducible first|refine z0d ?_|refine z0b ?_|refine z0c ?_|fail
 refine CE.mono h2 (λ_ τ h=> ?_) λ_ _ e=>e
 refine z0k (z1Z ?_)
 show AB C env ["shop","wish","one","other","pick","ware"] _ true _ _ [some (.ref i),some x,some y,some z,some y,none] _ _
 repeat' with_reducible first|refine z1l ?_|refine z09 ?_|refine z0d ?_|refine z0s ?_|refine z0i ?_|refine z0b ?_|refine z0c ?_|refine⟨z2h H,?_⟩|fail
 refine KW.mono (fnc h) (λB τ hb=> ?_)
 obtain⟨b,rfl,hf,h3⟩:=hb
 refine z0h ⟨λhb=>z1e (z02 H) (hf ((Bool.not_eq_true' _).mp hb)),λhb=>z0F (z0F ⟨trivial,?_⟩)⟩
 have h3:=h3 ((Bool.not_eq_false' _).mp hb)
 clear hf hb h h2
 show AA C env ["shop","wish","one","other","pick","ware"] _ true _ _ z [some (.ref i),some x,some y,some z,some y,none] _ _
 with_reducible refine z0w PutC.put ?_
 refine z0k (z2n (z2s (z1U H) ?_))
 show AL C env ["shop","wish","one","other","pick","ware"] _ true _ _ [some (.ref i),some x,some y,some z,some z,none] _ _
 repeat' with_reducible first|refine z0d ?_|refine z0b ?_|refine z0c ?_|fail
 refine CE.mono h3 (λ_ τ h=> ?_) λ_ _ e=>e
 refine z0k (z1Z ?_)
 show AB C env ["shop","wish","one","other","pick","ware"] _ true _ _ [some (.ref i),some x,some y,some z,some z,none] _ _
 repeat' with_reducible first|refine z1l ?_|refine z09 ?_|refine z0d ?_|refine z0s ?_|refine z0i ?_|refine z0b ?_|refine z0c ?_|refine⟨z2h H,?_⟩|fail
 refine KW.mono (fnc h) (λB τ hb=> ?_)
 obtain⟨b,rfl,hf,h4⟩:=hb
 refine z0h ⟨λhb=>z1e (z02 H) (hf ((Bool.not_eq_true' _).mp hb)),λhb=>z0F (z0F ⟨trivial,?_⟩)⟩
 have h4:=h4 ((Bool.not_eq_false' _).mp hb)
 clear hf hb h h3
 obtain⟨p1,p2,w,mk,rfl,rfl,a1,a2,h⟩:=h4
 refine z0k (z7e (z0W ?_))
 show AT C env ["shop","wish","one","other","pick","ware"] _ true _ _ [some (.ref i),some x,some (.ref p1),some (.ref p2),some (.ref p2),none] _ _
 repeat' with_reducible first|refine z0d ?_|refine z0s ?_|refine z0i ?_|refine z0b ?_|refine z0c ?_|refine⟨z25 H,?_⟩|fail
 refine KW.mono (fnc h) (λL τ' hq=> ?_)
 obtain⟨rfl,rfl,q⟩:=hq
 refine⟨_,_,.lst _,?_⟩
 show AA C env ["shop","wish","one","other","pick","ware"] _ true _ _ (.str w) [some (.ref i),some x,some (.ref p1),some (.ref p2),some (.ref p2),none] _ _
 with_reducible refine z0w PutC.put ?_
 refine z0k (z1Z ?_)
 show AB C env ["shop","wish","one","other","pick","ware"] _ true _ _ [some (.ref i),some x,some (.ref p1),some (.ref p2),some (.ref p2),some (.str w)] _ _
 repeat' with_reducible first|refine z0L ?_|refine z0d ?_|refine z0C ?_|fail
 have hn:(([(w,V.int mk)]:List (Str×V)).map (·.1)).Nodup:=List.nodup_cons.mpr ⟨List.not_mem_nil,List.nodup_nil⟩
 have hv:vAt [(w,V.int mk)] w=some (.int mk):=z0v hn (.head _)
 refine z13 a1 hn hv ?_
 repeat' with_reducible first|refine z0d ?_|refine z0C ?_|fail
 refine z13 a2 hn hv ?_
 refine y3d (z0h ⟨λhb=> ?_,λ_=>z0F (z0F ⟨trivial,?_⟩)⟩)
 ·rw[decide_eq_true rfl] at hb;exact ff hb
 refine z0k (z1X (z1V (z6F ?_)))
 exact q
end
end
section
section
variable {C:Cx} [HM C] [NF C] {d:Nat} {σ:Sto} {Q:V->Sto->Prop} {EQ:Value->Sto->Prop} {i k ro:Addr} {kv rv:List (Str×Addr)} {es:Str->List (Int×List z0f)}
theorem z87{f:Value}{xs:List V}(h:CE C d f xs σ (λx σ'=>∃τ,τ.Sublist σ'/\Q x τ) λc σ'=>∃τ,τ.Sublist σ'/\EQ c τ):CE C d f xs σ Q EQ:=λA G D s vs l hA F R hv=>codeAny_mono (h A G D s vs l hA F R hv) λr s' q=>by
 cases r with
 |error e=>obtain⟨c,σ',⟨τ,hs,hq⟩,f⟩:=q;exact⟨c,τ,hq,f.drop hs⟩
 |ok fl=>
  cases fl with
  |ret v=>obtain⟨x,D',σ',a,b,c,τ,hs,hq⟩:=q;exact⟨x,D',τ,a,b,c.drop hs,hq⟩
  |_=>exact q
noncomputable def pairP:V->Option (Str×Int)
 | .tup [.str w,.int m]=>some (w,m)
 |_=>none
noncomputable def grO(es:Str->List (Int×List z0f)):List (Str×Int)->List V->Option (List (Str×Int))
 |done,[]=>some done
 |done,T::Ts=>match pairP T with
  |none=>none
  |some p=>match z2b es (.str p.1) (.int p.2)&& !(vAt (pkV done) p.1).isSome with
   |true=>grO es (done++[p]) Ts
   |false=>none
theorem y01{t:V}(h:tkB t .tup=false):pairP t=none:=by cases t<;>first|rfl|exact tf h
theorem z9T{l:List V}(h:l.length≠2):pairP (.tup l)=none:=by
 rcases l with _|⟨a,_|⟨b,_|⟨c,l⟩⟩⟩<;>first|rfl|exact absurd rfl h|(cases a<;>first|rfl|(cases b<;>rfl))
theorem z1Q{done:List (Str×Int)}{T:V}{Ts:List V}(h:pairP T=none):grO es done (T::Ts)=none:=by
 show(match pairP T with|none=>none|some p=>_)=none
 rw[h]
theorem z7z{done:List (Str×Int)}{a b:V}{Ts:List V}(h:z2b es a b=false):grO es done (.tup [a,b]::Ts)=none:=by
 cases e:pairP (.tup [a,b]) with
 |none=>exact z1Q e
 |some p=>
  obtain⟨w,m,rfl,rfl⟩:∃w m,a= .str w/\b= .int m:=by
   cases a<;>first|(cases e;done)|(cases b<;>first|(cases e;done)|exact⟨_,_,rfl,rfl⟩)
  show(match z2b es (.str w) (.int m)&& !(vAt (pkV done) w).isSome with|true=>grO es (done++[(w,m)]) Ts|false=>none)=none
  rw[h];rfl
theorem y2p{done:List (Str×Int)}{w:Str}{m:Int}{Ts:List V}(h:z2b es (.str w) (.int m)=true):grO es done (.tup [.str w,.int m]::Ts)=match !(vAt (pkV done) w).isSome with|true=>grO es (done++[(w,m)]) Ts|false=>none:=by
 show(match z2b es (.str w) (.int m)&& !(vAt (pkV done) w).isSome with|true=>grO es (done++[(w,m)]) Ts|false=>none)=_
 rw[h,Bool.true_and]
theorem z8Z(H:G1 C){v t:V}{n:Nat}(h:Dn σ n v t)(hk:tkB t .lst=false)(e:EQ (.ref 128) σ):CE C (d+3) (.ref 220) [.ref i,v] σ Q EQ:=by
 refine z4g (G1.kin (by assumption)) ["shop","pairs","found","pair"] [("isinstance",.bi "isinstance"),("list",.type "list"),("BadPick",.ref 128),("tuple",.type "tuple"),("len",.bi "len")] (by kernel_rfl) (vs2 λ_ _=>by kernel_rfl) rfl (z0a (z0t (by assumption)) (z0a (z03 (by assumption)) (z0a (z1J (by assumption)) (z0a (z12 (by assumption)) (z0a (z00 (by assumption)) GL_nil))))) ?_
 intro env hsc
 clear hsc
 refine z0k (z1Z ?_)
 show AB C env ["shop","pairs","found","pair"] _ true _ _ [some (.ref i),some v,none,none] σ _
 repeat' with_reducible first|refine z1l ?_|refine z09 ?_|refine z0d ?_|refine z0s ?_|refine z0i ?_|refine z0b ?_|refine z0c ?_|refine⟨z0q,?_⟩|fail
 refine y0l (k:= .lst) h ?_
 rw[hk]
 exact z0h ⟨λ_=>z1e (z02 H) e,λhb=>tf hb⟩
inductive GrI(a0 a1:V)(a:Addr)(es:Str->List (Int×List z0f))(ts:List V)(σ:Sto)(j:Nat):Loc->Sto->Prop
 |mk {o:Obj} {v:Option V} {done:List (Str×Int)}:grO es done (ts.drop j)=grO es [] ts->(done.map (·.1)).Nodup->done.length<=j->GrI a0 a1 a es ts σ j [some a0,some a1,some (.ref a),v] ((a,o,dS (pkV done))::σ)
theorem z5j(H:G1 C)(S:Shp σ i k kv es){v:V}{xs ts:List V}{P:Sto->Prop}{n:Nat}(hH:Has σ v (.list xs) P)(hl:xs.length=ts.length)(h200:xs.length<=200)(hd:∀(j:Nat) X Y,xs[j]? =some X->ts[j]? =some Y->Dn σ n X Y)
  (q:∀b o pk,grO es [] ts=some pk->Q (.ref b) ((b,o,dS (pkV pk))::σ)) (e:grO es [] ts=none->EQ (.ref 128) σ):CE C (d+3) (.ref 220) [.ref i,v] σ Q EQ:=by
 refine z87 ?_
 refine z4g (G1.kin (by assumption)) ["shop","pairs","found","pair"] [("isinstance",.bi "isinstance"),("list",.type "list"),("BadPick",.ref 128),("tuple",.type "tuple"),("len",.bi "len")] (by kernel_rfl) (vs2 λ_ _=>by kernel_rfl) rfl (z0a (z0t (by assumption)) (z0a (z03 (by assumption)) (z0a (z1J (by assumption)) (z0a (z12 (by assumption)) (z0a (z00 (by assumption)) GL_nil))))) ?_
 intro env hsc
 clear hsc
 obtain⟨dx,hin⟩:=S.inst
 show SE C env ["shop","pairs","found","pair"] _ _ _ [some (.ref i),some v,none,none] _ _ _
 refine z0k (z1Z ?_)
 repeat' with_reducible first|refine z1l ?_|refine z09 ?_|refine z0d ?_|refine z0s ?_|refine z0i ?_|refine z0b ?_|refine z0c ?_|refine⟨z0q,?_⟩|fail
 refine z8L (t:= .lst) hH ?_
 refine z0h ⟨λhb=>ff hb,λ_=>z0F ?_⟩
 refine z0k (z2u (z5x λa o hf=> ?_))
 with_reducible refine z2A ?_
 refine z0k (z41 (GrI (.ref i) v a es ts σ) (z0W ?_))
 with_reducible refine z0d ?_
 refine⟨_,_,hH.mono λp h=> .tail _ h,.mk (done:=[]) rfl List.nodup_nil (Nat.le_refl _),λj X hX m τ hI QB hQB _=> ?_,λm τ hI=> ?_⟩
 ·refine hI.casesOn @λo v4 done hg hn hdl=> ?_
  clear hI q
  obtain⟨T,hT⟩:=y09 hl.symm hX
  have hD:=hd j X T hX hT
  have hdr:ts.drop j=T::ts.drop (j+1):=by
   obtain⟨h1,h2⟩:=List.getElem?_eq_some_iff.mp hT
   rw[List.drop_eq_getElem_cons h1,h2]
  rw[hdr] at hg
  have hpn:((pkV done).map (·.1)).Nodup:=by rw[z0B];exact hn
  have hj2:j<200:=Nat.lt_of_lt_of_le (List.getElem?_eq_some_iff.mp hX).1 h200
  have hpz:(pkV done).length<=sizeLine:=z0M (Nat.le_trans hdl (Nat.le_of_lt hj2)) (by decide)
  have hbad:grO es done (T::ts.drop (j+1))=none->∃τ',τ'.Sublist ((a,o,dS (pkV done))::σ)/\EQ (.ref 128) τ':=λh=>⟨σ,List.sublist_cons_self _ _,e (hg▸h)⟩
  have hD':∀{n:Nat} {x y:V},Dn σ n x y->Dn ((a,o,dS (pkV done))::σ) n x y:=λh=>h.mono λ_ _ h=>h.cons _
  with_reducible refine z0w PutC.put ?_
  clear hd e hdr hX hT
  cases hk:tkB T .tup with
  |false=>
   refine z0k (z1Z ?_)
   repeat' with_reducible first|refine z16 ?_|refine z2T ?_|refine z1l ?_|refine z09 ?_|refine z0d ?_|refine z0s ?_|refine z0i ?_|refine z0b ?_|refine z0c ?_|refine⟨z0q,?_⟩|fail
   refine y0l (k:= .tup) (hD' hD) ?_
   rw[hk]
   exact z0h ⟨λ_=>⟨λ_=>z1e (z02 H) (hbad (z1Q (y01 hk))),λhb=>tf hb⟩,λhb=>tf hb⟩
  |true=>
   obtain⟨m2,us,zs,_,rfl,rfl,hl2,h2002,hd2⟩:=hD.tupI hk
   clear hD hk
   refine z0k (z1Z ?_)
   repeat' with_reducible first|refine z16 ?_|refine z2T ?_|refine z1l ?_|refine z09 ?_|refine z0d ?_|refine z0s ?_|refine z0i ?_|refine z0b ?_|refine z0c ?_|refine⟨z0q,?_⟩|fail
   refine y2b (t:= .tup) (z0h ⟨λhb=>ff hb,λ_=> ?_⟩)
   repeat' with_reducible first|refine z2T ?_|refine z0L ?_|refine z0d ?_|refine z0s ?_|refine z0p ?_|refine z0i ?_|refine z0b ?_|refine z0c ?_|refine⟨z0q,?_⟩|fail
   refine y1D (Nat.le_trans h2002 (by decide)) ?_
   with_reducible refine z0p ?_
   refine y3d (z0h ⟨λhb=>⟨λ_=>z1e (z02 H) (hbad (z1Q (z9T λh2=> ?_))),λhb=>tf hb⟩,λhb=> ?_⟩)
   ·rw[decide_eq_true (by rw[hl2,h2];rfl)] at hb;exact ff hb
   have h2:us.length=2:=by have:=of_decide_eq_true ((Bool.not_eq_false' _).mp hb);lia
   obtain⟨x,y,rfl⟩:=z9K h2
   obtain⟨X',Y',rfl⟩:=z9K (hl2▸h2)
   have d0:=hd2 0 _ _ rfl rfl
   have d1:=hd2 1 _ _ rfl rfl
   clear hb h2 hl2 h2002 hd2
   with_reducible refine z2T (z1l (z09 ?_))
   refine z21 (z3y H) ?_
   with_reducible refine z0d ?_
   refine z0S (hin.cons _) (by decide+kernel) ?_
   repeat' with_reducible first|refine z0d ?_|refine z0p ?_|refine z0C ?_|refine z0b ?_|refine z0c ?_|refine z3Q (by with_unfolding_all decide) (by with_unfolding_all decide) (by with_unfolding_all exact rfl) ?_|fail
   refine fnc (y04 H (S.frame λ_ _ _ h=>h.cons _) (hD' d0) (hD' d1) ?_)
   cases hh:z2b es X' Y' with
   |false=>exact z0h ⟨λ_=>⟨λ_=>z1e (z02 H) (hbad (z7z hh)),λhb=>tf hb⟩,λhb=>tf hb⟩
   |true=>
   refine z0h ⟨λhb=>ff hb,λ_=> ?_⟩
   obtain⟨w,mk,rfl,rfl,hw,h1,h2,_⟩:=y2D hh
   obtain rfl:=d0.strE
   obtain rfl:=d1.intE
   rw[y2p hh] at hbad hg
   repeat' with_reducible first|refine z2T ?_|refine z0L ?_|refine z0d ?_|refine z0p ?_|refine z0C ?_|refine z3Q (by with_unfolding_all decide) (by with_unfolding_all decide) (by with_unfolding_all exact rfl) ?_|fail
   refine z2O H.ns At.hd hpn ?_
   cases hv:(vAt (pkV done) w).isSome with
   |true=>
    rw[hv] at hbad
    exact z0h ⟨λ_=>⟨λ_=>z1e (z02 H) (hbad rfl),λhb=>tf hb⟩,λhb=>tf hb⟩
   |false=>
    rw[hv] at hg
    have hnew:w∉done.map (·.1):=λhm=>by
     apply z0o (P:=λy=>y=w->False) hm (λp hp e=> ?_) rfl
     rw[z0v hpn (List.mem_map.mpr ⟨p,hp,by rw[e]⟩)] at hv;exact tf hv
    refine z0h ⟨λhb=>ff hb,λ_=>z36 ⟨λh=>ff h,λ_=>z0F ?_⟩⟩
    refine z0k (z2u (z8u ?_))
    repeat' with_reducible first|refine z0d ?_|refine z0p ?_|refine z0C ?_|refine z3Q (by with_unfolding_all decide) (by with_unfolding_all decide) (by with_unfolding_all exact rfl) ?_|fail
    refine z47 hpn hpz λo'=> ?_
    rw[z1W (by rw[z0B];exact hnew),show pkV done++[(w,V.int mk)]=pkV (done++[(w,mk)]) from Eq.symm List.map_append]
    exact z0F (hQB _ _ (hH.mono λp h=> .tail _ h).p (.mk hg (by rw[List.map_append];exact z0Y hn hnew) (by rw[List.length_append];exact Nat.succ_le_succ hdl)))
 ·refine hI.casesOn @λo v4 done hg hn hdl=> ?_
  rw[hl,List.drop_length] at hg
  refine z0k (z1X (z1V ?_))
  with_reducible refine z0d ?_
  exact⟨_,List.Sublist.refl _,q _ _ _ hg.symm⟩
end
end
section
section
variable {C:Cx} [HM C] [NF C] {d:Nat} {σ:Sto} {Q:V->Sto->Prop} {EQ:Value->Sto->Prop} {i k ro:Addr} {kv rv:List (Str×Addr)} {es:Str->List (Int×List z0f)} {w:Str}
noncomputable def z4p(es:Str->List (Int×List z0f))(w:Str):List Int:=(z10 ((es w).map (·.1))).reverse
noncomputable def z3K(st:List (Int×Int))(m:Int):Bool:=st.all λp=>decide (p.1<=m)&&decide (m<=p.2)
noncomputable def lfF(es:Str->List (Int×List z0f))(w:Str)(st:List (Int×Int)):List Int:=(z4p es w).filter (z3K st)
theorem Shp.c1(S:Shp σ i k kv es)(p:Addr×Obj×AO):Shp (p::σ) i k kv es:=S.frame λ_ _ _ h=>h.cons _
theorem z9L{mk:Int}:∀{ss:List (Int×Int)} {ys:List V},F2 (λ(p:V×V) Y=>∀lo hi,p=(V.int lo,V.int hi)->Y= .bool (decide (lo<=mk)&&decide (mk<=hi))) (ss.map λp=>(V.int p.1,V.int p.2)) ys->ys=(ss.map λp=>decide (p.1<=mk)&&decide (mk<=p.2)).map V.bool
 |[],_,h=>by cases h;rfl
 |p::ss,_,h=>by
  cases h with
  |cons a b=>rw[a p.1 p.2 rfl,z9L b];rfl
theorem z9Z{env:Env}{vars:List Str}{gl:List (Str×V)}{own:Bool}{m:Loc}{elt tgt iter:Expr}{ifs:List Expr}{scope:Scope}{pos:Pos}{ms:Loc}(x y:Str)(caps:List Str)(gl':List (Str×V))
  (hok:z2c scope env.scope vars [x,y] caps (gl'.map (·.1))=true) (hgl:∀p∈gl',z0j C p.1 p.2) (hcaps:Caps vars m caps ms)
  (h:AI C env vars gl own d iter tgt m σ λxs Pp σ₁=>xs.length<=sizeLine/\∀env',env'.scope=relabel scope env->
   z04 C env' (x::y::caps) gl' d tgt elt ifs Pp (λys σ₂=>Q (.lst ys) σ₂) xs [] (none::none::ms) σ₁)
  (hs:autoParam (∀x,foldedSetIterable iter env x=pure x) auF):
  AT C env vars gl own d (eval (.ListComp elt [⟨tgt,iter,ifs,0⟩] scope pos) env) m σ Q:=z8v [x,y] caps gl' hok hgl hcaps h hs
noncomputable def z57(r1:Expr):TC:=⟨[.asgL 3,.loc 0,.mI 355 "makes",.loc 1,.meth (.ref 338) 1,.forV 4 [.raw r1,.call (.bi "all") 1,.tvalc,.ife [.loc 3,.mty "list",.loc 4,.meth (.bi "list.append") 1,.pop] []],.loc 3,.ret],[.inr r1],[([1,0,0],some [1])]⟩
--z57 1
noncomputable def t_is_number:TC:=⟨[.loc 0,.isi .int,.vop .And [.loc 0,.isi .bool,.una .Not,.vop .And [.psh (.int 0),.loc 0,.cm2 .LtE [.loc 1,.cmpc .Lt]]],.ret],[],[]⟩
--t_is_number 0
noncomputable def t_stretch_of:TC:=⟨[.loc 4,.isi .tup,.tvalc,.not,.mop .Or [.loc 4,.len,.psh (.int 0),.tcmpc .Eq,.mop .Or [.loc 4,.subT 0,.isi .str,.tvalc,.not,.mop .Or [.psh (.bool false)]]],.ife [.psh .none,.ret] [],.psh .none,.asg 5,.loc 4,.subT 0,.psh (.str "wish"),.tcmpc .Eq,.mop .And [.loc 4,.len,.psh (.int 2),.tcmpc .Eq,.mop .And [.loc 4,.subT 1,.loc 1,.len,.call (.ref 213) 2,.tvalc,.mop .And [.psh (.bool true)]]],.ife [.loc 1,.loc 4,.subT 1,.sub,.asg 5] [],.loc 4,.subT 0,.psh (.str "pick"),.tcmpc .Eq,.mop .And [.loc 4,.len,.psh (.int 3),.tcmpc .Eq,.mop .And [.loc 2,.loc 4,.subT 1,.loc 4,.subT 2,.call (.ref 227) 3,.tvalc,.mop .And [.psh (.bool true)]]],.ife [.loc 4,.subT 1,.loc 4,.subT 2,.loc 4,.subT 2,.tup 3,.asg 5] [],.loc 4,.subT 0,.psh (.str "need"),.tcmpc .Eq,.mop .And [.loc 4,.len,.psh (.int 4),.tcmpc .Eq,.mop .And [.loc 2,.loc 4,.subT 1,.loc 4,.subT 2,.call (.ref 227) 3,.tvalc,.mop .And [.psh (.bool true)]]],.ife [.loc 0,.mI 355 "needs",.loc 4,.subT 1,.loc 4,.subT 2,.meth (.ref 345) 2,.asg 6,.loc 4,.subT 3,.loc 6,.len,.call (.ref 213) 2,.tvalc,.ife [.loc 6,.loc 4,.subT 3,.sub,.asg 5] []] [],.loc 5,.psh .none,.tcmpc .Is,.mop .Or [.loc 5,.subT 0,.loc 3,.tcmpc .NotEq,.mop .Or [.psh (.bool false)]],.ife [.psh .none,.ret] [],.loc 5,.subT 1,.loc 5,.subT 2,.tup 2,.ret],[],[]⟩
--t_stretch_of 0
noncomputable def z5M(r1:Stmt)(r2:Stmt):TC:=⟨[.loc 3,.isi .tup,.tvalc,.not,.mop .Or [.loc 3,.len,.psh (.int 3),.tcmpc .NotEq,.mop .Or [.loc 3,.subT 0,.call (.ref 135) 1,.tvalc,.not,.mop .Or [.psh (.bool false)]]],.ife [.psh (.bool false),.ret] [],.loc 3,.subT 1,.isi .lst,.tvalc,.not,.mop .Or [.loc 3,.subT 1,.len,.psh (.int 0),.tcmpc .Eq,.mop .Or [.psh (.bool false)]],.ife [.psh (.bool false),.ret] [],.rawS r1,.psh .none,.loc 4,.tcmpc .In,.ife [.psh (.bool false),.ret] [],.loc 0,.loc 3,.subT 0,.loc 4,.call (.ref 239) 3,.asg 5,.loc 3,.subT 0,.loc 2,.tcmpc .In,.mop .And [.loc 5,.len,.psh (.int 0),.tcmpc .Gt,.mop .And [.psh (.bool true)]],.mop .Or [.loc 3,.subT 2,.loc 5,.call (.ref 246) 2,.tvalc,.not,.mop .Or [.psh (.bool false)]],.ife [.psh (.bool false),.ret] [],.rawS r2,.psh (.bool true),.ret],[.inl r1,.inl r2],[([2],none),([6],none)]⟩
--z5M 2
inductive LbI(a0 a1 a2:V)(fa:Addr)(l:List Int)(t:Int->Bool)(σ:Sto)(j:Nat):Loc->Sto->Prop
 |mk {o:Obj} {v:Option V}:LbI a0 a1 a2 fa l t σ j [some a0,some a1,some a2,some (.ref fa),v] ((fa,o,.list (((l.take j).filter t).map V.int))::σ)
theorem y2R{l:List Int}{t:Int->Bool}{j:Nat}{mk:Int}(h:l[j]? =some mk):(l.take (j+1)).filter t=if t mk then(l.take j).filter t++[mk] else(l.take j).filter t:=by
 rw[z2i h,List.filter_append]
 cases e:t mk<;>simp[e]
theorem z9S(H:G1 C)(S:Shp σ i k kv es)(hw:Ware w){ss:List (Int×Int)}(hl:ss.length<=200)(q:Q (.lst ((lfF es w ss).map V.int)) σ):
  CW C (d+3) (.ref 239) [.ref i,.str w,.lst (ss.map λp=> .tup [.int p.1,.int p.2])] σ Q:=by
 refine z2v (z2L ?_)
 refine z08 (G1.kin (by assumption)) ["shop","ware","stretches","found","make"] [("reversed",.type "reversed"),("all",.bi "all")] (by kernel_rfl) (vs3 λ_ _ _=>by kernel_rfl) rfl (z0a (z8T (by assumption)) (z0a (z6y (by assumption)) GL_nil)) ?_
 intro env hsc
 obtain⟨dx,hin⟩:=S.inst
 have h8:=(S.eok w).2.1
 have hsl:(z4p es w).length=(es w).length:=by unfold z4p;rw[List.length_reverse,(z1n _).length_eq,List.length_map]
 refine z0n (z0x H) (z0A H) (z57 _) (by exact rfl) (by kernel_rfl) ?_
 intro F m0 fa ofa hff
 refine Leaf.mk (z0S (hin.cons _) (by decide+kernel) ?_)
 refine Leaf.mk (fnc (z9j H (S.c1 _) hw (.inl ?_)))
 refine Leaf.mk (.mk _ _ (LbI (.ref i) (.str w) (.lst (ss.map λp=> .tup [.int p.1,.int p.2])) fa (z4p es w) (z3K ss) σ) (.lst _) .mk (λj X hX m τ hI QB hQB _=> ?_) λm τ hI=> ?_)
 ·clear q
  rw[<-List.map_reverse,List.getElem?_map] at hX
  obtain⟨mk,hmk,rfl⟩:=Option.map_eq_some_iff.mp hX
  have hmk:(z4p es w)[j]? =some mk:=hmk
  have hj:=(List.getElem?_eq_some_iff.mp hmk).1
  have hnx:=y2R (t:=z3K ss) hmk
  refine hI.casesOn @λo v=> ?_
  have hgl:((((z4p es w).take j).filter (z3K ss)).map V.int).length<=sizeLine:=z0y (by
   rw[List.length_map]
   exact Nat.le_trans (List.length_filter_le _ _) (Nat.le_trans (List.length_take_le _ _) (Nat.le_trans (Nat.le_of_lt hj) (by rw[hsl];exact Nat.le_trans h8 (by decide)))))
  refine Leaf.mk ?_
  show AT C env ["shop","ware","stretches","found","make"] _ true _ (eval _ env) [some (.ref i),some (.str w),some (.lst (ss.map λp=> .tup [.int p.1,.int p.2])),some (.ref fa),some (.int mk)] _ _
  refine z9Z "low" "high" ["make"] [("within",.ref 156)] (by rw[hsc];kernel_rfl) (z0a (z8t H) GL_nil) (.cons LkC.lk .nil) (z0W ?_)
  with_reducible refine z0d ?_
  refine⟨_,_,.lst _,z0M hl (by decide),λenv' he=> ?_⟩
  have hss:(ss.map λp=>V.tup [.int p.1,.int p.2])=(ss.map λp=>(V.int p.1,V.int p.2)).map λp=>V.tup [p.1,p.2]:=by rw[List.map_map];rfl
  rw[hss]
  refine z8R (Gd:=λp Y=>∀lo hi,p=(V.int lo,V.int hi)->Y= .bool (decide (lo<=mk)&&decide (mk<=hi))) (z0r he (by decide+kernel)) (z0r he (by decide+kernel)) trivial _ _ _ _ (λp hp K hK=> ?_) λys hys=> ?_
  ·obtain⟨⟨lo,hi⟩,hm,rfl⟩:=List.mem_map.mp hp
   repeat' with_reducible first|refine z0d ?_|refine z0s ?_|refine z0i ?_|refine z0b ?_|refine z0c ?_|refine⟨z7K (by assumption),?_⟩|fail
   refine fnc (z8f H ?_)
   exact hK _ λlo' hi' e=>by cases e;rfl
  obtain rfl:ys=(ss.map λp=>decide (p.1<=mk)&&decide (mk<=p.2)).map V.bool:=z9L hys
  rw[List.nil_append,<-hss]
  refine Leaf.mk (z59 (.lst _) ?_)
  rw[show((ss.map λp=>decide (p.1<=mk)&&decide (mk<=p.2)).all id)=z3K ss mk by rw[List.all_map];rfl]
  refine z0T (λhb=> ?_) λhb=> ?_
  ·rw[if_pos hb] at hnx
   refine Leaf.mk ⟨tyL At.hd,?_⟩
   refine Leaf.mk (z3E hgl λo'=> ?_)
   refine hQB _ _ trivial ?_
   have hm:LbI (.ref i) (.str w) (.lst (ss.map λp=> .tup [.int p.1,.int p.2])) fa (z4p es w) (z3K ss) σ (j+1) _ ((fa,o',.list ((((z4p es w).take (j+1)).filter (z3K ss)).map V.int))::σ):= .mk (v:=some (.int mk))
   rw[hnx,List.map_append] at hm
   exact hm
  ·rw[hb,if_neg Bool.false_ne_true] at hnx
   refine hQB _ _ trivial ?_
   have hm:LbI (.ref i) (.str w) (.lst (ss.map λp=> .tup [.int p.1,.int p.2])) fa (z4p es w) (z3K ss) σ (j+1) _ ((fa,o,.list ((((z4p es w).take (j+1)).filter (z3K ss)).map V.int))::σ):= .mk (v:=some (.int mk))
   rw[hnx] at hm
   exact hm
 ·refine hI.casesOn @λo v=> ?_
  refine⟨_,List.Sublist.refl _,fa,o,_,σ,rfl,rfl,?_⟩
  rw[show(((z10 ((es w).map (·.1))).map V.int).reverse).length=(z4p es w).length by unfold z4p;rw[List.length_reverse,List.length_reverse,List.length_map],List.take_length]
  exact q
theorem z52(H:G1 C)(q:Q (.bool true) σ):CW C (d+1) (.ref 213) [.int 0,.int 1] σ Q:=by
 refine z08 (G1.kin (by assumption)) ["thing","many"] [("isinstance",.bi "isinstance"),("int",.type "int"),("bool",.type "bool")] (by kernel_rfl) (vs2 λ_ _=>by kernel_rfl) rfl (z0a (z0t (by assumption)) (z0a (y1V (by assumption)) (z0a (y1k (by assumption)) GL_nil))) ?_
 intro env hsc
 clear hsc
 refine z0n (z0x H) (z0A H) t_is_number rfl (by kernel_rfl) ?_
 intro F m0
 exact⟨z30 z2j q⟩
noncomputable def srcW:V:= .tup [.str "wish",.int 0]
theorem z5m(H:G1 C){n:z0f}{g:V}(q:n.1=w->Q (.tup [.int n.2.1,.int n.2.2]) σ)(q':n.1≠w->Q .none σ):CW C (d+2) (.ref 234) [.ref i,.lst [z0m n],g,.str w,srcW] σ Q:=by
 refine z08 (G1.kin (by assumption)) ["shop","wish","granted","ware","source","need","needs"] [("isinstance",.bi "isinstance"),("tuple",.type "tuple"),("len",.bi "len"),("str",.type "str"),("is_number",.ref 213),("is_granted",.ref 227)] (by kernel_rfl) (vs5 λ_ _ _ _ _=>by kernel_rfl) rfl (z0a (z0t (by assumption)) (z0a (z12 (by assumption)) (z0a (z00 (by assumption)) (z0a (y2c (by assumption)) (z0a (z8g (by assumption)) (z0a (z68 (by assumption)) GL_nil)))))) ?_
 intro env hsc
 clear hsc
 refine z0n (z0x H) (z0A H) t_stretch_of rfl (by kernel_rfl) ?_
 intro F m0
 refine Leaf.mk (z1o (n:=1) (.lst _) rfl (by with_unfolding_all exact Nat.le_of_ble_eq_true rfl) ?_)
 refine Leaf.mk (fnc (z52 H ?_))
 refine Leaf.mk (z01 (i:=0) (.lst _) (by decide) rfl ?_)
 refine z0T (λh=> ?_) λh=> ?_
 ·exact q' λe=>by rw[e] at h;simp at h
 ·exact q (by simpa using h)
theorem ware_a:Ware "a":=z5t (by decide+kernel)
theorem z8w(H:G1 C)(S:Shp σ i k kv es)(hw:Ware w){mk:Int}{ns:List z0f}(hm:(mk,ns)∈es w){ga:Addr}(hg:At σ ga (dS (pkV [(w,mk)])))(q:Q (.bool false) σ):
  CW C (d+4) (.ref 251) [.ref i,.lst [z0m (w,mk,mk)],.ref ga,.tup [.str "a",.lst [srcW],.lst []]] σ Q:=by
 refine z08 (G1.kin (by assumption)) ["shop","wish","granted","thing","stretches","makes","make","reason","more"] [("isinstance",.bi "isinstance"),("tuple",.type "tuple"),("len",.bi "len"),("is_ware",.ref 135),("list",.type "list"),("left_by",.ref 239),("is_branch_row",.ref 246),("dict",.type "dict"),("holds_by",.ref 251)] (by kernel_rfl) (vs4 λ_ _ _ _=>by kernel_rfl) rfl (z0a (z0t (by assumption)) (z0a (z12 (by assumption)) (z0a (z00 (by assumption)) (z0a (z1K (by assumption)) (z0a (z03 (by assumption)) (z0a (z9Q (by assumption)) (z0a (z4R (by assumption)) (z0a (z3x (by assumption)) (z0a (z5H (by assumption)) GL_nil))))))))) ?_
 intro env hsc
 have hn:((pkV [(w,mk)]).map (·.1)).Nodup:=List.nodup_cons.mpr ⟨List.not_mem_nil,List.nodup_nil⟩
 refine z0n (z0x H) (z0A H) (z5M _ _) (by exact rfl) (by kernel_rfl) ?_
 intro F m0
 refine Leaf.mk (fnc (z2B H ware_a ?_))
 refine Leaf.mk (z1o (n:=1) (.lst _) rfl (by with_unfolding_all exact Nat.le_of_ble_eq_true rfl) ?_)
 refine Leaf.mk ?_
 show AS C env ["shop","wish","granted","thing","stretches","makes","make","reason","more"] _ true _ (exec _ env) [some (.ref i),some (.lst [z0m (w,mk,mk)]),some (.ref ga),some (.tup [.str "a",.lst [srcW],.lst []]),none,none,none,none,none] σ _
 refine z1v "source" ["shop","wish","granted","thing"] [("stretch_of",.ref 234)] (z26 (by rw[hsc];kernel_rfl)) (by rw[hsc];kernel_rfl) (z0a (z6U H) GL_nil) (.cons LkC.lk (.cons LkC.lk (.cons LkC.lk (.cons LkC.lk .nil)))) (z0W ?_)
 repeat' with_reducible first|refine z0d ?_|refine z0p ?_|refine z0C ?_|refine z3Q (by with_unfolding_all decide) (by with_unfolding_all decide) (by with_unfolding_all exact rfl) ?_|fail
 by_cases e:w="a"
 ·subst e
  refine⟨_,_,.lst _,by with_unfolding_all exact Nat.le_of_ble_eq_true rfl,λenv' he=>z0K (f:=λ_=> .tup [.int mk,.int mk]) (z0r he (by decide+kernel)) trivial _ _ _ (λX hX K hK=> ?_) ?_⟩
  ·rw[List.mem_singleton.mp hX]
   repeat' with_reducible first|refine z0d ?_|refine z0s ?_|refine z0p ?_|refine z0C ?_|refine z0i ?_|refine z0b ?_|refine z0c ?_|refine⟨z2I H,?_⟩|refine z3Q (by with_unfolding_all decide) (by with_unfolding_all decide) (by with_unfolding_all exact rfl) ?_|fail
   exact fnc (z5m H (n:=("a",mk,mk)) (λ_=>hK) λh=>absurd rfl h)
  rw[List.nil_append]
  with_reducible refine z2A ?_
  refine Leaf.mk (z72 (.lst _) (λX hX=> .inr ⟨_,List.mem_singleton.mp hX⟩) (z0h ?_))
  refine Leaf.mk (fnc (z9S H S ware_a (ss:=[(mk,mk)]) (Nat.le_of_ble_eq_true rfl) ?_))
  refine Leaf.mk (z2O H.ns hg hn (z0h ?_))
  rw[z0v hn (List.mem_map.mpr ⟨("a",mk),.head _,rfl⟩)]
  have hml:mk∈lfF es "a" [(mk,mk)]:=List.mem_filter.mpr ⟨List.mem_reverse.mpr ((z1n _).mem_iff.mpr (List.mem_map.mpr ⟨_,hm,rfl⟩)),by show(decide (mk<=mk)&&decide (mk<=mk)&&true)=true;rw[decide_eq_true (Int.le_refl _)];rfl⟩
  have hll:(lfF es "a" [(mk,mk)]).length<=8:=Nat.le_trans (List.length_filter_le _ _) (by unfold z4p;rw[List.length_reverse,(z1n _).length_eq,List.length_map];exact(S.eok "a").2.1)
  refine Leaf.mk (z1o (.lst _) (List.length_map _) (z0M hll (by decide)) ?_)
  refine z7D (decide_eq_true (Int.ofNat_lt.mpr (List.length_pos_of_mem hml))) ?_
  exact q
 ·refine⟨_,_,.lst _,by with_unfolding_all exact Nat.le_of_ble_eq_true rfl,λenv' he=>z0K (f:=λ_=> .none) (z0r he (by decide+kernel)) trivial _ _ _ (λX hX K hK=> ?_) ?_⟩
  ·rw[List.mem_singleton.mp hX]
   repeat' with_reducible first|refine z0d ?_|refine z0s ?_|refine z0p ?_|refine z0C ?_|refine z0i ?_|refine z0b ?_|refine z0c ?_|refine⟨z2I H,?_⟩|refine z3Q (by with_unfolding_all decide) (by with_unfolding_all decide) (by with_unfolding_all exact rfl) ?_|fail
   exact fnc (z5m H (n:=(w,mk,mk)) (λh=>absurd h e) λ_=>hK)
  rw[List.nil_append]
  with_reducible refine z2A ?_
  refine Leaf.mk (z72 (.lst _) (λX hX=> .inl (List.mem_singleton.mp hX)) (z0h ?_))
  exact q
end
end
section
section
variable {C:Cx} [HM C] [NF C] {d:Nat} {σ:Sto} {Q:V->Sto->Prop} {EQ:Value->Sto->Prop} {i k ro:Addr} {kv rv:List (Str×Addr)} {es:Str->List (Int×List z0f)} {w:Str}
noncomputable def thgA:V:= .tup [.str "a",.lst [srcW],.lst []]
noncomputable def y5o(C:Cx)(d:Nat)(i:Addr)(x y g:V)(σ:Sto)(Q:V->Sto->Prop)(EQ:Value->Sto->Prop):Nat->Prop
 |0=>CE C (d+10) (.ref 192) [.ref i,x,y] σ Q EQ
 |1=>CE C (d+10) (.ref 199) [.ref i,x,y] σ Q EQ
 |2=>CE C (d+10) (.ref 206) [.ref i,x,y,g] σ Q EQ
 |3=>CE C (d+10) (.ref 206) [.ref i,x,g,y] σ Q EQ
 |4=>CE C (d+10) (.ref 258) [.ref i,x,y,thgA] σ Q EQ
 |_=>CE C (d+10) (.ref 289) [.ref i,x] σ Q EQ
theorem z4k{n k:Nat}(h:decide ((n:Int)=(k:Int))=true):n=k:=Int.ofNat_inj.mp (of_decide_eq_true h)
theorem z3F{n k:Nat}(h:decide ((n:Int)=(k:Int))=false):n≠k:=λe=>of_decide_eq_false h (by rw[e])
theorem z2a(H:G1 C){n:Nat}{x y g:V}(h5:n<=5)(h:y5o C d i x y g σ Q EQ n):CE C (d+11) (.ref 446) [.int (n:Int),.ref i,x,y,g] σ Q EQ:=by
 refine z4g (G1.kin (by assumption)) ["_law_way","_law_shop_here","_law_wish_here","_law_thing","_law_good"] [("agenda",.ref 192),("meets",.ref 199),("newer",.ref 206),("holds",.ref 258),("settle",.ref 289)] (by kernel_rfl) (vs5 λ_ _ _ _ _=>by kernel_rfl) rfl (z0a (y0t (by assumption)) (z0a (y2W (by assumption)) (z0a (y3a (by assumption)) (z0a (y3g (by assumption)) (z0a (y18 (by assumption)) GL_nil))))) ?_
 intro env hsc
 clear hsc
 show SE C env ["_law_way","_law_shop_here","_law_wish_here","_law_thing","_law_good"] _ _ _ [some (.int (n:Int)),some (.ref i),some x,some y,some g] _ _ _
 refine z0k (z1Z ?_)
 repeat' with_reducible first|refine z0L ?_|refine z0d ?_|refine z0p ?_|fail
 refine z8W (z0h ⟨λhb=> ?_,λn0=>z0F ?_⟩)
 ·obtain rfl:=z4k hb
  refine z0k (z1X (z2s (z8d H) ?_))
  repeat' with_reducible first|refine z0d ?_|refine z0b ?_|refine z0c ?_|fail
  exact h
 refine z0k (z1Z ?_)
 repeat' with_reducible first|refine z0L ?_|refine z0d ?_|refine z0p ?_|fail
 refine z8W (z0h ⟨λhb=> ?_,λn1=>z0F ?_⟩)
 ·obtain rfl:=z4k hb
  refine z0k (z1X (z2s (z9C H) ?_))
  repeat' with_reducible first|refine z0d ?_|refine z0b ?_|refine z0c ?_|fail
  exact h
 refine z0k (z1Z ?_)
 repeat' with_reducible first|refine z0L ?_|refine z0d ?_|refine z0p ?_|fail
 refine z8W (z0h ⟨λhb=> ?_,λn2=>z0F ?_⟩)
 ·obtain rfl:=z4k hb
  refine z0k (z1X (z2s (z6R H) ?_))
  repeat' with_reducible first|refine z0d ?_|refine z0b ?_|refine z0c ?_|fail
  exact h
 refine z0k (z1Z ?_)
 repeat' with_reducible first|refine z0L ?_|refine z0d ?_|refine z0p ?_|fail
 refine z8W (z0h ⟨λhb=> ?_,λn3=>z0F ?_⟩)
 ·obtain rfl:=z4k hb
  refine z0k (z1X (z2s (z6R H) ?_))
  repeat' with_reducible first|refine z0d ?_|refine z0b ?_|refine z0c ?_|fail
  exact h
 refine z0k (z1Z ?_)
 repeat' with_reducible first|refine z0L ?_|refine z0d ?_|refine z0p ?_|fail
 refine z8W (z0h ⟨λhb=> ?_,λn4=>z0F ?_⟩)
 ·obtain rfl:=z4k hb
  refine z0k (z1X (z2s (z9d H) ?_))
  repeat' with_reducible first|refine z0d ?_|refine z6W ?_|refine z0p ?_|refine z1a ?_|refine z0P ?_|refine z0b ?_|refine z0c ?_|refine⟨by with_unfolding_all exact Nat.le_of_ble_eq_true rfl,?_⟩|fail
  exact h
 obtain rfl:n=5:=by
  have e0:n≠0:=z3F n0
  have e1:n≠1:=z3F n1
  have e2:n≠2:=z3F n2
  have e3:n≠3:=z3F n3
  have e4:n≠4:=z3F n4
  lia
 refine z0k (z1X (z2s (z7G H) ?_))
 repeat' with_reducible first|refine z0d ?_|refine z0b ?_|refine z0c ?_|fail
 exact h
theorem y3o{x:Str}{X:V}{vs:List Str}{m m₁ m₂:Loc}(h1:Put vs m x X m₁)(h2:Put vs m x X m₂)(hn:vs.Nodup):m₁=m₂:=by
 obtain⟨a,e1,r1⟩:=h1.get
 obtain⟨b,e2,r2⟩:=h2.get
 obtain⟨l1,g1⟩:=List.getElem?_eq_some_iff.mp e1
 obtain⟨l2,g2⟩:=List.getElem?_eq_some_iff.mp e2
 rw[r1,r2,(List.getElem_inj (h₀:=l1) (h₁:=l2) hn).mp (g1.trans g2.symm)]
theorem y43(H:G1 C){D:Addr}(h:(W.findIn (K1 C) (.ref D) "__getattribute__",W.findIn (K1 C) (.ref D) "__getattr__",W.findIn (K1 C) (.ref D) "__class__",W.mroIn (K1 C) D (.type "BaseException"),W.mroIn (K1 C) D (.type "object"),(W.clsIn (K1 C) D).isSome)=(some (some (.builtin "BaseException.__getattribute__")),some none,some (some (.builtin "object.__class__")),some true,some true,true)):ExcK (K1 C) D:=
 ⟨congrArg (·.1) h,congrArg (·.2.1) h,congrArg (·.2.2.1) h,congrArg (·.2.2.2.1) h,congrArg (·.2.2.2.2.1) h,congrArg (·.2.2.2.2.2) h⟩
noncomputable def isT(K:W.Frag)(D:Addr):Option Bool×Option Bool×Option Bool×Option Bool×Option Bool×Option Bool×Option Bool×Option Bool×Option Bool:=(W.kitOne K (.ref D) (.ref 116),W.kitOne K (.ref D) (.ref 128),W.kitOne K (.ref D) (.ref 44),W.kitOne K (.ref D) (.ref 56),W.kitOne K (.ref D) (.ref 68),W.kitOne K (.ref D) (.ref 80),W.kitOne K (.ref D) (.ref 92),W.kitOne K (.ref D) (.ref 104),W.kitOne K (.ref D) (.type "ValueError"))
structure Exk(K:W.Frag)(D:Addr)(j:Nat):Prop where
 z:ExcK K D
 t:isT K D=(some (Nat.beq 0 j),some (Nat.beq 1 j),some (Nat.beq 2 j),some (Nat.beq 3 j),some (Nat.beq 4 j),some (Nat.beq 5 j),some (Nat.beq 6 j),some (Nat.beq 7 j),some true)
 x:W.exmOne K (.ref D) (.ref 31)=some true
theorem y0f(H:G1 C):Exk (K1 C) 116 0:=⟨y43 H (by kernel_rfl),by kernel_rfl,by kernel_rfl⟩
theorem z9U(H:G1 C):Exk (K1 C) 128 1:=⟨y43 H (by kernel_rfl),by kernel_rfl,by kernel_rfl⟩
noncomputable def beL(j:Nat):List Bool:=[Nat.beq 0 j,Nat.beq 1 j,Nat.beq 2 j,Nat.beq 3 j,Nat.beq 4 j,Nat.beq 5 j,Nat.beq 6 j,Nat.beq 7 j]
noncomputable def y3E(j:Nat):V->Bool
 | .int n=>((beL j)[n.toNat]?).getD false
 |_=>false
theorem y1J{j:Nat}(h:j<2):((z0R 0 1 8).filter (y3E j)).map id=[.int (j:Int)]:=by
 have:j=0∨j=1:=by lia
 rcases this with rfl|rfl<;>kernel_rfl
theorem z1k(H:G1 C){n:Nat}{x y g:V}(h:CE C (d+11) (.ref 446) [.int (n:Int),.ref i,x,y,g] σ (λ_ τ=>Q (.lst []) τ) λc τ=>(c= .ref 116/\Q (.lst [.int 0]) τ)∨(c= .ref 128/\Q (.lst [.int 1]) τ)):CE C (d+12) (.ref 451) [.int (n:Int),.ref i,x,y,g] σ Q EQ:=by
 refine z4g (G1.kin (by assumption)) ["_law_way","_law_shop_here","_law_wish_here","_law_thing","_law_good","e","_law_found"] [("_law_asked",.ref 446),("PickError",.ref 31),("isinstance",.bi "isinstance"),("BadWish",.ref 116),("BadPick",.ref 128),("BadWare",.ref 44),("BadMake",.ref 56),("BadNeed",.ref 68),("Twice",.ref 80),("Full",.ref 92),("NoMake",.ref 104),("ValueError",.type "ValueError"),("range",.type "range")] (by kernel_rfl) (vs5 λ_ _ _ _ _=>by kernel_rfl) rfl (z0a (z65 (by assumption)) (z0a (z7X (by assumption)) (z0a (z0t (by assumption)) (z0a (z6z (by assumption)) (z0a (z1J (by assumption)) (z0a (z4q (by assumption)) (z0a (z6k (by assumption)) (z0a (z6A (by assumption)) (z0a (z9u (by assumption)) (z0a (y0u (by assumption)) (z0a (z7E (by assumption)) (z0a (z6J (by assumption)) (z0a (z2H (by assumption)) GL_nil))))))))))))) ?_
 intro env hsc
 show SE C env ["_law_way","_law_shop_here","_law_wish_here","_law_thing","_law_good","e","_law_found"] _ _ _ [some (.int (n:Int)),some (.ref i),some x,some y,some g,none,none] _ _ _
 refine z0k (y4d (K:=K1 C) (EB:=λc τ=>(c= .ref 116/\Q (.lst [.int 0]) τ)∨(c= .ref 128/\Q (.lst [.int 1]) τ)) H.kin (GInC.mem (X:= .ref 31)) (show env.scope.names.lookup ("e":Str)=some NameKind.local by rw[hsc];kernel_rfl) (.tail _ (.tail _ (.tail _ (.tail _ (.tail _ (.head _)))))) NF.h (z0k (z2n (z2s (z4b H) ?_))) ?_)
 ·repeat' with_reducible first|refine z0d ?_|refine z0b ?_|refine z0c ?_|fail
  refine h.mono (λ_ τ q=> ?_) λ_ _ e=>e
  refine z0F ?_
  refine z0k (z1X (z1V ?_))
  repeat' with_reducible first|refine z0P ?_|refine z0c ?_|refine⟨by with_unfolding_all exact Nat.le_of_ble_eq_true rfl,?_⟩|fail
  exact q
 ·intro c τ hcc
  obtain⟨D,j,rfl,⟨z,ht,hx⟩,hj,q⟩:∃D j,c= .ref D/\Exk (K1 C) D j/\j<2/\Q (.lst [.int (j:Int)]) τ:=by
   rcases hcc with⟨rfl,q⟩|⟨rfl,q⟩
   ·exact⟨_,0,rfl,y0f H,by decide,q⟩
   ·exact⟨_,1,rfl,z9U H,by decide,q⟩
  refine⟨hx,λh' a k' m₂ hob hput=> ?_⟩
  obtain⟨oe,vs,ho,hc,hd,h2⟩:=hob
  have hput':Put ["_law_way","_law_shop_here","_law_wish_here","_law_thing","_law_good","e","_law_found"] [none,none,none,none,none,none,none] "e" (.ref a) [none,none,none,none,none,some (.ref a),none]:=PutC.put
  obtain rfl:=y3o hput hput' (by decide+kernel)
  have HK:(K1 C).In (z3s C h' a k').base:=λb o e=>z14 k' b o (H.kin b o e)
  clear hx hput hput' h
  show AS _ env ["_law_way","_law_shop_here","_law_wish_here","_law_thing","_law_good","e","_law_found"] _ _ _ _ [none,none,none,none,none,some (.ref a),none] _ _
  refine z3d (z1C (z0P ?_))
  repeat' with_reducible first|refine z0d ?_|refine z0s ?_|refine z0i ?_|refine z0b ?_|refine z0c ?_|refine⟨z0q,?_⟩|fail
  refine z3f HK z ho hc (congrArg (·.1) ht) ?_
  repeat' with_reducible first|refine z0d ?_|refine z0s ?_|refine z0i ?_|refine z0b ?_|refine z0c ?_|refine⟨z0q,?_⟩|fail
  refine z3f HK z ho hc (congrArg (·.2.1) ht) ?_
  repeat' with_reducible first|refine z0d ?_|refine z0s ?_|refine z0i ?_|refine z0b ?_|refine z0c ?_|refine⟨z0q,?_⟩|fail
  refine z3f HK z ho hc (congrArg (·.2.2.1) ht) ?_
  repeat' with_reducible first|refine z0d ?_|refine z0s ?_|refine z0i ?_|refine z0b ?_|refine z0c ?_|refine⟨z0q,?_⟩|fail
  refine z3f HK z ho hc (congrArg (·.2.2.2.1) ht) ?_
  with_reducible refine z0c ?_
  refine⟨by with_unfolding_all exact Nat.le_of_ble_eq_true rfl,?_⟩
  with_reducible refine z2A ?_
  refine z3d (z1C (z0I ?_))
  with_reducible refine z0d ?_
  refine z0P ?_
  repeat' with_reducible first|refine z0d ?_|refine z0s ?_|refine z0i ?_|refine z0b ?_|refine z0c ?_|refine⟨z0q,?_⟩|fail
  refine z3f HK z ho hc (congrArg (·.2.2.2.2.1) ht) ?_
  repeat' with_reducible first|refine z0d ?_|refine z0s ?_|refine z0i ?_|refine z0b ?_|refine z0c ?_|refine⟨z0q,?_⟩|fail
  refine z3f HK z ho hc (congrArg (·.2.2.2.2.2.1) ht) ?_
  repeat' with_reducible first|refine z0d ?_|refine z0s ?_|refine z0i ?_|refine z0b ?_|refine z0c ?_|refine⟨z0q,?_⟩|fail
  refine z3f HK z ho hc (congrArg (·.2.2.2.2.2.2.1) ht) ?_
  repeat' with_reducible first|refine z0d ?_|refine z0s ?_|refine z0i ?_|refine z0b ?_|refine z0c ?_|refine⟨z0q,?_⟩|fail
  refine z3f HK z ho hc (congrArg (·.2.2.2.2.2.2.2.1) ht) ?_
  with_reducible refine z0c ?_
  refine⟨by with_unfolding_all exact Nat.le_of_ble_eq_true rfl,?_⟩
  refine z1M (.lst _) (.lst _) (by with_unfolding_all exact Nat.le_of_ble_eq_true rfl) (z2d ?_)
  with_reducible refine z2A ?_
  refine z3d (y2K (z1l (z09 ?_)))
  repeat' with_reducible first|refine z0d ?_|refine z0s ?_|refine z0i ?_|refine z0b ?_|refine z0c ?_|refine⟨z0q,?_⟩|fail
  refine y4v HK z ho hc (congrArg (·.2.2.2.2.2.2.2.2) ht) ?_
  refine z0h ⟨λhb=>ff hb,λ_=>z8c ?_⟩
  refine z3d (z5s ?_)
  show AT _ env ["_law_way","_law_shop_here","_law_wish_here","_law_thing","_law_good","e","_law_found"] _ _ _ _ [none,none,none,none,none,some (.ref a),some (.lst ((beL j).map V.bool))] _ _
  refine z0H "_law_k" ["_law_found"] [] (by rw[hsc];kernel_rfl) GL_nil (.cons LkC.lk .nil) (y0r (x:=a) rfl ho hd h2 ?_)
  repeat' with_reducible first|refine z0d ?_|refine z0s ?_|refine z0p ?_|refine z0i ?_|refine z0b ?_|refine z0c ?_|refine z1D ?_|refine⟨z0u,?_⟩|fail
  refine⟨_,_,_,8,rfl,z6S (by decide),z7b 8,by with_unfolding_all exact Nat.le_of_ble_eq_true rfl,λenv' he=>z2J (f:=id) (t:=y3E j) (z0r he (by decide+kernel)) trivial _ _ _ (λX hX K hK=> ?_) (λX hX _ K hK=> ?_) ?_⟩
  ·obtain⟨m,hm,rfl⟩:=z1r hX
   repeat' with_reducible first|refine z09 ?_|refine z0d ?_|refine z0C ?_|fail
   have hb:(beL j)[m]? =some (beL j)[m]:=List.getElem?_eq_getElem hm
   have hK:K (((beL j)[m]?).getD false) τ:=hK
   rw[hb] at hK
   exact z01 (.lst _) (Nat.lt_trans hm (by decide)) (z1H hb) (z0h hK)
  ·with_reducible refine z0d ?_
   exact hK
  ·rw[List.nil_append,y1J hj]
   exact q
end
end
section
section
variable {C:Cx} [HM C] [NF C] {d:Nat} {σ:Sto} {Q:V->Sto->Prop} {EQ:Value->Sto->Prop} {i k ro:Addr} {kv rv:List (Str×Addr)} {es:Str->List (Int×List z0f)} {w:Str}
inductive BadE(τ:Sto)(v:V):Prop
 |mk {t:V}:Dn τ 3 v t->needB t=false->BadE τ v
inductive BadW(τ:Sto)(v:V):Prop
 |mk {n:Nat} {t:V}:Dn τ n v t->wishB t=false->BadW τ v
theorem dnS(τ:Sto){n:Nat}{x:Str}(h:Ware x):Dn τ n (.str x) (.str x):= .str x h.asc
theorem y3i{τ:Sto}{n:z0f}(h:NeedOk n):Dn τ 3 (z0m n) (z0m n):= .tF (.cons (dnS τ h.w) (.cons (.int _) (.cons (.int _) .nil)))
theorem y1z{τ:Sto}{nm:Str}{b:Addr}(h:Ware nm)(hb:At τ b (.dict [])):∀X∈[V.tup [.str nm,.int 2,.int 1],.tup [.str nm,.int 0,.int 1],.tup [.str nm,.int 1,.int 1000],.tup [.str nm,.int 1],.lst [.str nm,.int 1,.int 2],.tup [.str "A",.int 1,.int 2]]++[V.tup [.str nm,.bool true,.int 2],.none,.str nm,.tup [.lst [.str nm],.int 1,.int 2],.tup [.str nm,.lst [.int 1],.int 2],.tup [.ref b,.int 1,.int 2]],BadE τ X:=by
 have hw:=z4f h
 have z:∀{n:Nat},Dn τ n (.str nm) (.str nm):=λ{n}=>dnS τ h
 have i3:∀{a c:V} {p q:Int},Dn τ 2 a c->Dn τ 3 (.tup [a,.int p,.int q]) (.tup [c,.int p,.int q]):=λh=> .tF (.cons h (.cons (.int _) (.cons (.int _) .nil)))
 have e:∀{a b c:V},needB (.tup [a,b,c])=(wareV a&&(makeV b&&(makeV c&&leB b c))):=rfl
 refine List.forall_mem_append.mpr ⟨?_,?_⟩
 ·refine List.forall_mem_cons.mpr ⟨⟨i3 z,by rw[e,hw];rfl⟩,?_⟩
  refine List.forall_mem_cons.mpr ⟨⟨i3 z,by rw[e,hw];rfl⟩,?_⟩
  refine List.forall_mem_cons.mpr ⟨⟨i3 z,by rw[e,hw];rfl⟩,?_⟩
  refine List.forall_mem_cons.mpr ⟨⟨.tF (.cons z (.cons (.int _) .nil)),rfl⟩,?_⟩
  refine List.forall_mem_cons.mpr ⟨⟨.lF (.cons z (.cons (.int _) (.cons (.int _) .nil))),rfl⟩,?_⟩
  exact List.forall_mem_cons.mpr ⟨⟨i3 (.str "A" ⟨by decide+kernel,by decide+kernel⟩),by decide+kernel⟩,λ_ h=>by cases h⟩
 ·refine List.forall_mem_cons.mpr ⟨⟨.tF (.cons z (.cons (.bool _) (.cons (.int _) .nil))),by rw[e,hw];rfl⟩,?_⟩
  refine List.forall_mem_cons.mpr ⟨⟨.none,rfl⟩,?_⟩
  refine List.forall_mem_cons.mpr ⟨⟨z,rfl⟩,?_⟩
  refine List.forall_mem_cons.mpr ⟨⟨i3 (.lF (.cons z .nil)),rfl⟩,?_⟩
  refine List.forall_mem_cons.mpr ⟨⟨.tF (.cons z (.cons (.lF (.cons (.int _) .nil)) (.cons (.int _) .nil))),by rw[e,hw];rfl⟩,?_⟩
  exact List.forall_mem_cons.mpr ⟨⟨i3 (.dict hb),rfl⟩,λ_ h=>by cases h⟩
theorem F2.app{α β:Type}{R:α->β->Prop}{a c:List α}{b e:List β}(h:F2 R a b)(h':F2 R c e):F2 R (a++c) (b++e):=by
 induction h with
 |nil=>exact h'
 |cons x _ ih=>exact .cons x ih
theorem z2x{τ:Sto}:∀{gs:List z0f},(∀n∈gs,NeedOk n)->F2 (Dn τ 3) (gs.map z0m) (gs.map z0m)
 |[],_=> .nil
 |n::gs,h=> .cons (y3i (h n (.head _))) (z2x λm hm=>h m (.tail _ hm))
theorem y1x{τ:Sto}{a b:List z0f}{X:V}(ha:∀n∈a,NeedOk n)(hb:∀n∈b,NeedOk n)(hl:a.length+1+b.length<=200)(h:BadE τ X):BadW τ (.lst (a.map z0m++[X]++b.map z0m)):=by
 obtain⟨h1,h2⟩:=h
 refine⟨.lF (((z2x ha).app (.cons h1 .nil)).app (z2x hb)) (by simp;lia),?_⟩
 show(decide _&&List.all _ needB)=false
 rw[List.all_append,List.all_append,show List.all [_] needB=false by rw[List.all_cons,h2];rfl,Bool.and_false,Bool.false_and,Bool.and_false]
end
end
section
section
variable {C:Cx} [HM C] [NF C] {d:Nat} {σ:Sto} {Q:V->Sto->Prop} {EQ:Value->Sto->Prop} {i k ro:Addr} {kv rv:List (Str×Addr)} {es:Str->List (Int×List z0f)} {w:Str}
theorem needs_of:∀{ys:List V},(∀y∈ys,∃n,y=z0m n/\NeedOk n)->∃gs:List z0f,ys=gs.map z0m/\∀n∈gs,NeedOk n
 |[],_=>⟨[],rfl,λ_ h=>by cases h⟩
 |y::ys,h=>by
  obtain⟨n,rfl,hn⟩:=h y (.head _)
  obtain⟨gs,rfl,hg⟩:=needs_of λz hz=>h z (.tail _ hz)
  exact⟨n::gs,rfl,List.forall_mem_cons.mpr ⟨hn,hg⟩⟩
theorem z3c(xs:List V){j:Nat}(h:j<=xs.length):slL xs none (some (j:Int)) none=xs.take j:=by
 have e:slL xs none (some (j:Int)) none=(sliceRange ((0:Nat):Int) (max 0 (min (if(j:Int)<0 then(j:Int)+xs.length else j) (xs.length:Int))) 1).filterMap (xs[·]?):=rfl
 rw[e,z6b h,sr1 (Nat.zero_le j),Nat.sub_zero,show(List.range j).map (λk=>0+k)=List.range j by simp,z3j]
theorem z5g(xs:List V){j:Nat}(h:j<=xs.length):slL xs (some (j:Int)) none none=xs.drop j:=by
 have e:slL xs (some (j:Int)) none none=(sliceRange (max 0 (min (if(j:Int)<0 then(j:Int)+xs.length else j) (xs.length:Int))) (xs.length:Int) 1).filterMap (xs[·]?):=rfl
 rw[e,z6b h,sr1 h,List.filterMap_map,show((λi=>xs[i]?)∘λk=>j+k)=λk=>(xs.drop j)[k]? from funext λk=>by rw[List.getElem?_drop];rfl,z3j,List.take_of_length_le]
 rw[List.length_drop];exact Nat.le_refl _
theorem y30{ws:List Str}{j:Int}(h0:0<ws.length):∃e:Nat,j.fmod (ws.length:Int)=(e:Int)/\e<ws.length:=by
 have hp:(0:Int)<(ws.length:Int):=Int.ofNat_lt.mpr h0
 obtain⟨e,he⟩:=Int.eq_ofNat_of_zero_le (Int.fmod_nonneg_of_pos j hp)
 exact⟨e,he,Int.ofNat_lt.mp (he▸Int.fmod_lt_of_pos j hp)⟩
noncomputable def z2Q(r1:Stmt):TC:=⟨[.cut [.rawS r1],.cut [.loc 1,.psh (.int 20),.binc .FloorDiv,.loc 2,.len,.psh (.int 1),.binc .Add,.binc .Mod,.asg 3],.loc 0,.subT 0,.asg 4,.loc 4,.psh (.int 2),.psh (.int 1),.tup 3,.loc 4,.psh (.int 0),.psh (.int 1),.tup 3,.loc 4,.psh (.int 1),.psh (.int 1000),.tup 3,.loc 4,.psh (.int 1),.tup 2,.loc 4,.psh (.int 1),.psh (.int 2),.lst 3,.psh (.str "A"),.psh (.int 1),.psh (.int 2),.tup 3,.lst 6,.asg 5,.loc 5,.loc 4,.psh (.bool true),.psh (.int 2),.tup 3,.psh .none,.loc 4,.loc 4,.lst 1,.psh (.int 1),.psh (.int 2),.tup 3,.loc 4,.psh (.int 1),.lst 1,.psh (.int 2),.tup 3,.dic,.psh (.int 1),.psh (.int 2),.tup 3,.lst 6,.binc .Add,.asg 5,.loc 1,.psh (.int 5),.binc .Mod,.psh (.int 0),.tcmpc .Eq,.ife [.psh .none,.psh (.int 5),.loc 2,.call (.type "tuple") 1,.psh (.str "wish"),.dic,.lst 5,.loc 1,.psh (.int 100),.binc .FloorDiv,.psh (.int 5),.binc .Mod,.sub,.ret] [],.loc 1,.psh (.int 5),.binc .Mod,.psh (.int 1),.tcmpc .Eq,.ife [.loc 4,.psh (.int 1),.psh (.int 9),.tup 3,.lst 1,.psh (.int 9),.binc .Mult,.ret] [],.loc 2,.psh .none,.loc 3,.psh .none,.slc,.sub,.loc 5,.loc 1,.psh (.int 100),.binc .FloorDiv,.psh (.int 12),.binc .Mod,.sub,.lst 1,.binc .Add,.loc 2,.loc 3,.psh .none,.psh .none,.slc,.sub,.binc .Add,.ret],[.inl r1],[([0],none)]⟩
--z2Q 1
theorem z4V(H:G1 C){ws:List Str}{N:Int}(hw:∀w∈ws,Ware w)(h0:0<ws.length)(h12:ws.length<=12)(q:∀v σ',BadW σ' v->(∀p∈σ,p∈σ')->Q v σ'):CW C (d+1) (.ref 424) [.lst (ws.map V.str),.int N] σ Q:=by
 refine z08 (G1.kin (by assumption)) ["_law_names_here","_law_number","_law_good","_law_at","_law_name","_law_odd"] [("range",.type "range"),("len",.bi "len"),("tuple",.type "tuple")] (by kernel_rfl) (vs2 λ_ _=>by kernel_rfl) rfl (z0a (z2H (by assumption)) (z0a (z00 (by assumption)) (z0a (z12 (by assumption)) GL_nil))) ?_
 intro env hsc
 have hz:(ws.map V.str).length=ws.length:=List.length_map _
 have hzl:(ws.map V.str).length<=sizeLine:=z0M h12 (by decide)
 refine z0n (z0x H) (z0A H) (z2Q _) (by exact rfl) (by kernel_rfl) ?_
 intro F m0
 refine z3w (α:=List z0f) (λgs=>gs.length<=3/\∀n∈gs,NeedOk n) (λgs=>[some (.lst (ws.map V.str)),some (.int N),some (.lst (gs.map z0m)),none,none,none]) σ (λK hK _=> ?_) λgs hgs=> ?_
 ·refine Leaf.mk ?_
  show AS C env ["_law_names_here","_law_number","_law_good","_law_at","_law_name","_law_odd"] _ true _ (exec _ env) [some (.lst (ws.map V.str)),some (.int N),none,none,none,none] _ _
  refine z1v "_law_k" ["_law_names_here"] [("len",.bi "len")] (z26 (by rw[hsc];kernel_rfl)) (by rw[hsc];kernel_rfl) (z0a (z00 H) GL_nil) (.cons LkC.lk .nil) (z1u ?_)
  repeat' with_reducible first|refine z0d ?_|refine z0s ?_|refine z0p ?_|refine z0i ?_|refine z0I ?_|refine z0b ?_|refine z0c ?_|refine z3b ?_ (by with_unfolding_all decide)|refine z2z ?_ (by with_unfolding_all decide) (by with_unfolding_all decide)|refine z1D ?_|refine⟨z0u,?_⟩|fail
  obtain⟨c,hc⟩:=Int.eq_ofNat_of_zero_le (Int.fmod_nonneg_of_pos (N.fdiv 5) (show(0:Int)<4 by decide))
  have hc4:c<4:=Int.ofNat_lt.mp (hc▸Int.fmod_lt_of_pos (N.fdiv 5) (show(0:Int)<4 by decide))
  rw[hc]
  refine⟨_,_,_,c,rfl,z6S (Nat.le_trans (Nat.le_of_lt hc4) (by decide)),z7b c,z0y (by rw[z1I];exact Nat.le_trans (Nat.le_of_lt hc4) (by decide)),λenv' he=>z83 (R:=λ_ Y=>∃n,Y=z0m n/\NeedOk n) (z0r he (by decide+kernel)) trivial _ _ _ (λX hX K hK=> ?_) λys hl hys=> ?_⟩
  ·obtain⟨j,hj,rfl⟩:=z1r hX
   repeat' with_reducible first|refine z0d ?_|refine z0s ?_|refine z0p ?_|refine z0i ?_|refine z0I ?_|refine z0C ?_|refine z1a ?_|refine z0b ?_|refine z0c ?_|refine⟨z0q,?_⟩|fail
   refine z1o (.lst _) hz hzl ?_
   refine z3b ?_ (Int.ne_of_gt (Int.ofNat_lt.mpr h0))
   obtain⟨e,he1,he2⟩:=y30 (j:=(j:Int)) h0
   rw[he1]
   have hwe:ws[e]? =some ws[e]:=List.getElem?_eq_getElem he2
   refine z01 (.lst _) (Nat.lt_of_lt_of_le he2 (Nat.le_trans h12 (by decide))) (z1H hwe) ?_
   repeat' with_reducible first|refine z0d ?_|refine z0p ?_|refine z0I ?_|refine z0b ?_|refine z0c ?_|refine z4Q ?_|refine y3t ?_|fail
   exact⟨by with_unfolding_all exact Nat.le_of_ble_eq_true rfl,hK _ ⟨(ws[e],1+(j:Int),999-(j:Int)),rfl,hw _ (List.mem_of_getElem? hwe),by show 1<=1+(j:Int);lia,by show 1+(j:Int)<=999-(j:Int);lia,by show 999-(j:Int)<=999;lia⟩⟩
  ·obtain⟨gs,rfl,hg⟩:=needs_of (ys:=ys) λy hy=>by obtain⟨_,_,h⟩:=hys y hy;exact h
   with_reducible refine z2A ?_
   exact hK gs ⟨by rw[List.length_map,z1I] at hl;rw[hl];exact Nat.le_of_lt_succ hc4,hg⟩
 obtain⟨g3,hg⟩:=hgs
 have gz:(gs.map z0m).length=gs.length:=List.length_map _
 have gzl:(gs.map z0m).length<=sizeLine:=z0M g3 (by decide)
 clear hsc
 refine z3w (α:=Nat) (λa=>a<=gs.length) (λa=>[some (.lst (ws.map V.str)),some (.int N),some (.lst (gs.map z0m)),some (.int (a:Int)),none,none]) σ (λK hK _=> ?_) λa ha=> ?_
 ·refine Leaf.mk (z1o (.lst _) gz gzl ?_)
  exact z7p (P:=λz=>K .next [some (.lst (ws.map V.str)),some (.int N),some (.lst (gs.map z0m)),some (.int z),none,none] σ) (n:=gs.length+1) (Nat.succ_pos _) λa ha=>hK a (Nat.le_of_lt_succ ha)
 obtain⟨nm,ws',rfl⟩:∃nm ws',ws=nm::ws':=by cases ws with
  |nil=>exact absurd h0 (Nat.lt_irrefl _)
  |cons nm ws'=>exact⟨nm,ws',rfl⟩
 have hnm:=hw nm (.head _)
 clear hw h0 h12 hz hzl
 refine Leaf.mk (z01 (i:=0) (.lst _) (by decide) rfl ?_)
 intro b o hf
 have hbad:=y1z hnm (At.hd (a:=b) (o:=o) (x:= .dict []) (σ:=σ))
 refine Leaf.mk (z1M (.lst _) (.lst _) (by with_unfolding_all exact Nat.le_of_ble_eq_true rfl) (z2d ?_))
 refine z0T (λ_=> ?_) λ_=> ?_
 ·refine Leaf.mk (z8y (.lst _) gzl ?_)
  intro b2 o2 hf2
  refine Leaf.mk (z2D (Int.fmod_nonneg_of_pos _ (by decide)) (Int.fmod_lt_of_pos _ (by decide)) (show 5<2^40 by decide) λX hX=> ?_)
  refine q X _ ?_ λp hp=> .tail _ (.tail _ hp)
  revert X
  refine List.forall_mem_cons.mpr ⟨⟨.none (n:=0),rfl⟩,?_⟩
  refine List.forall_mem_cons.mpr ⟨⟨.int (n:=0) _,rfl⟩,?_⟩
  refine List.forall_mem_cons.mpr ⟨⟨.tF (z2x hg) (by rw[gz];lia),rfl⟩,?_⟩
  refine List.forall_mem_cons.mpr ⟨⟨.str (n:=0) "wish" ⟨by decide+kernel,by decide+kernel⟩,rfl⟩,?_⟩
  exact List.forall_mem_cons.mpr ⟨⟨.dict (n:=0) At.hd,rfl⟩,λ_ h=>by cases h⟩
 refine z0T (λ_=> ?_) λ_=> ?_
 ·refine Leaf.mk (z84 (k:=9) rfl (.lst _) (by with_unfolding_all exact Nat.le_of_ble_eq_true rfl) (by decide) (.inl ?_))
  refine q _ _ ⟨.lF (z2x (gs:=List.replicate 9 (nm,1,9)) λn hn=>by rw[(List.mem_replicate.mp hn).2];exact⟨hnm,(by decide:(1:Int)<=1),(by decide:(1:Int)<=9),(by decide:(9:Int)<=999)⟩),rfl⟩ λp hp=> .tail _ hp
 refine Leaf.mk (z1N (.lst _) .none (.int _) .none nofun gzl (z2d ?_))
 rw[z3c _ (by rw[gz];exact ha),<-List.map_take]
 refine Leaf.mk (z2D (Int.fmod_nonneg_of_pos _ (by decide)) (Int.fmod_lt_of_pos _ (by decide)) (show 12<2^40 by decide) λX hX=> ?_)
 refine Leaf.mk (z1M (.lst _) (.lst _) (z0y (by rw[List.length_map,List.length_take];show _+1<=_;lia)) (z2d ?_))
 refine Leaf.mk (z1N (.lst _) (.int _) .none .none nofun gzl (z2d ?_))
 rw[z5g _ (by rw[gz];exact ha),<-List.map_drop]
 refine Leaf.mk (z1M (.lst _) (.lst _) (z0y (by rw[List.length_append,List.length_map,List.length_take,List.length_map,List.length_drop];show _+1+_<=_;lia)) (z2d ?_))
 exact q _ _ (y1x (λn hn=>hg n (List.mem_of_mem_take hn)) (λn hn=>hg n (List.mem_of_mem_drop hn)) (by rw[List.length_take,List.length_drop];lia) (hbad X hX)) λp hp=> .tail _ hp
end
end
section
section
variable {C:Cx} [HM C] [NF C] {d:Nat} {σ:Sto} {Q:V->Sto->Prop} {EQ:Value->Sto->Prop} {i k ro:Addr} {kv rv:List (Str×Addr)} {es:Str->List (Int×List z0f)} {w:Str} {ps:List (Str×Int)}
noncomputable def prV(p:Str×Int):V:= .tup [.str p.1,.int p.2]
theorem y2Q(ps:List (Str×Int)):ps.map prV=(pkV ps).map λp=>V.tup [(KK.str C.prog C.w).v p.1,p.2]:=by rw[List.map_map];rfl
theorem y0D{K:Type}[DecidableEq K]{kvs:List (K×V)}(hn:(kvs.map (·.1)).Nodup):y1w kvs=kvs:=by
 unfold y1w
 have:∀(l acc:List (K×V)),((acc++l).map (·.1)).Nodup->l.foldl (λacc p=>z1w acc p.1 p.2) acc=acc++l:=by
  intro l
  induction l with
  |nil=>intro acc _;rw[List.append_nil];rfl
  |cons p l ih=>
   intro acc h
   rw[List.foldl_cons,z1W,ih,List.append_assoc]
   ·rfl
   ·rw[List.append_assoc];exact h
   ·intro hm
    rw[List.map_append] at h
    exact(List.nodup_append.mp h).2.2 _ hm _ (.head _) rfl
 exact this kvs [] hn
theorem z7M{x:V}{P:Sto->Prop}(h:Has σ x (.list (ps.map prV)) P)(pb:PkB ps)(q:∀a o,Fresh σ a->Q (.ref a) ((a,o,dS (pkV ps))::σ)):KW C d (.type "dict") [x] σ Q:=by
 rw[y2Q (C:=C)] at h
 refine y23 (KK.str C.prog C.w) h (by rw[List.length_map];exact Nat.le_trans pb.len (by decide)) λa o hf=> ?_
 rw[y0D (by rw[z0B];exact pb.nd)]
 exact q a o hf
theorem z7v{x:Str}(h:(decide (x.length<=100)&&x.cps.toList.all λc=>decide (c<128))=true):Asc x:=by
 rw[Bool.and_eq_true] at h
 exact⟨of_decide_eq_true h.1,λc hc=>of_decide_eq_true (List.all_eq_true.mp h.2 c hc)⟩
theorem y2U{k:Int}(h1:1<=k)(h2:k<=999):Asc (toString k):=by
 obtain⟨n,rfl⟩:=Int.eq_ofNat_of_zero_le (show 0<=k by lia)
 refine z7v ?_
 have:=List.all_eq_true.mp (show(List.range 1000).all (λn:Nat=>(decide ((toString (n:Int):Str).length<=100)&&(toString (n:Int):Str).cps.toList.all λc=>decide (c<128)))=true by decide+kernel) n (List.mem_range.mpr (by lia))
 exact this
structure Rn(rv:List (Str×Addr))(es:Str->List (Int×List z0f)):Prop where
 lo:0<rv.length
 hi:rv.length<=5
 ne:∀p∈rv,es p.1≠[]
 two:∀w,(es w).length<=2
 nn:∀p∈rv,p.1≠("nothing":Str)
theorem z2f{a b:V}(h:wareV a=false∨makeV b=false∨inE es a b=false):z2b es a b=false:=by
 unfold z2b
 rcases h with h|h|h<;>rw[h]
 ·rfl
 ·rw[Bool.false_and,Bool.and_false]
 ·rw[Bool.and_false,Bool.and_false]
noncomputable def mk0(es:Str->List (Int×List z0f))(w:Str):Int:=((es w).map (·.1)).headD 0
theorem z81(h:es w≠[]):((es w).map (·.1))[0]? =some (mk0 es w):=by
 unfold mk0
 cases e:es w with
 |nil=>exact absurd e h
 |cons p l=>rfl
theorem z82(h:es w≠[]):∃ns,(mk0 es w,ns)∈es w:=by
 have:=List.mem_of_getElem? (z81 h)
 obtain⟨p,hp,e⟩:=List.mem_map.mp this
 exact⟨p.2,by rw[<-e];exact hp⟩
noncomputable def z5o(l:List (Int×List z0f)):V->Bool
 | .int i=> !(vAt (esV l) i).isSome
 |_=>false
noncomputable def nine:List V:=[.int 1,.int 2,.int 3,.int 4,.int 5,.int 6,.int 7,.int 8,.int 9]
theorem z7Z{l:List (Int×List z0f)}(h2:l.length<=2)(hn:((esV l).map (·.1)).Nodup):∃m r,nine.filter (z5o l)= .int m::r/\1<=m/\m<=9/\vAt (esV l) m=none:=by
 cases e:nine.filter (z5o l) with
 |nil=>
  have hall:∀X∈nine,¬z5o l X=true:=List.filter_eq_nil_iff.mp e
  have hin:∀i:Int,1<=i->i<=3->i∈l.map (·.1):=λi h1 h3=>by
   have hX:V.int i∈nine:=by
    have:i=1∨i=2∨i=3:=by lia
    rcases this with rfl|rfl|rfl
    ·exact .head _
    ·exact .tail _ (.head _)
    ·exact .tail _ (.tail _ (.head _))
   have:=hall _ hX
   by_cases hm:i∈l.map (·.1)
   ·exact hm
   ·exact absurd (show(!(vAt (esV l) i).isSome)=true by rw[z1i (by rw[z0E];exact hm)];rfl) this
  have:=z4y (l:=[(1:Int),2,3]) (r:=l.map (·.1)) (by decide) (λi hi=>hin i (by simp at hi;lia) (by simp at hi;lia))
  rw[List.length_map] at this
  exact absurd this (by show¬3<=l.length;lia)
 |cons X r=>
  have hX:X∈nine.filter (z5o l):=by rw[e];exact .head _
  obtain⟨h1,h2⟩:=List.mem_filter.mp hX
  obtain⟨m,rfl,h3,h4⟩:∃m,X= .int m/\1<=m/\m<=9:=by
   unfold nine at h1
   simp only[List.mem_cons,List.not_mem_nil,or_false] at h1
   rcases h1 with rfl|rfl|rfl|rfl|rfl|rfl|rfl|rfl|rfl<;>exact⟨_,rfl,by decide,by decide⟩
  refine⟨m,r,rfl,h3,h4,?_⟩
  have h2:(!(vAt (esV l) m).isSome)=true:=h2
  cases e2:vAt (esV l) m with
  |none=>rfl
  |some x=>rw[e2] at h2;exact ff h2
noncomputable def z2U(r1:Expr):TC:=⟨[.loc 0,.call (.type "list") 1,.loc 1,.psh (.int 7),.binc .FloorDiv,.loc 0,.len,.binc .Mod,.sub,.asg 2,.loc 0,.loc 2,.sub,.call (.type "list") 1,.subT 0,.asg 3,.raw r1,.subT 0,.asg 4,.loc 2,.loc 4,.tup 2,.psh (.str "nothing"),.loc 3,.tup 2,.loc 2,.loc 3,.call (.type "str") 1,.tup 2,.loc 2,.psh (.bool true),.tup 2,.loc 2,.psh .none,.tup 2,.psh (.str ""),.loc 3,.tup 2,.lst 6,.asg 5,.loc 5,.loc 2,.psh (.int 0),.tup 2,.lst 1,.binc .Add,.loc 1,.psh (.int 7),.binc .Mod,.sub,.ret],[.inr r1],[([2],some [0])]⟩
--z2U 1
theorem z2R(H:G1 C)(S:Rw σ ro rv es)(R:Rn rv es){N:Int}(q:∀w' X,Asc w'->(∀τ,Dn τ 0 X X)->z2b es (.str w') X=false->Q (.tup [.str w',X]) σ):CW C (d+1) (.ref 429) [.ref ro,.int N] σ Q:=by
 refine z08 (G1.kin (by assumption)) ["_law_rows_here","_law_number","_law_ware","_law_make","_law_missing","_law_some"] [("list",.type "list"),("len",.bi "len"),("str",.type "str")] (by kernel_rfl) (vs2 λ_ _=>by kernel_rfl) rfl (z0a (z03 (by assumption)) (z0a (z00 (by assumption)) (z0a (y2c (by assumption)) GL_nil))) ?_
 intro env hsc
 have hrn:((kvV rv).map (·.1)).Nodup:=by rw[z0z];exact S.rwn
 have hkz:(kvV rv).length=rv.length:=List.length_map _
 have hkl:(kvV rv).length<=sizeLine:=z0M R.hi (by decide)
 have h0:0<(kvV rv).length:=by rw[hkz];exact R.lo
 refine z0n (z0x H) (z0A H) (z2U _) (by exact rfl) (by kernel_rfl) ?_
 intro F m0
 refine Leaf.mk (z2y H.ns S.rows hrn hkl (.inl ?_))
 refine Leaf.mk (z2M H.ns S.rows hrn hkl ?_)
 refine z2g h0 λj hj=> ?_
 have hj':j<rv.length:=hkz▸hj
 have hpe:rv[j]? =some rv[j]:=List.getElem?_eq_getElem hj'
 generalize rv[j]=p at hpe
 obtain⟨w,b⟩:=p
 have hb:=List.mem_of_getElem? hpe
 have hrb:vAt (kvV rv) w=some (.ref b):=z0v hrn (List.mem_map.mpr ⟨_,hb,rfl⟩)
 have hat:=S.rin _ hb
 have hen:((esV (es w)).map (·.1)).Nodup:=by rw[z0E];exact(S.eok w).nd
 have hne:=R.ne _ hb
 have hw:=S.wok _ hb
 obtain⟨ns,hmk⟩:=z82 hne
 have hmb:1<=mk0 es w/\mk0 es w<=999:=(S.eok w).mb _ hmk
 have hel:(esV (es w)).length<=sizeLine:=z0M (R.two w) (by decide)
 have hk0:((esV (es w)).map λp=>V.int p.1)[0]? =some (.int (mk0 es w)):=by
  have:=z81 hne
  rw[List.getElem?_map] at this⊢
  rw[List.getElem?_map]
  cases e:(es w)[0]? with
  |none=>rw[e] at this;cases this
  |some p=>rw[e] at this;exact congrArg (λz=>some (V.int z)) (Option.some.inj this)
 refine Leaf.mk (z01 (.lst _) (Nat.lt_of_lt_of_le hj' (Nat.le_trans R.hi (by decide))) (show((kvV rv).map λp=>V.str p.1)[j]? =some (.str w) by rw[List.getElem?_map,List.getElem?_map,hpe];rfl) ?_)
 refine Leaf.mk (z13 S.rows hrn hrb ?_)
 refine Leaf.mk (z8o H.ns hat hen hel (.inl ?_))
 refine Leaf.mk (z01 (i:=0) (.lst _) (by decide) hk0 ?_)
 refine Leaf.mk ?_
 show AT C env ["_law_rows_here","_law_number","_law_ware","_law_make","_law_missing","_law_some"] _ true _ (eval _ env) [some (.ref ro),some (.int N),some (.str w),some (.int (mk0 es w)),none,none] _ _
 refine z0H "_law_k" ["_law_rows_here","_law_ware"] [] (by rw[hsc];kernel_rfl) GL_nil (.cons LkC.lk (.cons LkC.lk .nil)) (z5e ?_)
 repeat' with_reducible first|refine z0p ?_|refine z1a ?_|refine z0b ?_|refine z0c ?_|fail
 refine⟨by with_unfolding_all exact Nat.le_of_ble_eq_true rfl,_,rfl,by with_unfolding_all exact Nat.le_of_ble_eq_true rfl,λenv' he=>z2J (f:=id) (t:=z5o (es w)) (z0r he (by decide+kernel)) trivial _ _ _ (λX hX K hK=> ?_) (λX hX _ K hK=> ?_) ?_⟩
 ·obtain⟨m,rfl⟩:∃m,X= .int m:=by
   simp only[List.mem_cons,List.not_mem_nil,or_false] at hX
   rcases hX with rfl|rfl|rfl|rfl|rfl|rfl|rfl|rfl|rfl<;>exact⟨_,rfl⟩
  repeat' with_reducible first|refine z0L ?_|refine z0d ?_|refine z0C ?_|fail
  refine z13 S.rows hrn hrb ?_
  exact y1P H.ns hat hen (z0h hK)
 ·with_reducible refine z0d ?_
  exact hK
 obtain⟨m,r,he,h1,h9,hv⟩:=z7Z (R.two w) hen
 have he:([V.int 1,.int 2,.int 3,.int 4,.int 5,.int 6,.int 7,.int 8,.int 9].filter (z5o (es w)))= .int m::r:=he
 rw[List.nil_append,he,List.map_id]
 refine Leaf.mk (z01 (i:=0) (.lst _) (by decide) rfl ?_)
 refine Leaf.mk (y36 (Nat.lt_of_le_of_lt (Nat.log2_le_self _) (by lia)) ?_)
 refine Leaf.mk (z1M (.lst _) (.lst _) (by with_unfolding_all exact Nat.le_of_ble_eq_true rfl) (z2d ?_))
 refine Leaf.mk (z2D (Int.fmod_nonneg_of_pos _ (by decide)) (Int.fmod_lt_of_pos _ (by decide)) (show 7<2^40 by decide) ?_)
 have hwa:=hw.asc
 refine List.forall_mem_cons.mpr ⟨q _ _ hwa (λ_=> .int _) (z2f (.inr (.inr (by show(vAt (esV (es w)) m).isSome=false;rw[hv];rfl)))),?_⟩
 refine List.forall_mem_cons.mpr ⟨q _ _ ⟨by decide+kernel,by decide+kernel⟩ (λ_=> .int _) (z2f (.inr (.inr (by
  show(vAt (esV (es "nothing")) (mk0 es w)).isSome=false
  rw[S.out "nothing" λhm=>by
   obtain⟨p,hp,e⟩:=List.mem_map.mp hm
   exact R.nn p hp e];rfl)))),?_⟩
 refine List.forall_mem_cons.mpr ⟨q _ _ hwa (λ_=> .str _ (y2U hmb.1 hmb.2)) (z2f (.inr (.inl rfl))),?_⟩
 refine List.forall_mem_cons.mpr ⟨q _ _ hwa (λ_=> .bool _) (z2f (.inr (.inl rfl))),?_⟩
 refine List.forall_mem_cons.mpr ⟨q _ _ hwa (λ_=> .none) (z2f (.inr (.inl rfl))),?_⟩
 refine List.forall_mem_cons.mpr ⟨q _ _ ⟨by decide+kernel,by decide+kernel⟩ (λ_=> .int _) (z2f (.inl (by decide+kernel))),?_⟩
 exact List.forall_mem_cons.mpr ⟨q _ _ hwa (λ_=> .int _) (z2f (.inr (.inl rfl))),λ_ h=>by cases h⟩
end
end
section
section
variable {C:Cx} [HM C] [NF C] {d:Nat} {σ:Sto} {Q:V->Sto->Prop} {EQ:Value->Sto->Prop} {i k ro:Addr} {kv rv:List (Str×Addr)} {es:Str->List (Int×List z0f)} {w:Str} {ps:List (Str×Int)}
inductive BadP(es:Str->List (Int×List z0f))(τ:Sto):V->Prop
 |no {n:Nat} {v t:V}:Dn τ n v t->tkB t .dct=false->BadP es τ v
 |ds {pa:Addr} {kvs:List (Str×V)}:At τ pa (dS kvs)->(kvs.map (·.1)).Nodup->kvs.length<=20->(∀p∈kvs,Asc p.1/\Dn τ 0 p.2 p.2)->kvs.all (hsV es)=false->BadP es τ (.ref pa)
noncomputable def pk0(es:Str->List (Int×List z0f))(ws:List Str):List (Str×Int):=ws.map λw=>(w,mk0 es w)
noncomputable def prW(es:Str->List (Int×List z0f)):V->V
 | .str w=>prV (w,mk0 es w)
 |v=>v
theorem z9a(ws:List Str):(ws.map V.str).map (prW es)=(pk0 es ws).map prV:=by
 unfold pk0;rw[List.map_map,List.map_map];rfl
theorem z8p(ws:List Str):(pk0 es ws).map (·.1)=ws:=by
 unfold pk0;rw[List.map_map];exact List.map_id _
theorem y1B(S:Rw σ ro rv es)(R:Rn rv es){n:Nat}:PkB (pk0 es ((rv.map (·.1)).take n))/\PkIn es (pk0 es ((rv.map (·.1)).take n)):=by
 have hin:∀w∈(rv.map (·.1)).take n,Ware w/\∃ns,(mk0 es w,ns)∈es w:=λw hw=>by
  apply z0o (List.mem_of_mem_take hw);intro p hp
  exact⟨S.wok p hp,z82 (R.ne p hp)⟩
 refine⟨⟨by rw[z8p];exact(List.take_sublist _ _).nodup S.rwn,?_,λp hp=> ?_⟩,λp hp=> ?_⟩
 ·unfold pk0;rw[List.length_map,List.length_take,List.length_map];have:=R.hi;lia
 ·apply z0o hp;intro w hw
  obtain⟨h1,ns,h2⟩:=hin w hw
  exact⟨h1,(S.eok w).mb _ h2⟩
 ·apply z0o hp;intro w hw
  exact(hin w hw).2
theorem z7o(H:G1 C)(S:Rw σ ro rv es)(R:Rn rv es){b:Addr}(hb:(w,b)∈rv)(q:Q (.lst ((esV (es w)).map λp=>V.int p.1)) σ):KW C d (.type "list") [.ref b] σ Q:=
 z8o H.ns (S.rin _ hb) (by rw[z0E];exact(S.eok w).nd) (z0M (R.two w) (by decide)) (.inl q)
theorem z7f(h:es w≠[])(q:Q (.int (mk0 es w)) σ):SubR C d (.lst ((esV (es w)).map λp=>V.int p.1)) (.int 0) σ Q:=by
 refine z01 (i:=0) (.lst _) (by decide) ?_ q
 have:=z81 h
 rw[List.getElem?_map] at this⊢
 rw[List.getElem?_map]
 cases e:(es w)[0]? with
 |none=>rw[e] at this;cases this
 |some p=>rw[e] at this;exact congrArg (λz=>some (V.int z)) (Option.some.inj this)
theorem y2a(rv:List (Str×Addr)):(kvV rv).map (λp=>V.str p.1)=(rv.map (·.1)).map V.str:=by rw[List.map_map,List.map_map];rfl
theorem z2k{τ:Sto}:∀{l:List (Str×Int)},(∀p∈l,Ware p.1)->F2 (Dn τ 3) (l.map prV) (l.map prV)
 |[],_=> .nil
 |p::l,h=> .cons (.tF (.cons (dnS τ (h p (.head _))) (.cons (.int _) .nil))) (z2k λq hq=>h q (.tail _ hq))
theorem z9g{τ:Sto}{n:Nat}:∀{l:List Str},(∀p∈l,Ware p)->F2 (Dn τ n) (l.map V.str) (l.map V.str)
 |[],_=> .nil
 |p::l,h=> .cons (dnS τ (h p (.head _))) (z9g λq hq=>h q (.tail _ hq))
set_option tactic.hygienic true in
theorem y3c{kvs:List (Str×V)}{w:Str}{X:V}:(w,X)∈z1w kvs w X:=by
 unfold z1w
 split
 ·rename_i h
  obtain⟨p,hp,e⟩:=List.any_eq_true.mp h
  have e:p.1=w:=of_decide_eq_true e
  exact List.mem_map.mpr ⟨p,hp,by rw[if_pos e,e]⟩
 ·exact List.mem_append_right _ (.head _)
set_option tactic.hygienic true in
theorem y0E{kvs:List (Str×V)}{w:Str}{X:V}{p:Str×V}(h:p∈z1w kvs w X):p=(w,X)∨p∈kvs:=by
 unfold z1w at h
 split at h
 ·apply z0o h;intro p' hp
  split
  ·rename_i e;exact .inl (by rw[e])
  ·exact .inr hp
 ·rcases List.mem_append.mp h with h|h
  ·exact .inr h
  ·exact .inl (List.mem_singleton.mp h)
set_option tactic.hygienic true in
theorem y2y{kvs:List (Str×V)}{w:Str}{X:V}(hn:(kvs.map (·.1)).Nodup):((z1w kvs w X).map (·.1)).Nodup:=by
 unfold z1w
 split
 ·rw[List.map_map,show((λp:Str×V=>p.1)∘λp=>if p.1=w then(p.1,X) else p)=λp=>p.1 by funext p;show(if p.1=w then(p.1,X) else p).1=p.1;split<;>rfl]
  exact hn
 ·rename_i h
  rw[List.map_append]
  refine z0Y hn λhm=>h ?_
  obtain⟨p,hp,e⟩:=List.mem_map.mp hm
  exact List.any_eq_true.mpr ⟨p,hp,decide_eq_true e⟩
theorem y2M{kvs:List (Str×V)}{w:Str}{X:V}:(z1w kvs w X).length<=kvs.length+1:=by
 unfold z1w
 split
 ·rw[List.length_map];exact Nat.le_succ _
 ·rw[List.length_append];exact Nat.le_refl _
noncomputable def z2V(r1:Expr)(r2:Stmt):TC:=⟨[.raw r1,.call (.type "dict") 1,.asg 2,.loc 1,.psh (.int 5),.binc .Mod,.psh (.int 0),.tcmpc .Eq,.ife [.rawS r2] [],.loc 0,.loc 1,.psh (.int 40),.binc .FloorDiv,.call (.ref 429) 2,.asg2 3 4,.loc 4,.loc 2,.loc 3,.setI,.loc 2,.ret],[.inr r1,.inl r2],[([0],some [1]),([1,0,0],none)]⟩
--z2V 2
theorem z4Z(H:G1 C)(S:Rw σ ro rv es)(R:Rn rv es){N:Int}(q:∀v σ',BadP es σ' v->(∀p∈σ,p∈σ')->Q v σ'):CW C (d+2) (.ref 434) [.ref ro,.int N] σ Q:=by
 refine z08 (G1.kin (by assumption)) ["_law_rows_here","_law_number","_law_pick","_law_ware","_law_make"] [("dict",.type "dict"),("list",.type "list"),("len",.bi "len"),("_law_bad_pair",.ref 429)] (by kernel_rfl) (vs2 λ_ _=>by kernel_rfl) rfl (z0a (z3x (by assumption)) (z0a (z03 (by assumption)) (z0a (z00 (by assumption)) (z0a (z2W (by assumption)) GL_nil)))) ?_
 intro env hsc
 have hrn:((kvV rv).map (·.1)).Nodup:=by rw[z0z];exact S.rwn
 have hkz:(kvV rv).length=rv.length:=List.length_map _
 have hkl:(kvV rv).length<=sizeLine:=z0M R.hi (by decide)
 refine z0n (z0x H) (z0A H) (z2V _ _) (by exact rfl) (by kernel_rfl) ?_
 intro F m0
 refine Leaf.mk ?_
 show AT C env ["_law_rows_here","_law_number","_law_pick","_law_ware","_law_make"] _ true _ (eval _ env) [some (.ref ro),some (.int N),none,none,none] _ _
 refine z0H "_law_ware" ["_law_rows_here"] [("list",.type "list")] (by rw[hsc];kernel_rfl) (z0a (z03 H) GL_nil) (.cons LkC.lk .nil) (z0W ?_)
 repeat' with_reducible first|refine z0d ?_|refine z0s ?_|refine z0i ?_|refine z0C ?_|refine z0b ?_|refine z0c ?_|refine⟨z0u,?_⟩|fail
 refine z2y H.ns S.rows hrn hkl (.inl ?_)
 rw[y2a]
 repeat' with_reducible first|refine z0d ?_|refine z0s ?_|refine z0p ?_|refine z0i ?_|refine z0I ?_|refine z20 ?_|refine z1m ?_|refine z17 ?_|refine z0b ?_|refine z0c ?_|refine z2z ?_ (by with_unfolding_all decide) (by with_unfolding_all decide)|refine⟨z0q,?_⟩|fail
 refine z2M H.ns S.rows hrn hkl ?_
 repeat' with_reducible first|refine z0p ?_|refine z4Q ?_|fail
 rw[hkz]
 refine z3b ?_ (by lia)
 obtain⟨n,hn,hnl⟩:∃n:Nat,(N.fdiv 5).fmod ((rv.length:Int)+1)=(n:Int)/\n<=rv.length:=by
  have hp:(0:Int)<(rv.length:Int)+1:=by lia
  obtain⟨n,hn⟩:=Int.eq_ofNat_of_zero_le (Int.fmod_nonneg_of_pos (N.fdiv 5) hp)
  have:=Int.fmod_lt_of_pos (N.fdiv 5) hp
  exact⟨n,hn,by lia⟩
 rw[hn]
 with_reducible refine z1m ?_
 refine z1N (.lst _) .none (.int _) .none nofun (z0M (n:=5) (by rw[List.length_map];exact R.hi) (by decide)) (z2d ?_)
 rw[z3c _ (by rw[List.length_map,List.length_map];exact hnl),<-List.map_take]
 have hkt:∀w∈(rv.map (·.1)).take n,w∈rv.map (·.1):=λw hw=>List.mem_of_mem_take hw
 refine⟨_,_,.lst _,z0M (n:=5) (by rw[List.length_take,List.length_map];have:=R.hi;lia) (by decide),λenv' he=>z0K (f:=prW es) (z0r he (by decide+kernel)) trivial _ _ _ (λX hX K hK=> ?_) ?_⟩
 ·obtain⟨w,hw,rfl⟩:=List.mem_map.mp hX
  obtain⟨b,hb,hrb,_⟩:=S.at (hkt w hw)
  repeat' with_reducible first|refine z0d ?_|refine z0s ?_|refine z0p ?_|refine z0i ?_|refine z0C ?_|refine z1a ?_|refine z0b ?_|refine z0c ?_|refine⟨z0u,?_⟩|refine z13 S.rows hrn hrb ?_|refine z7o H S R hb ?_|refine z7f (R.ne _ hb) ?_|fail
  exact⟨by with_unfolding_all exact Nat.le_of_ble_eq_true rfl,hK⟩
 rw[List.nil_append,z9a]
 obtain⟨pb,pi⟩:=y1B S R (n:=n)
 have hwk:∀w∈(rv.map (·.1)).take n,Ware w:=λw hw=>by
  apply z0o (hkt w hw);intro p hp
  exact S.wok p hp
 clear hkt
 have hpks:=z8p (es:=es) ((rv.map (·.1)).take n)
 have hpl:(pk0 es ((rv.map (·.1)).take n)).length<=5:=by unfold pk0;rw[List.length_map,List.length_take,List.length_map];have:=R.hi;lia
 have hpw:∀p∈pk0 es ((rv.map (·.1)).take n),Ware p.1:=λp hp=>(pb.ok p hp).1
 refine Leaf.mk (z7M (.lst _) pb λpa o hf=> ?_)
 generalize pk0 es ((rv.map (·.1)).take n)=pk at*
 have hpn:((pkV pk).map (·.1)).Nodup:=by rw[z0B];exact pb.nd
 have hpz:(pkV pk).length<=sizeLine:=z0M hpl (by decide)
 have hpz5:(pkV pk).length<=5:=by rw[List.length_map];exact hpl
 refine z0T (λ_=> ?_) λ_=> ?_
 ·refine Leaf.mk ?_
  show AS C env ["_law_rows_here","_law_number","_law_pick","_law_ware","_law_make"] _ true _ (exec _ env) [some (.ref ro),some (.int N),some (.ref pa),none,none] _ _
  refine z5s (z0C (z0P ?_))
  repeat' with_reducible first|refine z0d ?_|refine z0s ?_|refine z0p ?_|refine z6H ?_|refine z0i ?_|refine z0b ?_|refine z0c ?_|refine⟨z0u,?_⟩|fail
  refine z2y H.ns At.hd hpn hpz (.inl ?_)
  repeat' with_reducible first|refine z6W ?_|refine z0b ?_|fail
  refine z0H "_law_ware" ["_law_pick"] [] (by rw[hsc];kernel_rfl) GL_nil (.cons LkC.lk .nil) (z6G (KK.str C.prog C.w) H.ns ?_)
  with_reducible refine z0d ?_
  refine⟨pa,o,pkV pk,rfl,.head _,hpn,z0y (by rw[List.length_map];exact Nat.le_trans hpz5 (by decide)),λenv' he=>z4C (z0r he (by decide+kernel)) (.head _) _ (pk.map prV) _ _ (by rw[List.length_map,List.length_map,List.length_map]) (λj X Y hX hY K hK=> ?_) ?_⟩
  ·rw[List.getElem?_map,List.getElem?_map] at hX
   rw[List.getElem?_map] at hY
   cases e:pk[j]? with
   |none=>rw[e] at hX;cases hX
   |some p=>
    rw[e] at hX hY
    have hv:vAt (pkV pk) p.1=some (.int p.2):=z0v hpn (List.mem_map.mpr ⟨p,List.mem_of_getElem? e,rfl⟩)
    rw[<-Option.some.inj hY] at hK
    rw[<-Option.some.inj hX]
    show AT C env' _ _ _ _ _ (some (V.str p.1)::_) _ _
    repeat' with_reducible first|refine z0d ?_|refine z0C ?_|refine z1a ?_|refine z0b ?_|refine z0c ?_|refine z13 At.hd hpn hv ?_|fail
    exact⟨by with_unfolding_all exact Nat.le_of_ble_eq_true rfl,hK⟩
  rw[List.nil_append]
  with_reducible refine z0c ?_
  refine⟨by with_unfolding_all exact Nat.le_of_ble_eq_true rfl,?_⟩
  repeat' with_reducible first|refine z0d ?_|refine z0p ?_|refine z0I ?_|refine z3b ?_ (by with_unfolding_all decide)|refine z2z ?_ (by with_unfolding_all decide) (by with_unfolding_all decide)|fail
  refine z2D (Int.fmod_nonneg_of_pos _ (by decide)) (Int.fmod_lt_of_pos _ (by decide)) (show 5<2^40 by decide) λX hX=> ?_
  refine q X _ ?_ λp hp=> .tail _ hp
  revert X
  refine List.forall_mem_cons.mpr ⟨.no (.none (n:=0)) rfl,?_⟩
  refine List.forall_mem_cons.mpr ⟨.no (.int (n:=0) _) rfl,?_⟩
  refine List.forall_mem_cons.mpr ⟨?_,?_⟩
  ·rw[show((pkV pk).map λp=>V.str p.1)=(pk.map (·.1)).map V.str by rw[List.map_map,List.map_map];rfl]
   exact .no (.lF (z9g (n:=0) (by rw[hpks];exact hwk)) (by rw[List.length_map,List.length_map];lia)) rfl
  refine List.forall_mem_cons.mpr ⟨.no (.str (n:=0) "pick" (z7v (by decide+kernel))) rfl,?_⟩
  exact List.forall_mem_cons.mpr ⟨.no (.lF (z2k hpw) (by rw[List.length_map];lia)) rfl,λ_ h=>by cases h⟩
 ·refine Leaf.mk (fnc (z2R H (S.frame λ_ _ _ h=>h.cons _) R λw' X hA hD hh=> ?_))
  refine Leaf.mk (z47 hpn hpz λo'=> ?_)
  refine q _ _ (.ds At.hd (y2y hpn) (Nat.le_trans y2M (Nat.le_trans (Nat.succ_le_succ hpz5) (by decide))) (λp hp=> ?_) (List.all_eq_false.mpr ⟨_,y3c,by show¬z2b es (.str w') X=true;rw[hh];exact Bool.false_ne_true⟩)) λp hp=> .tail _ hp
  rcases y0E hp with rfl|hp
  ·exact⟨hA,hD _⟩
  ·apply z0o hp;intro p' hp'
   exact⟨(hpw p' hp').asc,.int _⟩
end
end
section
section
variable {C:Cx} [HM C] [NF C] {d:Nat} {σ:Sto} {Q:V->Sto->Prop} {EQ:Value->Sto->Prop} {i k ro:Addr} {kv rv:List (Str×Addr)} {es:Str->List (Int×List z0f)} {w:Str} {ps:List (Str×Int)}
inductive BadG(es:Str->List (Int×List z0f))(τ:Sto):V->Prop
 |no {n:Nat} {v t:V}:Dn τ n v t->tkB t .lst=false->BadG es τ v
 |dct {a:Addr} {kvs:List (Str×V)}:At τ a (dS kvs)->BadG es τ (.ref a)
 |ls {xs ts:List V}:F2 (Dn τ 3) xs ts->xs.length<=200->grO es [] ts=none->BadG es τ (.lst xs)
inductive BadO(es:Str->List (Int×List z0f))(τ:Sto)(v:V):Prop
 |mk {t:V}:Dn τ 3 v t->(∀done L,grO es done (t::L)=none)->BadO es τ v
theorem z8I{es:Str->List (Int×List z0f)}{pk:List (Str×Int)}(pb:PkB pk)(pi:PkIn es pk)(en:∀w,((es w).map (·.1)).Nodup):∀p∈pk,z2b es (.str p.1) (.int p.2)=true:=λp hp=>by
 obtain⟨ns,hns⟩:=pi p hp
 obtain⟨hw,h1,h2⟩:=pb.ok p hp
 show(wareV (.str p.1)&&((decide (1<=p.2)&&decide (p.2<=999))&&(vAt (esV (es p.1)) p.2).isSome))=true
 rw[z4f hw,decide_eq_true h1,decide_eq_true h2,z0v (by rw[z0E];exact en p.1) (List.mem_map.mpr ⟨_,hns,rfl⟩)];rfl
theorem z35{L:List V}:∀{A done:List (Str×Int)},(∀p∈A,z2b es (.str p.1) (.int p.2)=true)->((done++A).map (·.1)).Nodup->grO es done (A.map prV++L)=grO es (done++A) L
 |[],done,_,_=>by rw[List.append_nil];rfl
 |p::A,done,h,hn=>by
  have hnew:p.1∉done.map (·.1):=λhm=>by
   rw[List.map_append] at hn
   exact(List.nodup_append.mp hn).2.2 _ hm _ (.head _) rfl
  have e:(vAt (pkV done) p.1).isSome=false:=by rw[z1i (by rw[z0B];exact hnew)];rfl
  have:=y2p (done:=done) (Ts:=A.map prV++L) (h p (.head _))
  rw[e] at this
  refine Eq.trans this ?_
  have ih:=z35 (L:=L) (A:=A) (done:=done++[p]) (λq hq=>h q (.tail _ hq)) (by rw[List.append_assoc];exact hn)
  rw[List.append_assoc] at ih
  exact ih
theorem z9A{L:List V}{done:List (Str×Int)}{p:Str×Int}(hd:(done.map (·.1)).Nodup)(h:p∈done):grO es done (prV p::L)=none:=by
 have e:(vAt (pkV done) p.1).isSome=true:=by rw[z0v (by rw[z0B];exact hd) (List.mem_map.mpr ⟨p,h,rfl⟩)];rfl
 show(match z2b es (.str p.1) (.int p.2)&& !(vAt (pkV done) p.1).isSome with|true=>grO es (done++[p]) L|false=>none)=none
 rw[e,Bool.not_true,Bool.and_false]
theorem y0W{τ:Sto}{a b:List (Str×Int)}{X:V}(ha:∀p∈a,Ware p.1)(hb:∀p∈b,Ware p.1)(hl:a.length+1+b.length<=200)(hh:∀p∈a,z2b es (.str p.1) (.int p.2)=true)(hn:(a.map (·.1)).Nodup)(h:BadO es τ X):BadG es τ (.lst (a.map prV++[X]++b.map prV)):=by
 obtain⟨h1,h2⟩:=h
 refine .ls (((z2k ha).app (.cons h1 .nil)).app (z2k hb)) (by simp;lia) ?_
 rw[List.append_assoc,z35 (done:=[]) hh hn]
 exact h2 _ _
theorem y1Z{τ:Sto}{p:Str×Int}{l:List (Str×Int)}{n:Nat}(hw:∀q∈p::l,Ware q.1)(hl:(p::l).length<=100)(hh:∀q∈p::l,z2b es (.str q.1) (.int q.2)=true)(hn:((p::l).map (·.1)).Nodup):BadG es τ (.lst (((p::l).take n).map prV++[prV p]++((p::l).drop n).map prV)):=by
 have hp1:F2 (Dn τ 3) [prV p] [prV p]:=z2k (l:=[p]) λq hq=>by rw[List.mem_singleton.mp hq];exact hw p (.head _)
 refine .ls (((z2k λq hq=>hw q (List.mem_of_mem_take hq)).app hp1).app (z2k λq hq=>hw q (List.mem_of_mem_drop hq))) (by rw[List.length_append,List.length_append,List.length_map,List.length_map,List.length_take,List.length_drop];show _+1+_<=_;lia) ?_
 rw[List.append_assoc]
 cases n with
 |zero=>
  show grO es [] (prV p::prV p::l.map prV)=none
  have:=z35 (es:=es) (L:=prV p::l.map prV) (A:=[p]) (done:=[]) (λq hq=>by rw[List.mem_singleton.mp hq];exact hh p (.head _)) (List.nodup_cons.mpr ⟨List.not_mem_nil,List.nodup_nil⟩)
  refine Eq.trans this (z9A (List.nodup_cons.mpr ⟨List.not_mem_nil,List.nodup_nil⟩) (.head _))
 |succ n=>
  have hs:(((p::l).take (n+1)).map (·.1)).Nodup:=((List.take_sublist _ _).map _).nodup hn
  rw[z35 (A:=(p::l).take (n+1)) (done:=[]) (λq hq=>hh q (List.mem_of_mem_take hq)) hs]
  exact z9A hs (.head _)
theorem y0s{l:List (Str×Int)}(hw:∀p∈l,Ware p.1)(q:Q (.bool (!l.isEmpty)) σ):AC2 C d (compareOp .NotEq) (.lst (l.map prV)) (.lst []) σ Q:=by
 have D:Dat (l.map prV) (l.map λp=>PyData.tuple [.str p.1,.int p.2]):=z7C prV _ l (λ_ p=> .tup (.cons (.str _) (.cons (.int _) .nil))) (λp=>by simp[PyData.depth,PyData.depthAll]) λp hp=>by simp only[PyData.canLay0,PyData.canLayAll0,(hw p hp).ok,Bool.and_self]
 refine z9w D (.lst _) ?_
 rw[List.isEmpty_map];exact q
theorem z6a{xs:List V}{X:V}(h:xs[0]? =some X)(q:Q X σ):SubR C d (.lst xs) (.int 0) σ Q:=z01 (i:=0) (.lst _) (by decide) h q
theorem z5n(H:G1 C)(S:Rw σ ro rv es)(R:Rn rv es)(q:Q (.lst ((kvV rv).map λp=>V.str p.1)) σ):KW C d (.type "list") [.ref ro] σ Q:=z2y H.ns S.rows (by rw[z0z];exact S.rwn) (z0M R.hi (by decide)) (.inl q)
noncomputable def z2E(r1:Stmt)(r2:Stmt):TC:=⟨[.cut [.rawS r1],.cut [.loc 1,.psh (.int 40),.binc .FloorDiv,.loc 2,.len,.psh (.int 1),.binc .Add,.binc .Mod,.asg 3],.loc 1,.psh (.int 5),.binc .Mod,.psh (.int 0),.tcmpc .Eq,.ife [.psh .none,.psh (.int 5),.loc 2,.call (.type "tuple") 1,.loc 2,.call (.type "dict") 1,.psh (.str "pairs"),.lst 5,.loc 1,.psh (.int 400),.binc .FloorDiv,.psh (.int 5),.binc .Mod,.sub,.ret] [],.cut [.loc 1,.psh (.int 5),.binc .Mod,.psh (.int 1),.tcmpc .Eq,.mop .And [.loc 2,.lst 0,.tcmpc .NotEq,.mop .And [.psh (.bool true)]],.ife [.loc 2,.psh .none,.loc 3,.psh .none,.slc,.sub,.loc 2,.subT 0,.lst 1,.binc .Add,.loc 2,.loc 3,.psh .none,.psh .none,.slc,.sub,.binc .Add,.ret] []],.rawS r2,.loc 4,.mty "list",.loc 0,.call (.type "list") 1,.subT 0,.lst 1,.psh (.int 1),.tup 2,.meth (.bi "list.append") 1,.pop,.loc 2,.psh .none,.loc 3,.psh .none,.slc,.sub,.loc 4,.loc 1,.psh (.int 200),.binc .FloorDiv,.psh (.int 6),.binc .Mod,.sub,.lst 1,.binc .Add,.loc 2,.loc 3,.psh .none,.psh .none,.slc,.sub,.binc .Add,.ret],[.inl r1,.inl r2],[([0],none),([4],none)]⟩
--z2E 2
theorem z4r(H:G1 C)(S:Rw σ ro rv es)(R:Rn rv es){N:Int}(q:∀v σ',BadG es σ' v->(∀p∈σ,p∈σ')->Q v σ'):CW C (d+2) (.ref 439) [.ref ro,.int N] σ Q:=by
 refine z08 (G1.kin (by assumption)) ["_law_rows_here","_law_number","_law_pairs","_law_at","_law_odd"] [("list",.type "list"),("len",.bi "len"),("tuple",.type "tuple"),("dict",.type "dict"),("_law_bad_pair",.ref 429)] (by kernel_rfl) (vs2 λ_ _=>by kernel_rfl) rfl (z0a (z03 (by assumption)) (z0a (z00 (by assumption)) (z0a (z12 (by assumption)) (z0a (z3x (by assumption)) (z0a (z2W (by assumption)) GL_nil))))) ?_
 intro env hsc
 have hrn:((kvV rv).map (·.1)).Nodup:=by rw[z0z];exact S.rwn
 have hkz:(kvV rv).length=rv.length:=List.length_map _
 have hkl:(kvV rv).length<=sizeLine:=z0M R.hi (by decide)
 refine z0n (z0x H) (z0A H) (z2E _ _) (by exact rfl) (by kernel_rfl) ?_
 intro F m0
 refine z3w (α:=List (Str×Int)) (λpk=>PkB pk/\PkIn es pk/\pk.length<=5) (λpk=>[some (.ref ro),some (.int N),some (.lst (pk.map prV)),none,none]) σ (λK hK _=> ?_) λpk hpk=> ?_
 ·refine Leaf.mk ?_
  show AS C env ["_law_rows_here","_law_number","_law_pairs","_law_at","_law_odd"] _ true _ (exec _ env) [some (.ref ro),some (.int N),none,none,none] _ _
  refine z1v "_law_ware" ["_law_rows_here"] [("list",.type "list")] (z26 (by rw[hsc];kernel_rfl)) (by rw[hsc];kernel_rfl) (z0a (z03 H) GL_nil) (.cons LkC.lk .nil) (z0W ?_)
  repeat' with_reducible first|refine z0d ?_|refine z0s ?_|refine z0i ?_|refine z0C ?_|refine z0b ?_|refine z0c ?_|refine⟨z0u,?_⟩|fail
  refine z2y H.ns S.rows hrn hkl (.inl ?_)
  rw[y2a]
  repeat' with_reducible first|refine z0d ?_|refine z0s ?_|refine z0p ?_|refine z0i ?_|refine z0I ?_|refine z20 ?_|refine z1m ?_|refine z17 ?_|refine z0b ?_|refine z0c ?_|refine z2z ?_ (by with_unfolding_all decide) (by with_unfolding_all decide)|refine⟨z0q,?_⟩|fail
  refine z2M H.ns S.rows hrn hkl ?_
  repeat' with_reducible first|refine z0p ?_|refine z4Q ?_|fail
  rw[hkz]
  refine z3b ?_ (by lia)
  obtain⟨n,hn,hnl⟩:∃n:Nat,(N.fdiv 5).fmod ((rv.length:Int)+1)=(n:Int)/\n<=rv.length:=by
   have hp:(0:Int)<(rv.length:Int)+1:=by lia
   obtain⟨n,hn⟩:=Int.eq_ofNat_of_zero_le (Int.fmod_nonneg_of_pos (N.fdiv 5) hp)
   have:=Int.fmod_lt_of_pos (N.fdiv 5) hp
   exact⟨n,hn,by lia⟩
  rw[hn]
  with_reducible refine z1m ?_
  refine z1N (.lst _) .none (.int _) .none nofun (z0M (n:=5) (by rw[List.length_map];exact R.hi) (by decide)) (z2d ?_)
  rw[z3c _ (by rw[List.length_map,List.length_map];exact hnl),<-List.map_take]
  have hkt:∀w∈(rv.map (·.1)).take n,w∈rv.map (·.1):=λw hw=>List.mem_of_mem_take hw
  refine⟨_,_,.lst _,z0M (n:=5) (by rw[List.length_take,List.length_map];have:=R.hi;lia) (by decide),λenv' he=>z0K (f:=prW es) (z0r he (by decide+kernel)) trivial _ _ _ (λX hX K hK=> ?_) ?_⟩
  ·obtain⟨w,hw,rfl⟩:=List.mem_map.mp hX
   obtain⟨b,hb,hrb,_⟩:=S.at (hkt w hw)
   repeat' with_reducible first|refine z0d ?_|refine z0s ?_|refine z0p ?_|refine z0i ?_|refine z0C ?_|refine z1a ?_|refine z0b ?_|refine z0c ?_|refine⟨z0u,?_⟩|refine z13 S.rows hrn hrb ?_|refine z7o H S R hb ?_|refine z7f (R.ne _ hb) ?_|fail
   exact⟨by with_unfolding_all exact Nat.le_of_ble_eq_true rfl,hK⟩
  rw[List.nil_append,z9a]
  obtain⟨pb,pi⟩:=y1B S R (n:=n)
  have hwk:∀w∈(rv.map (·.1)).take n,Ware w:=λw hw=>by
   apply z0o (hkt w hw);intro p hp
   exact S.wok p hp
  clear hkt
  with_reducible refine z2A ?_
  exact hK _ ⟨pb,pi,by unfold pk0;rw[List.length_map,List.length_take,List.length_map];have:=R.hi;lia⟩
 obtain⟨pb,pi,h5⟩:=hpk
 have hpw:∀p∈pk,Ware p.1:=λp hp=>(pb.ok p hp).1
 have hph:=z8I pb pi λw=>(S.eok w).nd
 have gz:(pk.map prV).length=pk.length:=List.length_map _
 have gzl:(pk.map prV).length<=sizeLine:=z0M h5 (by decide)
 refine z3w (α:=Nat) (λa=>a<=pk.length) (λa=>[some (.ref ro),some (.int N),some (.lst (pk.map prV)),some (.int (a:Int)),none]) σ (λK hK _=> ?_) λa ha=> ?_
 ·refine Leaf.mk (z1o (.lst _) gz gzl ?_)
  exact z7p (P:=λz=>K .next [some (.ref ro),some (.int N),some (.lst (pk.map prV)),some (.int z),none] σ) (n:=pk.length+1) (Nat.succ_pos _) λa ha=>hK a (Nat.le_of_lt_succ ha)
 refine z0T (λ_=> ?_) λ_=> ?_
 ·refine Leaf.mk (z8y (.lst _) gzl ?_)
  refine Leaf.mk (z7M (.lst _) pb λpa o hf=> ?_)
  refine Leaf.mk (z2D (Int.fmod_nonneg_of_pos _ (by decide)) (Int.fmod_lt_of_pos _ (by decide)) (show 5<2^40 by decide) λX hX=> ?_)
  refine q X _ ?_ λp hp=> .tail _ hp
  revert X
  refine List.forall_mem_cons.mpr ⟨.no (.none (n:=0)) rfl,?_⟩
  refine List.forall_mem_cons.mpr ⟨.no (.int (n:=0) _) rfl,?_⟩
  refine List.forall_mem_cons.mpr ⟨.no (.tF (z2k hpw) (by rw[gz];lia)) rfl,?_⟩
  refine List.forall_mem_cons.mpr ⟨.dct At.hd,?_⟩
  exact List.forall_mem_cons.mpr ⟨.no (.str (n:=0) "pairs" (z7v (by decide+kernel))) rfl,λ_ h=>by cases h⟩
 have nd1:=pb.nd
 refine y3y [some (.ref ro),some (.int N),some (.lst (pk.map prV)),some (.int (a:Int)),none] σ (λK hK hR=> ?_) ?_
 ·refine z0T (λ_=> ?_) λ_=>hK
  refine Leaf.mk (y0s hpw (z0h ?_))
  cases pk with
  |nil=>exact hK
  |cons p l=>
   refine Leaf.mk (z1N (.lst _) .none (.int _) .none nofun gzl (z2d ?_))
   rw[z3c _ (by rw[gz];exact ha),<-List.map_take]
   refine Leaf.mk (z01 (i:=0) (.lst _) (by decide) rfl ?_)
   refine Leaf.mk (z1M (.lst _) (.lst _) (z0y (by rw[List.length_map,List.length_take];show _+1<=_;lia)) (z2d ?_))
   refine Leaf.mk (z1N (.lst _) (.int _) .none .none nofun gzl (z2d ?_))
   rw[z5g _ (by rw[gz];exact ha),<-List.map_drop]
   refine Leaf.mk (z1M (.lst _) (.lst _) (z0y (by rw[List.length_append,List.length_map,List.length_take,List.length_map,List.length_drop];show _+1+_<=_;lia)) (z2d ?_))
   exact hR _ _ _ nofun (q _ _ (y1Z hpw (Nat.le_trans h5 (by decide)) hph nd1) λp hp=>hp)
 have h0:0<rv.length:=R.lo
 obtain⟨⟨nm,b0⟩,rv',hrv⟩:∃p rv',rv=p::rv':=by cases rv with
  |nil=>exact absurd h0 (Nat.lt_irrefl _)
  |cons p l=>exact⟨p,l,rfl⟩
 have hnm:Ware nm:=S.wok (nm,b0) (by rw[hrv];exact .head _)
 have hk0:((kvV rv).map λp=>V.str p.1)[0]? =some (.str nm):=by rw[hrv];rfl
 refine Leaf.mk ?_
 show AS C env ["_law_rows_here","_law_number","_law_pairs","_law_at","_law_odd"] _ true _ (exec _ env) [some (.ref ro),some (.int N),some (.lst (pk.map prV)),some (.int (a:Int)),none] _ _
 refine z1C (z5u ?_)
 repeat' with_reducible first|refine z0d ?_|refine z0s ?_|refine z0p ?_|refine z0i ?_|refine z0I ?_|refine z0b ?_|refine z0c ?_|refine⟨z2S H,?_⟩|refine z2z ?_ (by with_unfolding_all decide) (by with_unfolding_all decide)|fail
 refine fnc (z2R H S R λw' X hA hD hh=> ?_)
 repeat' with_reducible first|refine z0d ?_|refine z0s ?_|refine z0p ?_|refine z6H ?_|refine z0i ?_|refine z0C ?_|refine z1a ?_|refine z0P ?_|refine z0b ?_|refine z0c ?_|refine⟨z0u,?_⟩|refine z5n H S R ?_|refine z6a hk0 ?_|refine⟨by with_unfolding_all exact Nat.le_of_ble_eq_true rfl,?_⟩|fail
 intro oa oo hfo
 with_reducible refine z2A ?_
 have S':=S.frame (σ':=(oa,oo,.list [.tup [.str w',X],.none,.str nm,.tup [.str nm],.lst [.str nm,.int 1]])::σ) λ_ _ _ h=>h.cons _
 refine Leaf.mk ⟨tyL At.hd,?_⟩
 refine Leaf.mk (z5n H S' R ?_)
 refine Leaf.mk (z6a hk0 ?_)
 refine Leaf.mk (z3E (by with_unfolding_all exact Nat.le_of_ble_eq_true rfl) λo'=> ?_)
 refine Leaf.mk (z1N (.lst _) .none (.int _) .none nofun gzl (z2d ?_))
 rw[z3c _ (by rw[gz];exact ha),<-List.map_take]
 have hbo:∀τ,∀Y∈([.tup [.str w',X],.none,.str nm,.tup [.str nm],.lst [.str nm,.int 1]]++[.tup [.lst [.str nm],.int 1]]:List V),BadO es τ Y:=λτ=>by
  have z:∀{n:Nat},Dn τ n (.str nm) (.str nm):=λ{n}=>dnS τ hnm
  refine List.forall_mem_append.mpr ⟨?_,?_⟩
  rotate_left
  ·exact List.forall_mem_cons.mpr ⟨⟨.tF (.cons (.lF (.cons z .nil)) (.cons (.int _) .nil)),λ_ _=>z1Q rfl⟩,λ_ h=>by cases h⟩
  refine List.forall_mem_cons.mpr ⟨⟨.tF (.cons (.str _ hA) (.cons ((hD τ).up (Nat.zero_le _)) .nil)),λ_ _=>z7z hh⟩,?_⟩
  refine List.forall_mem_cons.mpr ⟨⟨.none,λ_ _=>z1Q rfl⟩,?_⟩
  refine List.forall_mem_cons.mpr ⟨⟨z,λ_ _=>z1Q rfl⟩,?_⟩
  refine List.forall_mem_cons.mpr ⟨⟨.tF (.cons z .nil),λ_ _=>z1Q rfl⟩,?_⟩
  exact List.forall_mem_cons.mpr ⟨⟨.lF (.cons z (.cons (.int _) .nil)),λ_ _=>z1Q rfl⟩,λ_ h=>by cases h⟩
 refine Leaf.mk (y3Q (.refL (.head _)) (Int.fmod_nonneg_of_pos _ (by decide)) (Int.fmod_lt_of_pos _ (by decide)) (show 6<2^40 by decide) λY hY=> ?_)
 refine Leaf.mk (z1M (.lst _) (.lst _) (z0y (by rw[List.length_map,List.length_take];show _+1<=_;lia)) (z2d ?_))
 refine Leaf.mk (z1N (.lst _) (.int _) .none .none nofun gzl (z2d ?_))
 rw[z5g _ (by rw[gz];exact ha),<-List.map_drop]
 refine Leaf.mk (z1M (.lst _) (.lst _) (z0y (by rw[List.length_append,List.length_map,List.length_take,List.length_map,List.length_drop];show _+1+_<=_;lia)) (z2d ?_))
 exact q _ _ (y0W (λp hp=>hpw p (List.mem_of_mem_take hp)) (λp hp=>hpw p (List.mem_of_mem_drop hp)) (by rw[List.length_take,List.length_drop];lia) (λp hp=>hph p (List.mem_of_mem_take hp)) (((List.take_sublist _ _).map _).nodup nd1) (hbo _ Y hY)) λp hp=> .tail _ hp
end
end
section
section
variable {C:Cx} [HM C] [NF C] {d:Nat} {σ:Sto} {Q:V->Sto->Prop} {EQ:Value->Sto->Prop} {i k ro:Addr} {kv rv:List (Str×Addr)} {es:Str->List (Int×List z0f)} {w:Str} {ps:List (Str×Int)}
theorem y5h{k a b:Int}(q:Q (.bool (decide (a=k)||decide (b=k))) σ):AC2 C d (compareOp .In) (.int k) (.tup [.int a,.int b]) σ Q:=λA G D s v u hA R hv hu=>by
 apply VR.isTE R hu;intro c us _ hT hr
 obtain⟨tk,rfl⟩:=hv.intI
 obtain⟨y0,r0,e0,h0,hr1⟩:=hr.consI
 obtain⟨y1,r1,rfl,h1,hr2⟩:=hr1.consI
 obtain rfl:=hr2.nilI
 obtain⟨t0,rfl⟩:=h0.intI
 obtain⟨t1,rfl⟩:=h1.intI
 have eu:us= #[.int a t0,.int b t1]:=Array.toList_inj.mp e0
 subst eu
 refine SeqAt.in_tupleAt (y3N k) hT (λy hy=> ?_) (PostC.now R (.bool _) ?_)
 ·simp at hy
  rcases hy with rfl|rfl
  ·exact SeqAt.EqAt.int_int a t0 k tk
  ·exact SeqAt.EqAt.int_int b t1 k tk
 ·have:(#[Value.int a t0,Value.int b t1]:Array Value).any (y3N k)=(decide (a=k)||decide (b=k)):=by
   simp[y3N]
   rw[Bool.eq_iff_iff];simp
  rw[this];exact q
theorem y5g(pk:List (Str×Int))(w:Str):z5P (pkV pk) w=pkV (pk.filter λp=>decide (p.1≠w)):=by
 unfold z5P pkV
 rw[List.filter_map];rfl
theorem y2H{p1 p2:List (Str×Int)}{x:Str}{m:Int}(n1:(p1.map (·.1)).Nodup)(n2:(p2.map (·.1)).Nodup)(h1:(x,m)∈p1)(h2:(x,m)∈p2):nx es p1 x=nx es p2 x:=by
 unfold nx
 rw[z1T n1 h1,z1T n2 h2]
noncomputable def NoM(es:Str->List (Int×List z0f))(wi:List z0f)(pk:List (Str×Int)):Prop:=∀N R,Bf (nx es pk) N [] (wi.map (·.1)) R->z1F es wi pk R=false
theorem z5R{wi:List z0f}{pk:List (Str×Int)}{R:List Str}(h:z1F es wi pk R=true):(pk.map (·.1)).Perm R:=by
 unfold z1F at h
 rw[Bool.and_eq_true] at h
 have e:=of_decide_eq_true h.1
 exact(z2F _).symm.trans (e▸z2F R)
theorem z9p{wi:List z0f}{p1 p2:List (Str×Int)}{R1 R2:List Str}{N1 N2:Nat}{w:Str}(n1:(p1.map (·.1)).Nodup)(n2:(p2.map (·.1)).Nodup)(hs:∀p∈p2,p∈p1)(h1:Bf (nx es p1) N1 [] (wi.map (·.1)) R1)(h2:Bf (nx es p2) N2 [] (wi.map (·.1)) R2)(m1:z1F es wi p1 R1=true)(m2:z1F es wi p2 R2=true)(hw:w∈p1.map (·.1))(hw2:w∉p2.map (·.1)):False:=by
 have q1:=z5R m1
 have q2:=z5R m2
 have:=y32 h1 h2 (λx hx=>by
  apply z0o (P:=λx=>nx es p1 x=nx es p2 x) (q2.mem_iff.mpr hx);intro p hp
  exact y2H n1 n2 (hs p hp) hp) w (q1.mem_iff.mp hw)
 exact hw2 (q2.mem_iff.mpr this)
theorem y0G{wi:List z0f}{pk:List (Str×Int)}(pb:PkB pk)(M:MtB es wi pk)(hw:w∈pk.map (·.1)):NoM es wi (pk.filter λp=>decide (p.1≠w)):=λN R hB=>by
 obtain⟨N1,R1,_,hB1,_,_,hm⟩:=M
 cases e:z1F es wi (pk.filter λp=>decide (p.1≠w)) R with
 |false=>rfl
 |true=>
  refine(z9p pb.nd ((List.filter_sublist.map _).nodup pb.nd) (λp hp=>(List.mem_filter.mp hp).1) hB1 hB hm e hw λh=> ?_).elim
  obtain⟨p,hp,e⟩:=List.mem_map.mp h
  exact of_decide_eq_true (List.mem_filter.mp hp).2 e
theorem y3b{wi:List z0f}{pk:List (Str×Int)}{m:Int}(pb:PkB pk)(M:MtB es wi pk)(hw:w∉pk.map (·.1)):NoM es wi (pk++[(w,m)]):=λN R hB=>by
 obtain⟨N1,R1,_,hB1,_,_,hm⟩:=M
 cases e:z1F es wi (pk++[(w,m)]) R with
 |false=>rfl
 |true=>exact(z9p (by rw[List.map_append];exact z0Y pb.nd hw) pb.nd (λp hp=>List.mem_append_left _ hp) hB hB1 e hm (by rw[List.map_append];exact List.mem_append_right _ (.head _)) hw).elim
inductive Deed(es:Str->List (Int×List z0f))(wi:List z0f)(x:V)(τ:Sto):Nat->V->V->Int->Prop
 |w {n:Nat} {A T:V}:n<=5->BadW τ A->Deed es wi x τ n A T 0
 |p {n:Nat} {T:V}:n<=3->BadP es τ T->Deed es wi x τ n x T 1
 |g {T:V}:BadG es τ T->Deed es wi x τ 4 x T 1
 |m {n:Nat} {pa:Addr} {pk:List (Str×Int)}:n=2∨n=3->At τ pa (dS (pkV pk))->PkB pk->PkIn es pk->NoM es wi pk->Deed es wi x τ n x (.ref pa) 1
theorem BadP.mono{τ τ':Sto}{v:V}(h:BadP es τ v)(m:∀a x,At τ a x->At τ' a x):BadP es τ' v:=by
 cases h with
 |no h k=>exact .no (h.mono m) k
 |ds a b c e f=>exact .ds (m _ _ a) b c (λp hp=>⟨(e p hp).1,(e p hp).2.mono m⟩) f
theorem BadG.mono{τ τ':Sto}{v:V}(h:BadG es τ v)(m:∀a x,At τ a x->At τ' a x):BadG es τ' v:=by
 cases h with
 |no h k=>exact .no (h.mono m) k
 |dct a=>exact .dct (m _ _ a)
 | @ls xs ts f hl g=>
  refine .ls ?_ hl g
  clear g hl
  induction f with
  |nil=>exact .nil
  |cons a _ ih=>exact .cons (a.mono m) ih
theorem z1f{τ τ':Sto}(h:∀p∈τ,p∈τ'):∀a x,At τ a x->At τ' a x:=λ_ _ ⟨o,e⟩=>⟨o,h _ e⟩
noncomputable def z4K(r1:Expr):TC:=⟨[.loc 0,.psh (.int 300),.loc 1,.binc .Add,.call (.ref 366) 2,.asg 5,.cut [.loc 5,.psh (.int 6),.binc .Mod,.asg 6],.cut [.raw r1,.asg 7],.loc 2,.call (.type "list") 1,.loc 5,.psh (.int 18),.binc .FloorDiv,.call (.ref 424) 2,.asg 8,.loc 6,.psh (.int 5),.tcmpc .Eq,.ife [.loc 6,.loc 8,.psh .none,.psh (.int 0),.lst 1,.tup 4,.ret] [],.loc 5,.psh (.int 6),.binc .FloorDiv,.psh (.int 3),.binc .Mod,.psh (.int 0),.tcmpc .Eq,.ife [.loc 6,.loc 8,.loc 7,.psh (.int 0),.lst 1,.tup 4,.ret] [],.loc 5,.psh (.int 6),.binc .FloorDiv,.psh (.int 3),.binc .Mod,.psh (.int 2),.tcmpc .Eq,.mop .And [.loc 6,.psh (.int 2),.psh (.int 3),.tup 2,.tcmpc .In,.mop .And [.psh (.bool true)]],.ife [.loc 4,.call (.type "dict") 1,.asg 9,.loc 2,.call (.type "list") 1,.loc 5,.psh (.int 18),.binc .FloorDiv,.loc 2,.len,.binc .Mod,.sub,.asg 10,.loc 10,.loc 9,.tcmpc .In,.ife [.loc 9,.mty "dict",.loc 10,.meth (.bi "dict.pop") 1,.pop] [.loc 2,.loc 10,.sub,.call (.type "list") 1,.subT 0,.loc 9,.loc 10,.setI],.loc 6,.loc 3,.loc 9,.psh (.int 1),.lst 1,.loc 2,.loc 3,.loc 9,.call (.ref 414) 3,.una .Not,.call (.type "int") 1,.binc .Mult,.tup 4,.ret] [],.loc 6,.loc 3,.loc 7,.psh (.int 1),.lst 1,.tup 4,.ret],[.inr r1],[([2],some [])]⟩
--z4K 1
theorem z8s(H:G1 C)(S:Rw σ ro rv es)(R:Rn rv es){xs:List Int}(hx:xs.length<=100){kk:Nat}(hk:kk<100){x:V}{wi:List z0f}{Px:Sto->Prop}(hxw:Has σ x (.list (wi.map z0m)) Px)(ok:WishOk wi){ga:Addr}{pk:List (Str×Int)}(hg:At σ ga (dS (pkV pk)))(pb:PkB pk)(pi:PkIn es pk)(M:MtB es wi pk)
  (q:∀n A T r σ',Deed es wi x σ' n A T r->(∀p∈σ,p∈σ')->Q (.tup [.int (n:Int),A,T,.lst [.int r]]) σ'):CW C (d+3) (.ref 458) [.lst (xs.map V.int),.int (kk:Int),.ref ro,x,.ref ga] σ Q:=by
 refine z08 (G1.kin (by assumption)) ["_law_script","_law_k","_law_rows_here","_law_wish_here","_law_good","_law_number","_law_way","_law_bad","_law_bad_wish_here","_law_other","_law_ware"] [("_law_mixed",.ref 366),("_law_bad_pairs",.ref 439),("_law_bad_pick",.ref 434),("_law_bad_wish",.ref 424),("list",.type "list"),("dict",.type "dict"),("len",.bi "len"),("int",.type "int"),("_law_meets",.ref 414)] (by kernel_rfl) (vs5 λ_ _ _ _ _=>by kernel_rfl) rfl (z0a (z1d (by assumption)) (z0a (z4v (by assumption)) (z0a (z4W (by assumption)) (z0a (z4X (by assumption)) (z0a (z03 (by assumption)) (z0a (z3x (by assumption)) (z0a (z00 (by assumption)) (z0a (y1V (by assumption)) (z0a (z3T (by assumption)) GL_nil))))))))) ?_
 intro env hsc
 clear hsc
 have hrn:((kvV rv).map (·.1)).Nodup:=by rw[z0z];exact S.rwn
 have hkz:(kvV rv).length=rv.length:=List.length_map _
 have hkl:(kvV rv).length<=sizeLine:=z0M R.hi (by decide)
 have hpn:((pkV pk).map (·.1)).Nodup:=by rw[z0B];exact pb.nd
 have hpl:pk.length<=5:=Nat.le_trans (y1L S pb.nd pi) R.hi
 have hpz:(pkV pk).length<=sizeLine:=z0M hpl (by decide)
 refine z0n (z0x H) (z0A H) (z4K _) (by exact rfl) (by kernel_rfl) ?_
 intro F m0
 refine Leaf.mk (fnc (z0J H (k:=((300+kk:Nat):Int)) hx (Int.natCast_nonneg _) (Int.ofNat_lt.mpr (show 300+kk<1000 by lia)) λN b0 b1=> ?_))
 clear b0 b1
 refine z3w (α:=Nat) (λn=>n<6) (λn=>[some (.lst (xs.map V.int)),some (.int (kk:Int)),some (.ref ro),some x,some (.ref ga),some (.int N),some (.int (n:Int)),none,none,none,none]) σ (λK hK _=> ?_) λn hn=> ?_
 ·exact z7p (P:=λz=>K .next [some (.lst (xs.map V.int)),some (.int (kk:Int)),some (.ref ro),some x,some (.ref ga),some (.int N),some (.int z),none,none,none,none] σ) (n:=6) (by decide) hK
 refine y1W (α:=V×Sto) (λp=>(n=4->BadG es p.2 p.1)/\(n≠4->BadP es p.2 p.1)/\∀z∈σ,z∈p.2) (λp=>[some (.lst (xs.map V.int)),some (.int (kk:Int)),some (.ref ro),some x,some (.ref ga),some (.int N),some (.int (n:Int)),some p.1,none,none,none]) (λp=>p.2) (λK hK _=> ?_) λp hp=> ?_
 ·refine Leaf.mk ?_
  show AT C env ["_law_script","_law_k","_law_rows_here","_law_wish_here","_law_good","_law_number","_law_way","_law_bad","_law_bad_wish_here","_law_other","_law_ware"] _ true _ (eval _ env) [some (.lst (xs.map V.int)),some (.int (kk:Int)),some (.ref ro),some x,some (.ref ga),some (.int N),some (.int (n:Int)),none,none,none,none] _ _
  refine y1y ?_
  repeat' with_reducible first|refine z0L ?_|refine z0d ?_|refine z0p ?_|fail
  refine z8W (z0h ⟨λhb=> ?_,λhb=> ?_⟩)
  ·repeat' with_reducible first|refine z0d ?_|refine z0s ?_|refine z0p ?_|refine z0i ?_|refine z0I ?_|refine z0b ?_|refine z0c ?_|refine z2z ?_ (by with_unfolding_all decide) (by with_unfolding_all decide)|refine⟨z2t H,?_⟩|fail
   exact fnc (z4r H S R λv σ' hv hs=>hK (v,σ') ⟨λ_=>hv,λh=>absurd (z4k hb) h,hs⟩)
  ·repeat' with_reducible first|refine z0d ?_|refine z0s ?_|refine z0p ?_|refine z0i ?_|refine z0I ?_|refine z0b ?_|refine z0c ?_|refine z2z ?_ (by with_unfolding_all decide) (by with_unfolding_all decide)|refine⟨z2X H,?_⟩|fail
   exact fnc (z4Z H S R λv σ' hv hs=>hK (v,σ') ⟨λh=>absurd h (z3F hb),λ_=>hv,hs⟩)
 obtain⟨bad,σ1⟩:=p
 obtain⟨hG,hP,hs1⟩:=hp
 have S1:Rw σ1 ro rv es:=S.frame λa _ x ⟨o,h⟩=>⟨o,hs1 _ h⟩
 refine Leaf.mk (z5n H S1 R ?_)
 rw[y2a]
 refine Leaf.mk (fnc (z4V H (ws:=rv.map (·.1)) (λw hw=>by
  apply z0o hw;intro p hp
  exact S.wok p hp) (by rw[List.length_map];exact R.lo) (by rw[List.length_map];exact S.rl) λbw σ2 hbw hs2=> ?_))
 have hs:∀p∈σ,p∈σ2:=λp hp=>hs2 p (hs1 p hp)
 refine z0T (λ_=> ?_) λh5=> ?_
 ·exact q n bw .none 0 σ2 (.w (Nat.le_of_lt_succ hn) hbw) hs
 refine z0T (λ_=> ?_) λ_=> ?_
 ·exact q n bw bad 0 σ2 (.w (Nat.le_of_lt_succ hn) hbw) hs
 have hlast:Q (.tup [.int (n:Int),x,bad,.lst [.int 1]]) σ2:=by
  have hn5:n≠5:=z3F h5
  by_cases h4:n=4
  ·rw[h4];exact q 4 x bad 1 σ2 (.g ((hG h4).mono (z1f hs2))) hs
  ·exact q n x bad 1 σ2 (.p (by lia) ((hP h4).mono (z1f hs2))) hs
 refine z0T (λ_=> ?_) λ_=>hlast
 refine Leaf.mk (y5h (z0h ?_))
 cases h23:decide ((2:Int)=(n:Int))||decide ((3:Int)=(n:Int)) with
 |false=>exact hlast
 |true=>
 have hn23:n=2∨n=3:=by
  rcases Bool.or_eq_true_iff.mp h23 with h|h
  ·have:=of_decide_eq_true h;lia
  ·have:=of_decide_eq_true h;lia
 clear hlast h23 hG hP hbw h5
 have S2:Rw σ2 ro rv es:=S.frame λa _ x h=>z1f hs a x h
 refine Leaf.mk (z7W H.ns (z1f hs _ _ hg) hpn hpz λoa oo hfo=> ?_)
 have Sc:Rw ((oa,oo,dS (pkV pk))::σ2) ro rv es:=S2.frame λ_ _ _ h=>h.cons _
 refine Leaf.mk (z5n H Sc R ?_)
 refine Leaf.mk (z2M H.ns Sc.rows hrn hkl ?_)
 refine z2g (by rw[hkz];exact R.lo) λj hj=> ?_
 have hj':j<rv.length:=hkz▸hj
 have hpe:rv[j]? =some rv[j]:=List.getElem?_eq_getElem hj'
 generalize rv[j]=p at hpe
 obtain⟨w,b⟩:=p
 have hb:=List.mem_of_getElem? hpe
 have hrb:vAt (kvV rv) w=some (.ref b):=z0v hrn (List.mem_map.mpr ⟨_,hb,rfl⟩)
 refine Leaf.mk (z01 (.lst _) (Nat.lt_of_lt_of_le hj' (Nat.le_trans R.hi (by decide))) (show((kvV rv).map λp=>V.str p.1)[j]? =some (.str w) by rw[List.getElem?_map,List.getElem?_map,hpe];rfl) ?_)
 refine Leaf.mk (z2O H.ns At.hd hpn (z0h ?_))
 by_cases hm:w∈pk.map (·.1)
 ·obtain⟨mk,hpm,_⟩:=y1e pb.nd hm
  have hv:vAt (pkV pk) w=some (.int mk):=z0v hpn (List.mem_map.mpr ⟨_,hpm,rfl⟩)
  have nom:=y0G pb M hm
  have pb':=pb.sub (pk':=pk.filter λp=>decide (p.1≠w)) List.filter_sublist
  have pi':PkIn es (pk.filter λp=>decide (p.1≠w)):=λp hp=>pi p (List.mem_filter.mp hp).1
  rw[hv]
  refine Leaf.mk ⟨tyD At.hd,?_⟩
  refine Leaf.mk (y28 At.hd hpn hpz hv λσ3 U=> ?_)
  rw[y5g] at U
  have hk3:∀p∈σ2,p∈σ3:=λp hp=>U.keep p (.tail _ hp) (hfo p hp)
  have hoa:=U.here
  have hs3:∀p∈σ,p∈σ3:=λp hp=>hk3 p (hs p hp)
  have S3:Rw σ3 ro rv es:=S.frame λa _ x h=>z1f hs3 a x h
  have hx3:=hxw.mono hs3
  obtain⟨N1,R1,hN1,hB1,hRw1,hRl1⟩:=z3l S R.hi ok pb' pi'
  refine Leaf.mk (fnc (z2N H S3 hx3 ok hoa pb' pi' hN1 hB1 hRw1 hRl1 ?_))
  rw[nom N1 R1 hB1]
  refine Leaf.mk (z30 z2j ?_)
  refine Leaf.mk (y1c ?_)
  refine Leaf.mk (z84 (k:=1) rfl (.lst _) (by with_unfolding_all exact Nat.le_of_ble_eq_true rfl) (by decide) (.inl ?_))
  exact q n x (.ref oa) 1 _ (.m hn23 hoa pb' pi' nom) hs3
 ·have hv:vAt (pkV pk) w=none:=z1i (by rw[z0B];exact hm)
  have hne:=R.ne _ hb
  obtain⟨ns,hmk⟩:=z82 hne
  have nom:=y3b (m:=mk0 es w) pb M hm
  have hpp:z5W pk w (mk0 es w)=pk++[(w,mk0 es w)]:=by
   unfold z5W
   rw[if_neg λh=>hm ?_]
   obtain⟨p,hp,e⟩:=List.any_eq_true.mp h
   exact List.mem_map.mpr ⟨p,hp,of_decide_eq_true e⟩
  have pb':=pb.put S pi hmk
  have pi':=pi.put hmk
  rw[hpp] at pb' pi'
  rw[hv]
  refine Leaf.mk (z13 Sc.rows hrn hrb ?_)
  refine Leaf.mk (z7o H Sc R hb ?_)
  refine Leaf.mk (z7f hne ?_)
  refine Leaf.mk (z47 hpn hpz λo3=> ?_)
  rw[z1W (by rw[z0B];exact hm),show pkV pk++[(w,V.int (mk0 es w))]=pkV (pk++[(w,mk0 es w)]) from Eq.symm List.map_append]
  have hoa:At ((oa,o3,dS (pkV (pk++[(w,mk0 es w)])))::σ2) oa (dS (pkV (pk++[(w,mk0 es w)]))):=At.hd
  have hs3:∀p∈σ,p∈(oa,o3,dS (pkV (pk++[(w,mk0 es w)])))::σ2:=λp hp=> .tail _ (hs p hp)
  have S3:Rw ((oa,o3,dS (pkV (pk++[(w,mk0 es w)])))::σ2) ro rv es:=S.frame λa _ x h=>z1f hs3 a x h
  have hx3:=hxw.mono hs3
  obtain⟨N1,R1,hN1,hB1,hRw1,hRl1⟩:=z3l S R.hi ok pb' pi'
  refine Leaf.mk (fnc (z2N H S3 hx3 ok hoa pb' pi' hN1 hB1 hRw1 hRl1 ?_))
  rw[nom N1 R1 hB1]
  refine Leaf.mk (z30 z2j ?_)
  refine Leaf.mk (y1c ?_)
  refine Leaf.mk (z84 (k:=1) rfl (.lst _) (by with_unfolding_all exact Nat.le_of_ble_eq_true rfl) (by decide) (.inl ?_))
  exact q n x (.ref oa) 1 _ (.m hn23 hoa pb' pi' nom) hs3
end
end
section
section
variable {C:Cx} [HM C] [NF C] {d:Nat} {σ:Sto} {Q:V->Sto->Prop} {EQ:Value->Sto->Prop} {i k ro:Addr} {kv rv:List (Str×Addr)} {es:Str->List (Int×List z0f)} {w:Str} {ps:List (Str×Int)} {wi:List z0f} {x:V}
theorem z8M(H:G1 C){a:Addr}{kvs:List (Str×V)}(h:At σ a (dS kvs))(e:EQ (.ref 128) σ):CE C (d+3) (.ref 220) [.ref i,.ref a] σ Q EQ:=by
 refine z4g (G1.kin (by assumption)) ["shop","pairs","found","pair"] [("isinstance",.bi "isinstance"),("list",.type "list"),("BadPick",.ref 128),("tuple",.type "tuple"),("len",.bi "len")] (by kernel_rfl) (vs2 λ_ _=>by kernel_rfl) rfl (z0a (z0t (by assumption)) (z0a (z03 (by assumption)) (z0a (z1J (by assumption)) (z0a (z12 (by assumption)) (z0a (z00 (by assumption)) GL_nil))))) ?_
 intro env hsc
 clear hsc
 obtain⟨o,hm⟩:=h
 refine z0k (z1Z ?_)
 show AB C env ["shop","pairs","found","pair"] _ true _ _ [some (.ref i),some (.ref a),none,none] σ _
 repeat' with_reducible first|refine z1l ?_|refine z09 ?_|refine z0d ?_|refine z0s ?_|refine z0i ?_|refine z0b ?_|refine z0c ?_|refine⟨z0q,?_⟩|fail
 refine z7g (t:= .lst) (.refD hm) ?_
 exact z0h ⟨λ_=>z1e (z02 H) e,λhb=>tf hb⟩
theorem Has.dn{Px:Sto->Prop}(hx:Has σ x (.list (wi.map z0m)) Px)(ok:WishOk wi):Dn σ 4 x (.lst (wi.map z0m)):=by
 have h:=(z2x (τ:=σ) ok.ok).at
 have hl:(wi.map z0m).length<=200:=by rw[List.length_map];exact Nat.le_trans ok.len (by decide)
 generalize hb:wi.map z0m=L at hx h hl
 cases hx with
 |lst=>exact .lst h.1 hl h.2
 |refL hm=>exact .ref ⟨_,hm⟩ h.1 hl h.2
theorem z0Q(H:G1 C){Px:Sto->Prop}(hx:Has σ x (.list (wi.map z0m)) Px)(ok:WishOk wi)(q:Q .none σ):CE C (d+3) (.ref 161) [x] σ Q EQ:=
 z3P H (hx.dn ok) (λ_=>q) λh=>tf ((y11 ok).symm.trans h)
theorem y2k(H:G1 C){A:V}(h:BadW σ A)(e:EQ (.ref 116) σ):CE C (d+3) (.ref 161) [A] σ Q EQ:=by
 obtain⟨h1,h2⟩:=h
 exact z3P H h1 (λh=>tf (h.symm.trans h2)) λ_=>e
theorem z28(H:G1 C)(S:Shp σ i k kv es){T:V}(h:BadP es σ T)(e:EQ (.ref 128) σ):CE C (d+3) (.ref 166) [.ref i,T] σ Q EQ:=by
 cases h with
 |no h k=>exact z7h H h k e
 |ds a b c f g=>exact z4e H S a b c f (λh=>tf (h.symm.trans g)) λ_=>e
theorem z64(H:G1 C)(S:Shp σ i k kv es){pa:Addr}{pk:List (Str×Int)}(hp:At σ pa (dS (pkV pk)))(pb:PkB pk)(pi:PkIn es pk)(q:Q .none σ):CE C (d+3) (.ref 166) [.ref i,.ref pa] σ Q EQ:=
 z4e H S hp (by rw[z0B];exact pb.nd) (by rw[List.length_map];exact Nat.le_trans pb.len (by decide)) (λp hp=>by
  apply z0o hp;intro p' hp'
  exact⟨(pb.ok p' hp').1.asc,.int _⟩) (λ_=>q) λh=>by
  rw[show(pkV pk).all (hsV es)=true from List.all_eq_true.mpr λp hp=>by
   apply z0o (P:=λp=>hsV es p=true) hp;intro p' hp'
   exact z8I pb pi (λw=>(S.eok w).1) p' hp'] at h
  exact tf h
theorem z6g(H:G1 C)(S:Shp σ i k kv es){T:V}(h:BadG es σ T)(e:EQ (.ref 128) σ):CE C (d+3) (.ref 220) [.ref i,T] σ Q EQ:=by
 cases h with
 |no h k=>exact z8Z H h k e
 |dct a=>exact z8M H a e
 |ls f hl g=>exact z5j H S (.lst _) f.at.1 hl f.at.2 (λ_ _ _ h=>nomatch h.symm.trans g) λ_=>e
theorem z8m(H:G1 C)(S:Shp σ i k kv es)(hE:∀w,((es w).map (·.1)).Nodup){Px:Sto->Prop}(hx:Has σ x (.list (wi.map z0m)) Px)(ok:WishOk wi){pa:Addr}{pk:List (Str×Int)}(hp:At σ pa (dS (pkV pk)))(pb:PkB pk)(pi:PkIn es pk)
  {N:Nat} {R:List Str} (hN:N<=60) (hB:Bf (nx es pk) N [] (wi.map (·.1)) R) (hRw:∀w∈R,Ware w) (hRl:R.length<=N) {K:Sto->Prop} (q:z1F es wi pk R=true->K σ) (e:z1F es wi pk R=false->EQ (.ref 128) σ):Np C (d+5) i x (.ref pa) EQ σ K:=
 (z64 (d:=d+2) H S hp pb pi (z4F H S hE hx ok hp pb pi hN hB hRw hRl ⟨_,rfl,e,q⟩))
theorem z6X(H:G1 C)(S:Shp σ i k kv es){T:V}(h:BadP es σ T){K:Sto->Prop}(e:EQ (.ref 128) σ):Np C (d+5) i x T EQ σ K:=z28 (d:=d+2) H S h e
theorem y45(H:G1 C)(S:Rw σ ro rv es)(R:Rn rv es)(S':Shp σ i k kv es){Px:Sto->Prop}(hx:Has σ x (.list (wi.map z0m)) Px)(ok:WishOk wi){ga:Addr}{pk:List (Str×Int)}(hg:At σ ga (dS (pkV pk)))(pb:PkB pk)(pi:PkIn es pk)(M:MtB es wi pk)
  {n:Nat} {A T:V} {r:Int} (D:Deed es wi x σ n A T r) (q:Q (.lst [.int r]) σ):CE C (d+12) (.ref 451) [.int (n:Int),.ref i,A,T,.ref ga] σ Q EQ:=by
 have hE:∀w,((es w).map (·.1)).Nodup:=λw=>(S.eok w).nd
 cases D with
 |w hn hw=>
  have hb:∀{d:Nat} {P:V->Sto->Prop},CE C (d+3) (.ref 161) [A] σ P λc τ=>(c= .ref 116/\Q (.lst [.int 0]) τ)∨(c= .ref 128/\Q (.lst [.int 1]) τ):=y2k H hw (.inl ⟨rfl,q⟩)
  refine z1k H (z2a H hn ?_)
  match n,hn with
  |0,_=>exact z3o (d:=d+4) H (hb (d:=d+6))
  |1,_=>exact z3H (d:=d+4) H (hb (d:=d+6))
  |2,_=>exact z1h (d:=d+4) H (hb (d:=d+6))
  |3,_=>exact z1h (d:=d+4) H (hb (d:=d+6))
  |4,_=>exact z3X (d:=d) H (hb (d:=d+6))
  |5,_=>exact y0p (d:=d+4) H (hb (d:=d+6))
 |p hn hP=>
  obtain⟨N1,R1,hN1,hB1,hRw1,hRl1,hm1⟩:=M
  refine z1k H (z2a H (Nat.le_trans hn (by decide)) ?_)
  have e:((Value.ref 128= .ref 116/\Q (.lst [.int 0]) σ)∨(Value.ref 128= .ref 128/\Q (.lst [.int 1]) σ)):= .inr ⟨rfl,q⟩
  match n,hn with
  |0,_=>exact z3o (d:=d+4) H (z0Q (d:=d+6) H hx ok (z28 (d:=d+6) H S' hP e))
  |1,_=>exact z3H (d:=d+4) H (z0Q (d:=d+6) H hx ok (z28 (d:=d+6) H S' hP e))
  |2,_=>exact z1h (d:=d+4) H (z0Q (d:=d+6) H hx ok (z6X (d:=d+4) H S' hP e))
  |3,_=>exact z1h (d:=d+4) H (z0Q (d:=d+6) H hx ok (z8m (d:=d+4) H S' hE hx ok hg pb pi hN1 hB1 hRw1 hRl1 (λ_=>z6X (d:=d+4) H S' hP e) λh=>tf (hm1.symm.trans h)))
 |g hG=>
  exact z1k H (z2a H (n:=4) (by decide) (z3X (d:=d) H (z0Q (d:=d+6) H hx ok (z6g (d:=d+6) H S' hG (.inr ⟨rfl,q⟩)))))
 | @m n pa pk' hn hp pb' pi' hno=>
  obtain⟨N1,R1,hN1,hB1,hRw1,hRl1,hm1⟩:=M
  obtain⟨N2,R2,hN2,hB2,hRw2,hRl2⟩:=z3l S R.hi ok pb' pi'
  have hm2:=hno N2 R2 hB2
  have e:((Value.ref 128= .ref 116/\Q (.lst [.int 0]) σ)∨(Value.ref 128= .ref 128/\Q (.lst [.int 1]) σ)):= .inr ⟨rfl,q⟩
  rcases hn with rfl|rfl
  ·exact z1k H (z2a H (n:=2) (by decide) (z1h (d:=d+4) H (z0Q (d:=d+6) H hx ok (z8m (d:=d+4) H S' hE hx ok hp pb' pi' hN2 hB2 hRw2 hRl2 (λh=>tf (h.symm.trans hm2)) λ_=>e))))
  ·exact z1k H (z2a H (n:=3) (by decide) (z1h (d:=d+4) H (z0Q (d:=d+6) H hx ok (z8m (d:=d+4) H S' hE hx ok hg pb pi hN1 hB1 hRw1 hRl1 (λ_=>z8m (d:=d+4) H S' hE hx ok hp pb' pi' hN2 hB2 hRw2 hRl2 (λh=>tf (h.symm.trans hm2)) λ_=>e) λh=>tf (hm1.symm.trans h)))))
end
end
section
section
variable {C:Cx} [HM C] [NF C] {d:Nat} {σ:Sto} {Q:V->Sto->Prop} {EQ:Value->Sto->Prop} {i k ro:Addr} {kv rv:List (Str×Addr)} {es:Str->List (Int×List z0f)} {w:Str} {mk:Int}
structure Tg(σ:Sto)(w:Str)(mk:Int)(n:Nat)(T:V):Prop where
 d:n<=3->∃p,T= .ref p/\At σ p (dS (pkV [(w,mk)]))
 l:n=4->T= .lst [prV (w,mk)]
theorem one_nd:((pkV [(w,mk)]).map (·.1)).Nodup:=List.nodup_cons.mpr ⟨List.not_mem_nil,List.nodup_nil⟩
theorem z42(hw:Ware w)(hno:z2b es (.str w) (.int mk)=false){p:Addr}(h:At σ p (dS (pkV [(w,mk)]))):BadP es σ (.ref p):=
 .ds h one_nd (Nat.le_of_ble_eq_true rfl) (λq hq=>by rw[List.mem_singleton.mp hq];exact⟨hw.asc,.int _⟩) (by show(z2b es (.str w) (.int mk)&&true)=false;rw[hno];rfl)
theorem z73(hw:Ware w)(h1:1<=mk)(h9:mk<=999):WishOk [(w,mk,mk)]:=⟨(by decide:1<=8),λn hn=>by rw[List.mem_singleton.mp hn];exact⟨hw,h1,Int.le_refl _,h9⟩⟩
theorem y4i(H:G1 C)(S:Shp σ i k kv es)(hw:Ware w)(h1:1<=mk)(h9:mk<=999)(hno:z2b es (.str w) (.int mk)=false){n:Nat}(hn:n<=4){T:V}(hT:Tg σ w mk n T){g:Addr}(hg:At σ g (dS (pkV [(w,mk)])))(q:Q (.lst [.int 1]) σ):
  CE C (d+12) (.ref 451) [.int (n:Int),.ref i,.lst [z0m (w,mk,mk)],T,.ref g] σ Q EQ:=by
 have e:((Value.ref 128= .ref 116/\Q (.lst [.int 0]) σ)∨(Value.ref 128= .ref 128/\Q (.lst [.int 1]) σ)):= .inr ⟨rfl,q⟩
 have ok:=z73 hw h1 h9
 have hx:Has σ (.lst ([(w,mk,mk)].map z0m)) (.list ([(w,mk,mk)].map z0m)) λ_=>True:= .lst _
 refine z1k H (z2a H (Nat.le_trans hn (by decide)) ?_)
 match n,hn,hT with
 |0,_,hT=>obtain⟨p,rfl,hp⟩:=hT.d (by decide);exact z3o (d:=d+4) H (z0Q (d:=d+6) H hx ok (z28 (d:=d+6) H S (z42 hw hno hp) e))
 |1,_,hT=>obtain⟨p,rfl,hp⟩:=hT.d (by decide);exact z3H (d:=d+4) H (z0Q (d:=d+6) H hx ok (z28 (d:=d+6) H S (z42 hw hno hp) e))
 |2,_,hT=>obtain⟨p,rfl,hp⟩:=hT.d (by decide);exact z1h (d:=d+4) H (z0Q (d:=d+6) H hx ok (z6X (d:=d+4) H S (z42 hw hno hp) e))
 |3,_,hT=>exact z1h (d:=d+4) H (z0Q (d:=d+6) H hx ok (z6X (d:=d+4) H S (z42 hw hno hg) e))
 |4,_,hT=>
  rw[hT.l rfl]
  refine z3X (d:=d) H (z0Q (d:=d+6) H hx ok (z6g (d:=d+6) H S (.ls (z2k (l:=[(w,mk)]) λq hq=>by rw[List.mem_singleton.mp hq];exact hw) (Nat.le_of_ble_eq_true rfl) (z7z hno)) e))
theorem y4D(H:G1 C)(S:Shp σ i k kv es)(hE:∀w,((es w).map (·.1)).Nodup)(hw:Ware w)(h1:1<=mk)(h9:mk<=999)(hm:(mk,[])∈es w){n:Nat}(hn:n<=4){T:V}(hT:Tg σ w mk n T){g:Addr}(hg:At σ g (dS (pkV [(w,mk)])))(q:Q (.lst []) σ):
  CE C (d+12) (.ref 451) [.int (n:Int),.ref i,.lst [z0m (w,mk,mk)],T,.ref g] σ Q EQ:=by
 have ok:=z73 hw h1 h9
 have hx:Has σ (.lst ([(w,mk,mk)].map z0m)) (.list ([(w,mk,mk)].map z0m)) λ_=>True:= .lst _
 have pb:PkB [(w,mk)]:=⟨List.nodup_cons.mpr ⟨List.not_mem_nil,List.nodup_nil⟩,(by decide:1<=12),λp hp=>by rw[List.mem_singleton.mp hp];exact⟨hw,h1,h9⟩⟩
 have pi:PkIn es [(w,mk)]:=λp hp=>by rw[List.mem_singleton.mp hp];exact⟨_,hm⟩
 have hnd:=z40 (hE w) hm
 have hnx:nx es [(w,mk)] w=[]:=by
  unfold nx
  rw[z1T pb.nd (.head _)]
  show(match(es w).find? (λe:Int×List z0f=>decide (e.1=mk)) with|none=>[]|some e=>e.2.map (λn:z0f=>n.1))=_
  rw[z1T (hE w) hm];rfl
 have hB:Bf (nx es [(w,mk)]) 1 [] ([(w,mk,mk)].map λn:z0f=>n.1) [w]:= .take List.not_mem_nil (by rw[hnx];exact .nil)
 have hRw:∀v∈[w],Ware v:=λv hv=>by rw[List.mem_singleton.mp hv];exact hw
 have hmt:z1F es [(w,mk,mk)] [(w,mk)] [w]=true:=by
  have e1:z1g [(w,mk)] (w,mk,mk)=true:=by rw[z7l (z0v one_nd (.head _)),decide_eq_true (Int.le_refl _)];rfl
  show(decide (z1E [w]=z1E [w])&&((z1g _ _&&true)&&((z2e es (w,mk)).all _&&true)))=true
  rw[decide_eq_true rfl,e1,hnd];rfl
 have np:∀{d:Nat} {p:Addr} {K:Sto->Prop} {EQ:Value->Sto->Prop},At σ p (dS (pkV [(w,mk)]))->K σ->Np C (d+5) i (.lst ([(w,mk,mk)].map z0m)) (.ref p) EQ σ K:=λhp hK=>z8m H S hE hx ok hp pb pi (by decide) hB hRw (Nat.le_refl 1) (λ_=>hK) λh=>tf (hmt.symm.trans h)
 refine z1k H (z2a H (Nat.le_trans hn (by decide)) ?_)
 match n,hn,hT with
 |0,_,hT=>obtain⟨p,rfl,hp⟩:=hT.d (by decide);exact z3o (d:=d+4) H (z0Q (d:=d+6) H hx ok (z64 (d:=d+6) H S hp pb pi (z11 H S hx ok hp pb pi (by decide) hB q)))
 |1,_,hT=>obtain⟨p,rfl,hp⟩:=hT.d (by decide);exact z3H (d:=d+4) H (z0Q (d:=d+6) H hx ok (z64 (d:=d+6) H S hp pb pi (z4F H S hE hx ok hp pb pi (by decide) hB hRw (Nat.le_refl 1) q)))
 |2,_,hT=>obtain⟨p,rfl,hp⟩:=hT.d (by decide);exact z1h (d:=d+4) H (z0Q (d:=d+6) H hx ok (np hp (np hg ⟨p,g,w,mk,rfl,rfl,hp,hg,z11 H S hx ok hp pb pi (by decide) hB ⟨rfl,rfl,q⟩⟩)))
 |3,_,hT=>obtain⟨p,rfl,hp⟩:=hT.d (by decide);exact z1h (d:=d+4) H (z0Q (d:=d+6) H hx ok (np hg (np hp ⟨g,p,w,mk,rfl,rfl,hg,hp,z11 H S hx ok hg pb pi (by decide) hB ⟨rfl,rfl,q⟩⟩)))
 |4,_,hT=>
  rw[hT.l rfl]
  have hgr:grO es [] [prV (w,mk)]=some [(w,mk)]:=z35 (L:=[]) (A:=[(w,mk)]) (done:=[]) (λp hp=>by rw[List.mem_singleton.mp hp];exact z8I pb pi hE _ (.head _)) pb.nd
  have hF:=(z2k (τ:=σ) (l:=[(w,mk)]) λq hq=>by rw[List.mem_singleton.mp hq];exact hw).at
  refine z87 (z3X (d:=d) H (z0Q (d:=d+6) H hx ok (z5j (d:=d+6) H S (.lst _) hF.1 (Nat.le_of_ble_eq_true rfl) hF.2 (λb o pk hpk=> ?_) λh=>nomatch h.symm.trans hgr)))
  rw[<-Option.some.inj (hgr.symm.trans hpk)]
  exact z8w H (S.c1 _) hw hm At.hd ⟨σ,List.sublist_cons_self _ _,q⟩
end
end
section
section
variable {C:Cx} [HM C] [NF C] {d:Nat} {σ:Sto} {Q:V->Sto->Prop} {EQ:Value->Sto->Prop} {i k ro:Addr} {kv rv:List (Str×Addr)} {es:Str->List (Int×List z0f)} {w:Str} {mk:Int}
theorem y3O{x:V}{xs:List V}{P:Sto->Prop}(hx:Has σ x (.list xs) P)(q:Q (.bool xs.isEmpty) σ):AC2 C d (compareOp .Eq) x (.lst []) σ Q:=by
 intro A G D s v u hA R hv hu
 obtain⟨a,ws,n,rfl,ho,hr⟩:=hx.isList R hv
 obtain⟨b,zs,n',rfl,ho',hr'⟩:=(Has.lst (σ:=σ) []).isList R hu
 have e2:zs.size=0:=by rw[<-Array.length_toList,hr'.length];rfl
 have e1:ws.size=xs.length:=by rw[<-Array.length_toList,hr.length]
 cases xs with
 |nil=>
  have:=SeqAt.RcAt.lists (A:=A) (s:=s) (e:=λ_=>true) ⟨_,ho,rfl,n,rfl⟩ ⟨_,ho',rfl,n',rfl⟩ (by rw[e1,e2];rfl) hA.line0 (λj h1 h2=>by rw[e2] at h2;cases h2)
  rw[z3h] at this
  exact this C.prog C.w _ _ (PostC.now R (.bool _) q)
 |cons X xs=>
  have:=SeqAt.RcAt.lists_lengths (A:=A) (s:=s) (items:=ws) (items2:=zs) ⟨_,ho,rfl,n,rfl⟩ ⟨_,ho',rfl,n',rfl⟩ (by rw[e1,e2];rfl) hA.line0
  exact this C.prog C.w _ _ (PostC.now R (.bool _) q)
structure Pks(es:Str->List (Int×List z0f))(σ τ:Sto)(x:V)(rs:List Addr)(wi:List z0f):Prop where
 x:∃Px,Has τ x (.list (wi.map z0m)) Px
 ok:WishOk wi
 ne:rs≠[]
 len:rs.length<=243
 pk:∀r∈rs,PkM es wi τ r
 sub:∀p∈σ,p∈τ
theorem AA4{env:Env}{vars:List Str}{gl:List (Str×V)}{m:Loc}{KA:Loc->Sto->Prop}{x y z u:Expr}{X Y Z U:V}(h:AA C env vars gl true d (assign x env) X m σ λm₁ σ₁=>AA C env vars gl true d (assign y env) Y m₁ σ₁ λm₂ σ₂=>AA C env vars gl true d (assign z env) Z m₂ σ₂ λm₃ σ₃=>AA C env vars gl true d (assign u env) U m₃ σ₃ KA){k:Nat}{p:Pos}
  (hn:autoParam ((assignEach [x,y,z,u] env).map (·.2)=[assign x env,assign y env,assign z env,assign u env]) auR) (hstar:autoParam ((assignEach [x,y,z,u] env).findIdx? (·.1)=none) auR):
  AA C env vars gl true d (assign (.Tuple [x,y,z,u] k p) env) (.tup [X,Y,Z,U]) m σ KA:=by
 refine z85 (by have:=congrArg List.length hn;simpa using this) hstar ?_
 rw[hn]
 exact z1t (h.mono λ_ _ h=>z1t (h.mono λ_ _ h=>z1t (h.mono λ_ _ h=>z1t (h.mono λ_ _ h=>z6L h))))
theorem z9c{τ:Sto}{n:Nat}:∀{l:List Int},F2 (Dn τ n) (l.map V.int) (l.map V.int)
 |[]=> .nil
 |i::l=> .cons (.int i) z9c
theorem y4G(hs:z0N C){l:List Int}(hl:l.length<=100)(q:Q (.bool false) σ):AC2 C d (compareOp .NotEq) (.lst (l.map V.int)) (.lst (l.map V.int)) σ Q:=
 z7m hs (n:=1) (.lF (z9c (n:=0)) (by rw[List.length_map];exact Nat.le_trans hl (by decide))) (by decide) q
inductive LwI(ro i ga:Addr)(a0 x px:V)(σ4:Sto)(j:Nat):Loc->Sto->Prop
 |mk {v6 v7 v8 v9 v10 v11:Option V} {τ:Sto}:(∀p∈σ4,p∈τ)->LwI ro i ga a0 x px σ4 j [some a0,some (.ref ro),some x,some (.ref i),some px,some (.ref ga),v6,v7,v8,v9,v10,v11,none,none,none] τ
inductive LuI(ro i ga:Addr)(a0 x px:V)(v6 v8 v9:Option V)(due ww mm th wn:V)(τ:Sto)(j:Nat):Loc->Sto->Prop
 |mk {v7:Option V}:LuI ro i ga a0 x px v6 v8 v9 due ww mm th wn τ j [some a0,some (.ref ro),some x,some (.ref i),some px,some (.ref ga),v6,v7,v8,v9,some due,some ww,some mm,some th,some wn] τ
noncomputable def thL(d0 d1 d2 d3:Addr)(w:Str)(mk:Int):List V:=[.ref d0,.ref d1,.ref d2,.ref d3,.lst [prV (w,mk)]]
structure D4(σ:Sto)(d0 d1 d2 d3:Addr)(w:Str)(mk:Int):Prop where
 a0:At σ d0 (dS (pkV [(w,mk)]))
 a1:At σ d1 (dS (pkV [(w,mk)]))
 a2:At σ d2 (dS (pkV [(w,mk)]))
 a3:At σ d3 (dS (pkV [(w,mk)]))
theorem D4.tg{d0 d1 d2 d3:Addr}(h:D4 σ d0 d1 d2 d3 w mk){n:Nat}(hn:n<5):∃T,(thL d0 d1 d2 d3 w mk)[n]? =some T/\Tg σ w mk n T:=by
 match n,hn with
 |0,_=>exact⟨_,rfl,λ_=>⟨_,rfl,h.a0⟩,nofun⟩
 |1,_=>exact⟨_,rfl,λ_=>⟨_,rfl,h.a1⟩,nofun⟩
 |2,_=>exact⟨_,rfl,λ_=>⟨_,rfl,h.a2⟩,nofun⟩
 |3,_=>exact⟨_,rfl,λ_=>⟨_,rfl,h.a3⟩,nofun⟩
 |4,_=>exact⟨_,rfl,λh=>absurd h (by decide),λ_=>rfl⟩
theorem D4.upd{d0 d1 d2 d3 a:Addr}{σ':Sto}{y:AO}(h:D4 σ d0 d1 d2 d3 w mk)(U:UpdS σ σ' a y)(hn:d0≠a/\d1≠a/\d2≠a/\d3≠a):D4 σ' d0 d1 d2 d3 w mk:=
 ⟨U.at h.a0 hn.1,U.at h.a1 hn.2.1,U.at h.a2 hn.2.2.1,U.at h.a3 hn.2.2.2⟩
inductive LvI(a0 a1 a2 a3 a4 a5 a6 a7 a8 a9 a10:V)(τ:Sto)(j:Nat):Loc->Sto->Prop
 |mk {v11:Option V}:LvI a0 a1 a2 a3 a4 a5 a6 a7 a8 a9 a10 τ j [some a0,some a1,some a2,some a3,some a4,some a5,some a6,some a7,some a8,some a9,some a10,v11,none,none,none] τ
theorem mt_nil:MtB es [] []:=⟨0,[],by decide,.nil,(λ_ h=>by cases h),Nat.le_refl _,by show(decide (z1E []=z1E [])&&_)=true;rw[decide_eq_true rfl];rfl⟩
noncomputable def t_law_s0_6:TC:=⟨[.loc 0,.psh (.int 5),.psh (.int 2),.call (.ref 388) 3,.asg 1,.loc 0,.loc 1,.psh (.int 3),.call (.ref 395) 3,.asg 2,.loc 1,.call (.ref 402) 1,.asg 3,.loc 1,.loc 2,.call (.ref 419) 2,.asg 4,.cut [.loc 4,.lst 0,.tcmpc .Eq,.ife [.asgL 2,.dic,.lst 1,.asg 4] []],.loc 4,.loc 0,.psh (.int 299),.call (.ref 366) 2,.loc 4,.len,.binc .Mod,.sub,.asg 5],[],[]⟩
--t_law_s0_6 0
noncomputable def t_law_s6_2_3:TC:=⟨[.loc 1,.forDS 11 [.loc 3,.mI 355 "makes",.loc 11,.meth (.ref 338) 1,.loc 1,.loc 11,.sub,.call (.bi "sorted") 1,.tcmpc .NotEq,.ife [.psh (.bool false),.ret] []]],[],[]⟩
--t_law_s6_2_3 0
noncomputable def z4L(r1:Expr)(r2:Stmt):TC:=⟨[.loc 1,.call (.type "list") 1,.subT 0,.asg 11,.raw r1,.subT 0,.asg 12,.rawS r2,.loc 11,.loc 12,.loc 12,.tup 3,.lst 1,.asg 14],[.inr r1,.inl r2],[([1],some [0]),([2],none)]⟩
--z4L 2
noncomputable def t_law_s12_13:TC:=⟨[.loc 3,.mI 355 "wares",.meth (.ref 352) 0,.loc 1,.call (.bi "sorted") 1,.cmpc .Eq,.vop .And [.psh (.int 8),.psh (.int 8),.cmpc .Eq],.ret],[],[]⟩
--t_law_s12_13 0
set_option tactic.hygienic true in
theorem y41(H:G1 C){xs:List Int}(hx:xs.length<=100)(q:∀σ',Q (.bool true) σ'):CE C (d+13) (.ref 463) [.lst (xs.map V.int)] [] Q EQ:=by
 refine z4g (G1.kin (by assumption)) ["_law_script","_law_rows_here","_law_wish_here","_law_shop_here","_law_picks","_law_good","_law_k","_law_way","_law_asked_here","_law_thing","_law_due","_law_ware","_law_make","_law_things","_law_wanted"] [("_law_rows",.ref 388),("_law_wish",.ref 395),("_law_shop",.ref 402),("_law_all_picks",.ref 419),("_law_mixed",.ref 366),("len",.bi "len"),("range",.type "range"),("_law_deed",.ref 458),("_law_refused",.ref 451),("sorted",.bi "sorted"),("list",.type "list"),("MOST_WISHES",.int 8)] (by kernel_rfl) (vs1 λ_=>by kernel_rfl) rfl (z0a (z79 (by assumption)) (z0a (z8a (by assumption)) (z0a (z8l (by assumption)) (z0a (z4l (by assumption)) (z0a (z1d (by assumption)) (z0a (z00 (by assumption)) (z0a (z2H (by assumption)) (z0a (z74 (by assumption)) (z0a (z5D (by assumption)) (z0a (z2C (by assumption)) (z0a (z03 (by assumption)) (z0a (z3v (by assumption)) GL_nil)))))))))))) ?_
 intro env hsc
 show SE C env ["_law_script","_law_rows_here","_law_wish_here","_law_shop_here","_law_picks","_law_good","_law_k","_law_way","_law_asked_here","_law_thing","_law_due","_law_ware","_law_make","_law_things","_law_wanted"] _ _ _ [some (.lst (xs.map V.int)),none,none,none,none,none,none,none,none,none,none,none,none,none,none] [] _ _
 refine z33 6 (z0n (z0x H) (z0A H) t_law_s0_6 rfl (by kernel_rfl) ?_)
 intro F m0
 refine Leaf.mk (fnc (z7S H (most:=5) (mm:=2) hx (by decide) (by decide) (by decide) (by decide) λro rv es σ1 N1 h5 hnn=> ?_))
 obtain⟨S1,hne,hlo,_,_⟩:=N1
 have R:Rn rv es:=⟨hlo,h5,λp hp=>(hne p hp).1,λw=>by
  by_cases hm:w∈rv.map (·.1)
  ·apply z0o hm;intro p hp
   exact(hne p hp).2
  ·rw[S1.out w hm];exact Nat.zero_le _,hnn (by decide)⟩
 refine Leaf.mk (fnc (z7L H (most:=3) hx S1 hlo (λp hp=>⟨(hne p hp).1,Nat.le_trans (hne p hp).2 (by decide)⟩) (by decide) (by decide) λwi ok=> ?_))
 refine Leaf.mk (fnc (z8r H S1 R.ne λi k kv σ2 S2 hkeys f1 f2 f3 hk2=> ?_))
 have hra:∀p∈kv,ro≠p.2:=λp hp=>(f3 p hp).ne S1.rows
 clear f1 f2 f3
 have Sr2:Rw σ2 ro rv es:=S1.frame λa _ x h=>z1f hk2 a x h
 refine Leaf.mk (fnc (z4x H Sr2 h5 R.two (.lst _) ok λrs σ3 hk3 hrs hrl=> ?_))
 refine y1W (α:=V×List Addr×List z0f×Sto) (λp=>Pks es σ2 p.2.2.2 p.1 p.2.1 p.2.2.1) (λp=>[some (.lst (xs.map V.int)),some (.ref ro),some p.1,some (.ref i),some (.lst (p.2.1.map V.ref)),none,none,none,none,none,none,none,none,none,none]) (λp=>p.2.2.2) (λK hK _=> ?_) λp hp=> ?_
 ·refine Leaf.mk (y3O (.lst _) (z0h ?_))
  cases rs with
  |nil=>
   intro a oa hfa b ob hfb
   exact hK (.ref a,[b],[],_) ⟨⟨_,.refL (.tail _ (.head _))⟩,⟨Nat.zero_le 8,λ_ h=>by cases h⟩,nofun,(by decide:1<=243),λr hr=>by rw[List.mem_singleton.mp hr];exact .mk (pk:=[]) At.hd ⟨List.nodup_nil,by decide,λ_ h=>by cases h⟩ (λ_ h=>by cases h) mt_nil,λp hp=> .tail _ (.tail _ (hk3 p hp))⟩
  |cons r rs=>
   exact hK (.lst (wi.map z0m),r::rs,wi,σ3) ⟨⟨_,.lst _⟩,ok,nofun,hrl,λr hr=>(hrs r hr).2,hk3⟩
 clear ok hrs hrl hk3
 obtain⟨x,rs,wi,σ4⟩:=p
 have hp:Pks es σ2 σ4 x rs wi:=hp
 obtain⟨⟨Px,hxw⟩,ok,hrn,hrl,hpk,hs4⟩:=hp
 have hrz:(rs.map V.ref).length=rs.length:=List.length_map _
 refine Leaf.mk (fnc (z0J H hx (by decide) (by decide) λN b0 b1=> ?_))
 clear b0 b1
 refine Leaf.mk (z1o (.lst _) hrz (z0M hrl (by decide)) ?_)
 refine z2g (List.length_pos_iff.mpr hrn) λj hj=> ?_
 have hre:rs[j]? =some rs[j]:=List.getElem?_eq_getElem hj
 refine Leaf.mk (z01 (.lst _) (Nat.lt_of_lt_of_le hj (Nat.le_trans hrl (by decide))) (z1H hre) ?_)
 generalize rs[j]=ga at hre
 obtain⟨hg,pb,pi,M⟩:=hpk ga (List.mem_of_getElem? hre)
 rename_i pk
 have S4:Rw σ4 ro rv es:=Sr2.frame λa _ x h=>z1f hs4 a x h
 have T4:Shp σ4 i k kv es:=S2.frame λa _ x h=>z1f hs4 a x h
 show SE C env ["_law_script","_law_rows_here","_law_wish_here","_law_shop_here","_law_picks","_law_good","_law_k","_law_way","_law_asked_here","_law_thing","_law_due","_law_ware","_law_make","_law_things","_law_wanted"] _ _ _ [some (.lst (xs.map V.int)),some (.ref ro),some x,some (.ref i),some (.lst (rs.map V.ref)),some (.ref ga),none,none,none,none,none,none,none,none,none] σ4 _ _
 clear hre hj hpk hrz hrl hrn hs4 Sr2 S2 hk2 S1 hne hlo
 generalize V.lst (rs.map V.ref)=px
 clear F m0
 refine z0k (z41 (LwI ro i ga (.lst (xs.map V.int)) x px σ4) (z1u ?_))
 repeat' with_reducible first|refine z0d ?_|refine z0s ?_|refine z0p ?_|refine z0i ?_|refine z0b ?_|refine z0c ?_|refine z1D ?_|refine⟨z0u,?_⟩|fail
 refine⟨_,_,_,10,rfl,z6S (by decide),z7b 10,.mk λp hp=>hp,λj X hX m τ hI QB hQB hQR=> ?_,λm τ hI=> ?_⟩
 ·refine hI.casesOn @λv6 v7 v8 v9 v10 v11 τ hs=> ?_
  obtain⟨kk,hkk,rfl⟩:=z1r (List.mem_of_getElem? hX)
  clear hX hQR
  have St:Rw τ ro rv es:=S4.frame λa _ x h=>z1f hs a x h
  with_reducible refine z0w PutC.put ?_
  refine z0k (z2u (z6B ?_))
  repeat' with_reducible first|refine z0d ?_|refine z0s ?_|refine z0i ?_|refine z0b ?_|refine z0c ?_|refine⟨z4E H,?_⟩|fail
  refine fnc (z8s H St R hx (Nat.lt_trans hkk (by decide)) (hxw.mono hs) ok (z1f hs _ _ hg) pb pi M λn A T r τ2 D hs2=> ?_)
  refine AA4 ?_
  with_reducible refine z0w PutC.put ?_
  with_reducible refine z0w PutC.put ?_
  with_reducible refine z0w PutC.put ?_
  with_reducible refine z0w PutC.put ?_
  have hs3:∀p∈σ4,p∈τ2:=λp hp=>hs2 p (hs p hp)
  have St2:Rw τ2 ro rv es:=S4.frame λa _ x h=>z1f hs3 a x h
  have Tt2:Shp τ2 i k kv es:=T4.frame λa _ x h=>z1f hs3 a x h
  refine z0k (z8Y (z7y (z2s (z1z H) ?_)))
  repeat' with_reducible first|refine z0d ?_|refine z0b ?_|refine z0c ?_|fail
  refine y45 H St2 R Tt2 (hxw.mono hs3) ok (z1f hs3 _ _ hg) pb pi M D ?_
  with_reducible refine z0d ?_
  refine z7m H.ns (n:=1) (.lF (.cons (.int (n:=0) r) .nil)) (by decide) (z0h ⟨λh=>ff h,λ_=>z0F ?_⟩)
  clear D hs2 hs
  refine z33 1 (z0n (z0x H) (z0A H) t_law_s6_2_3 rfl (by kernel_rfl) ?_)
  intro F m0
  have hrn:((kvV rv).map (·.1)).Nodup:=by rw[z0z];exact St2.rwn
  obtain⟨oro,hrm⟩:=St2.rows
  obtain⟨dx,hin⟩:=Tt2.inst
  refine Leaf.mk (.mk ro oro (kvV rv) (LvI (.lst (xs.map V.int)) (.ref ro) x (.ref i) px (.ref ga) (.int (kk:Int)) (.int (n:Int)) A T (.lst [.int r]) τ2) rfl H.ns hrm hrn .mk (λjj p hX m τ hI QB' hQB' _=> ?_) λm τ hI=> ?_)
  ·refine hI.casesOn @λv=> ?_
   rw[List.getElem?_map] at hX
   apply z0X hX;rintro ⟨w,b⟩ hpe
   have hb:=List.mem_of_getElem? hpe
   have hrb:vAt (kvV rv) w=some (.ref b):=z0v hrn (List.mem_map.mpr ⟨_,hb,rfl⟩)
   have hen:((esV (es w)).map (·.1)).Nodup:=by rw[z0E];exact(St2.eok w).nd
   refine Leaf.mk (z0S hin (by decide+kernel) ?_)
   refine Leaf.mk (fnc (z9j H Tt2 (St2.wok _ hb) (.inl ?_)))
   refine Leaf.mk (z13 ⟨oro,hrm⟩ hrn hrb ?_)
   refine Leaf.mk (z3W H.ns (St2.rin _ hb) hen (by rw[List.length_map];exact Nat.lt_of_le_of_lt (R.two w) (by decide)) (.inl ?_))
   rw[z0E]
   refine Leaf.mk (y4G H.ns (by rw[(z1n _).length_eq,List.length_map];exact Nat.le_trans (R.two w) (by decide)) (z0h ?_))
   exact hQB' _ _ hrm .mk
  ·refine hI.casesOn @λv=> ?_
   exact z0F (hQB _ _ trivial (.mk hs3))
 refine hI.casesOn @λv6 v7 v8 v9 v10 v11 τ hs=> ?_
 have St:Rw τ ro rv es:=S4.frame λa _ x h=>z1f hs a x h
 have Tt:Shp τ i k kv es:=T4.frame λa _ x h=>z1f hs a x h
 clear hs hI S4 T4 hp
 obtain⟨⟨w,b⟩,rv',hrv⟩:∃p rv',rv=p::rv':=by
  have h0:=R.lo
  cases rv with
  |nil=>exact absurd h0 (Nat.lt_irrefl _)
  |cons p l=>exact⟨p,l,rfl⟩
 have hb:(w,b)∈rv:=by rw[hrv];exact .head _
 have hk0:((kvV rv).map λp=>V.str p.1)[0]? =some (.str w):=by rw[hrv];rfl
 have hw:=St.wok _ hb
 have hrn:((kvV rv).map (·.1)).Nodup:=by rw[z0z];exact St.rwn
 have hrb:vAt (kvV rv) w=some (.ref b):=z0v hrn (List.mem_map.mpr ⟨_,hb,rfl⟩)
 have hat:=St.rin _ hb
 have hen:((esV (es w)).map (·.1)).Nodup:=by rw[z0E];exact(St.eok w).nd
 obtain⟨mk,r,hmi,h1,h9,hv⟩:=z7Z (R.two w) hen
 clear hrv hg pb pi M hxw ok
 show SE C env ["_law_script","_law_rows_here","_law_wish_here","_law_shop_here","_law_picks","_law_good","_law_k","_law_way","_law_asked_here","_law_thing","_law_due","_law_ware","_law_make","_law_things","_law_wanted"] _ _ _ [some (.lst (xs.map V.int)),some (.ref ro),some x,some (.ref i),some px,some (.ref ga),v6,v7,v8,v9,v10,v11,none,none,none] τ _ _
 refine z33 4 (z0n (z0x H) (z0A H) (z4L _ _) (by exact rfl) (by kernel_rfl) ?_)
 intro F m0
 refine Leaf.mk (z5n H St R ?_)
 refine Leaf.mk (z6a hk0 ?_)
 refine Leaf.mk ?_
 show AT C env ["_law_script","_law_rows_here","_law_wish_here","_law_shop_here","_law_picks","_law_good","_law_k","_law_way","_law_asked_here","_law_thing","_law_due","_law_ware","_law_make","_law_things","_law_wanted"] _ true _ (eval _ env) [some (.lst (xs.map V.int)),some (.ref ro),some x,some (.ref i),some px,some (.ref ga),v6,v7,v8,v9,v10,some (.str w),none,none,none] _ _
 refine z0H "_law_one" ["_law_rows_here","_law_ware"] [] (by rw[hsc];kernel_rfl) GL_nil (.cons LkC.lk (.cons LkC.lk .nil)) (z1u ?_)
 repeat' with_reducible first|refine z0s ?_|refine z0p ?_|refine z0i ?_|refine z0b ?_|refine z0c ?_|refine y0M ?_|refine⟨z0u,?_⟩|fail
 refine⟨_,_,_,9,rfl,by decide+kernel,by decide+kernel,by with_unfolding_all exact Nat.le_of_ble_eq_true rfl,λenv' he=>z2J (f:=id) (t:=z5o (es w)) (z0r he (by decide+kernel)) trivial _ _ _ (λX hX K hK=> ?_) (λX hX _ K hK=> ?_) ?_⟩
 ·obtain⟨m,rfl⟩:∃m,X= .int m:=by
   apply z0o hX;intro m _
   exact⟨_,rfl⟩
  repeat' with_reducible first|refine z0L ?_|refine z0d ?_|refine z0C ?_|fail
  refine z13 St.rows hrn hrb ?_
  exact y1P H.ns hat hen (z0h hK)
 ·with_reducible refine z0d ?_
  exact hK
 rw[List.nil_append,show z0R 1 1 9=nine by kernel_rfl,hmi,List.map_id]
 refine Leaf.mk (z6a rfl ?_)
 refine Leaf.mk ?_
 show AS C env ["_law_script","_law_rows_here","_law_wish_here","_law_shop_here","_law_picks","_law_good","_law_k","_law_way","_law_asked_here","_law_thing","_law_due","_law_ware","_law_make","_law_things","_law_wanted"] _ true _ (exec _ env) [some (.lst (xs.map V.int)),some (.ref ro),some x,some (.ref i),some px,some (.ref ga),v6,v7,v8,v9,v10,some (.str w),some (.int mk),none,none] _ _
 refine z1C (z0P (z0b ?_))
 refine z2p (KK.str C.prog C.w) λd0 o0 f0=> ?_
 repeat' with_reducible first|refine z0d ?_|fail
 refine⟨w,rfl,rfl,λo0'=> ?_⟩
 with_reducible refine z0b ?_
 refine z2p (KK.str C.prog C.w) λd1 o1 f1=> ?_
 repeat' with_reducible first|refine z0d ?_|fail
 refine⟨w,rfl,rfl,λo1'=> ?_⟩
 with_reducible refine z0b ?_
 refine z2p (KK.str C.prog C.w) λd2 o2 f2=> ?_
 repeat' with_reducible first|refine z0d ?_|fail
 refine⟨w,rfl,rfl,λo2'=> ?_⟩
 with_reducible refine z0b ?_
 refine z2p (KK.str C.prog C.w) λd3 o3 f3=> ?_
 repeat' with_reducible first|refine z0d ?_|fail
 refine⟨w,rfl,rfl,λo3'=> ?_⟩
 with_reducible refine z0b ?_
 repeat' with_reducible first|refine z0d ?_|refine z1a ?_|refine z0P ?_|refine z0b ?_|refine z0c ?_|refine⟨by with_unfolding_all exact Nat.le_of_ble_eq_true rfl,?_⟩|fail
 with_reducible refine z2A ?_
 have hw:Ware w:=hw
 have h999:mk<=999:=Int.le_trans h9 (by decide)
 have hnew:mk∉(es w).map (·.1):=λhm=>by
  obtain⟨p,hp,e⟩:=List.mem_map.mp hm
  rw[z0v hen (List.mem_map.mpr ⟨p,hp,by rw[e]⟩)] at hv;cases hv
 have hno:z2b es (.str w) (.int mk)=false:=z2f (.inr (.inr (by show(vAt (esV (es w)) mk).isSome=false;rw[hv];rfl)))
 have hwk:w∈kv.map (·.1):=by rw[hkeys];exact List.mem_map.mpr ⟨_,hb,rfl⟩
 have hda:∀a,(w,a)∈kv->d0≠a/\d1≠a/\d2≠a/\d3≠a:=λa ha=>by
  have hA:=Tt.inn _ ha
  exact⟨((f0.ne hA).symm),(f1.ne (hA.cons _)).symm,(f2.ne ((hA.cons _).cons _)).symm,(f3.ne (((hA.cons _).cons _).cons _)).symm⟩
 show SE C env ["_law_script","_law_rows_here","_law_wish_here","_law_shop_here","_law_picks","_law_good","_law_k","_law_way","_law_asked_here","_law_thing","_law_due","_law_ware","_law_make","_law_things","_law_wanted"] _ _ _ [some (.lst (xs.map V.int)),some (.ref ro),some x,some (.ref i),some px,some (.ref ga),v6,v7,v8,v9,v10,some (.str w),some (.int mk),some (.lst (thL d0 d1 d2 d3 w mk)),some (.lst [z0m (w,mk,mk)])] ((d3,o3',dS (pkV [(w,mk)]))::(d2,o2',dS (pkV [(w,mk)]))::(d1,o1',dS (pkV [(w,mk)]))::(d0,o0',dS (pkV [(w,mk)]))::τ) _ _
 have D5:D4 ((d3,o3',dS (pkV [(w,mk)]))::(d2,o2',dS (pkV [(w,mk)]))::(d1,o1',dS (pkV [(w,mk)]))::(d0,o0',dS (pkV [(w,mk)]))::τ) d0 d1 d2 d3 w mk:=⟨((At.hd.cons _).cons _).cons _,(At.hd.cons _).cons _,At.hd.cons _,At.hd⟩
 have S5:Rw ((d3,o3',dS (pkV [(w,mk)]))::(d2,o2',dS (pkV [(w,mk)]))::(d1,o1',dS (pkV [(w,mk)]))::(d0,o0',dS (pkV [(w,mk)]))::τ) ro rv es:=St.frame λ_ _ _ h=>(((h.cons _).cons _).cons _).cons _
 have T5:Shp ((d3,o3',dS (pkV [(w,mk)]))::(d2,o2',dS (pkV [(w,mk)]))::(d1,o1',dS (pkV [(w,mk)]))::(d0,o0',dS (pkV [(w,mk)]))::τ) i k kv es:=Tt.frame λ_ _ _ h=>(((h.cons _).cons _).cons _).cons _
 clear F m0 f0 f1 f2 f3 St Tt hat hmi he env'
 generalize (d3,o3',dS (pkV [(w,mk)]))::(d2,o2',dS (pkV [(w,mk)]))::(d1,o1',dS (pkV [(w,mk)]))::(d0,o0',dS (pkV [(w,mk)]))::τ=σ5 at D5 S5 T5⊢
 refine z0k (z7e (z5e ?_))
 repeat' with_reducible first|refine z0p ?_|refine z1a ?_|refine z0P ?_|refine z0b ?_|refine z0c ?_|refine⟨by with_unfolding_all exact Nat.le_of_ble_eq_true rfl,?_⟩|fail
 refine⟨_,rfl,?_⟩
 show AA C env ["_law_script","_law_rows_here","_law_wish_here","_law_shop_here","_law_picks","_law_good","_law_k","_law_way","_law_asked_here","_law_thing","_law_due","_law_ware","_law_make","_law_things","_law_wanted"] _ true _ _ (.lst [.int 1]) [some (.lst (xs.map V.int)),some (.ref ro),some x,some (.ref i),some px,some (.ref ga),v6,v7,v8,v9,v10,some (.str w),some (.int mk),some (.lst (thL d0 d1 d2 d3 w mk)),some (.lst [z0m (w,mk,mk)])] σ5 _
 with_reducible refine z0w PutC.put ?_
 refine z0k (z41 (LuI ro i ga (.lst (xs.map V.int)) x px v6 v8 v9 (.lst [.int 1]) (.str w) (.int mk) (.lst (thL d0 d1 d2 d3 w mk)) (.lst [z0m (w,mk,mk)]) σ5) (z1u ?_))
 repeat' with_reducible first|refine z0d ?_|refine z0s ?_|refine z0p ?_|refine z0i ?_|refine z0b ?_|refine z0c ?_|refine z1D ?_|refine⟨z0u,?_⟩|fail
 refine⟨_,_,_,5,rfl,z6S (by decide),z7b 5,.mk,λj X hX m τ' hI QB hQB hQR=> ?_,λm τ' hI=> ?_⟩
 ·refine hI.casesOn @λv7=> ?_
  obtain⟨n,hn,rfl⟩:=z1r (List.mem_of_getElem? hX)
  clear hX hQR
  obtain⟨T,hTe,hTg⟩:=D5.tg hn
  with_reducible refine z0w PutC.put ?_
  refine z0k (z8Y (z7y (z2s (z1z H) ?_)))
  repeat' with_reducible first|refine z0d ?_|refine z0p ?_|refine z0C ?_|refine z0b ?_|refine z0c ?_|fail
  refine z01 (.lst _) (Nat.lt_trans hn (by decide)) hTe ?_
  repeat' with_reducible first|refine z0d ?_|refine z0p ?_|refine z0C ?_|refine z0b ?_|refine z0c ?_|fail
  refine z6a rfl ?_
  with_reducible refine z0c ?_
  refine y4i H T5 hw h1 h999 hno (Nat.le_of_lt_succ hn) hTg D5.a0 ?_
  with_reducible refine z0d ?_
  refine z7m H.ns (n:=1) (.lF (.cons (.int (n:=0) 1) .nil)) (by decide) (z0h ⟨λh=>ff h,λ_=>z0F (z0F ?_)⟩)
  exact hQB _ _ trivial .mk
 refine hI.casesOn @λv7=> ?_
 obtain⟨dx,hin⟩:=T5.inst
 refine z0k (z2u (y2K ?_))
 repeat' with_reducible first|refine z0L ?_|refine z0d ?_|refine z0p ?_|refine z0P ?_|refine z0b ?_|refine z0c ?_|refine⟨by with_unfolding_all exact Nat.le_of_ble_eq_true rfl,?_⟩|fail
 refine y1r (.lst (.cons (.int _) .nil)) (.lst (.cons (.int _) .nil)) rfl rfl (z0h ⟨λ_=> ?_,λh=>tf h⟩)
 refine z3d (y1T (z21 (z5h H) ?_))
 with_reducible refine z0d ?_
 refine z0S hin (by decide+kernel) ?_
 repeat' with_reducible first|refine z0d ?_|refine z0b ?_|fail
 refine z5u (z0c ⟨Nat.zero_le _,λnl onl hfn=> ?_⟩)
 with_reducible refine z0c ?_
 have nok:NeedsOk w []:=⟨Nat.zero_le 6,(λ_ h=>by cases h),(λ_ h=>by cases h),List.nodup_nil⟩
 have S6:Rw ((nl,onl,.list [])::σ5) ro rv es:=S5.frame λ_ _ _ h=>h.cons _
 have T6:Shp ((nl,onl,.list [])::σ5) i k kv es:=T5.frame λ_ _ _ h=>h.cons _
 have D6:D4 ((nl,onl,.list [])::σ5) d0 d1 d2 d3 w mk:=⟨D5.a0.cons _,D5.a1.cons _,D5.a2.cons _,D5.a3.cons _⟩
 have h2:=R.two w
 refine fnc (y3D H (ns:=[]) T6 hw h1 h999 At.hd nok hnew (by lia) (λh=>absurd hwk h) (λa ha σ7 U=> ?_) λh=>absurd hwk h)
 have hok:=(S5.eok w).add hnew (by lia) h1 h999 nok
 have T7:=T6.set ha hok U
 have D7:=D6.upd U (hda a ha)
 have hro7:=U.at S6.rows (hra _ ha)
 have hm7:(mk,[])∈z2K es w (es w++[(mk,[])]) w:=by rw[z0G];exact List.mem_append_right _ (.head _)
 have hE7:∀v,((z2K es w (es w++[(mk,[])]) v).map (·.1)).Nodup:=λv=>(T7.eok v).1
 refine z8c (z0F ⟨trivial,?_⟩)
 clear D5 D6 T5 T6 U hno hnew hin hfn hok nok hda hv hen hrb
 show AA C env ["_law_script","_law_rows_here","_law_wish_here","_law_shop_here","_law_picks","_law_good","_law_k","_law_way","_law_asked_here","_law_thing","_law_due","_law_ware","_law_make","_law_things","_law_wanted"] _ true _ _ (.lst []) [some (.lst (xs.map V.int)),some (.ref ro),some x,some (.ref i),some px,some (.ref ga),v6,v7,v8,v9,some (.lst [.int 1]),some (.str w),some (.int mk),some (.lst (thL d0 d1 d2 d3 w mk)),some (.lst [z0m (w,mk,mk)])] σ7 _
 with_reducible refine z0w PutC.put ?_
 refine z0k (z41 (LuI ro i ga (.lst (xs.map V.int)) x px v6 v8 v9 (.lst []) (.str w) (.int mk) (.lst (thL d0 d1 d2 d3 w mk)) (.lst [z0m (w,mk,mk)]) σ7) (z1u ?_))
 repeat' with_reducible first|refine z0d ?_|refine z0s ?_|refine z0p ?_|refine z0i ?_|refine z0b ?_|refine z0c ?_|refine z1D ?_|refine⟨z0u,?_⟩|fail
 refine⟨_,_,_,5,rfl,z6S (by decide),z7b 5,.mk,λj X hX m τ' hI QB hQB hQR=> ?_,λm τ' hI=> ?_⟩
 ·refine hI.casesOn @λv7=> ?_
  obtain⟨n,hn,rfl⟩:=z1r (List.mem_of_getElem? hX)
  clear hX hQR
  obtain⟨T,hTe,hTg⟩:=D7.tg hn
  with_reducible refine z0w PutC.put ?_
  refine z0k (z8Y (z7y (z2s (z1z H) ?_)))
  repeat' with_reducible first|refine z0d ?_|refine z0p ?_|refine z0C ?_|refine z0b ?_|refine z0c ?_|fail
  refine z01 (.lst _) (Nat.lt_trans hn (by decide)) hTe ?_
  repeat' with_reducible first|refine z0d ?_|refine z0p ?_|refine z0C ?_|refine z0b ?_|refine z0c ?_|fail
  refine z6a rfl ?_
  with_reducible refine z0c ?_
  refine y4D H T7 hE7 hw h1 h999 hm7 (Nat.le_of_lt_succ hn) hTg D7.a0 ?_
  with_reducible refine z0d ?_
  refine z7m H.ns (n:=1) (.lF (.nil (R:=Dn σ7 0))) (by decide) (z0h ⟨λh=>ff h,λ_=>z0F (z0F ?_)⟩)
  exact hQB _ _ trivial .mk
 refine hI.casesOn @λv7=> ?_
 refine z0k (z2u (y2K ?_))
 repeat' with_reducible first|refine z0L ?_|refine z0d ?_|refine z0p ?_|refine z0P ?_|refine z0b ?_|refine z0c ?_|refine⟨by with_unfolding_all exact Nat.le_of_ble_eq_true rfl,?_⟩|fail
 refine y1r (.lst .nil) (.lst (.cons (.int _) .nil)) rfl rfl (z0h ⟨λh=>ff h,λ_=>z8c (z0F ⟨trivial,?_⟩)⟩)
 refine z33 1 (z0n (z0x H) (z0A H) t_law_s12_13 rfl (by kernel_rfl) ?_)
 intro F m0
 obtain⟨dx',hin'⟩:=T7.inst
 have hkw:∀v∈z1E (rv.map (·.1)),Ware v:=z19 λv hv=>by
  apply z0o hv;intro p hp
  exact S5.wok p hp
 refine Leaf.mk (z0S hin' (by decide+kernel) ?_)
 refine Leaf.mk (fnc (y3l H T7 (.inl ?_)))
 refine Leaf.mk (z32 H.ns hro7 hrn (by rw[List.length_map];exact Nat.lt_of_le_of_lt S5.rl (by decide)) (.inl ?_))
 rw[z0z,hkeys]
 refine Leaf.mk (y10 hkw hkw ?_)
 rw[decide_eq_true rfl]
 exact q _
end
end
section
open PySem PySem.W PyProof.Rows
theorem y4Z{w:World}{D:Gh}{vs:List Value}{xs:List Int}(h:IntsAre vs xs):VRs w D vs (xs.map V.int):=by
 induction h with
 |nil=>exact .nil
 |cons n t _ ih=>exact .cons (.int n t) ih
open Classical in
theorem y5s{prog:Program}{w:World}{s₁:Shared}{mg mb:Str->Option Value}{a:Addr}{vs us:List Value}{xs:List Int}{K:Value->Shared->Prop}{E:Value->Shared->Prop}
  (hg:s₁.heap.Ns mainGlobals mg) (hb:s₁.heap.Ns builtinsNs mb) (hl:s₁.heap.NoLimit) (hbi:∀x:Str,x≠"__name__"->mb x=bootBuiltins x) (KX:(Tp.K w.params).In s₁.heap) (hns:∃o,s₁.heap.get? sysModules=some o)
  (hown:∀(x:Str) (a:Addr) (bm:List Value) (n:String),W.nsIn (Tp.K w.params) mainGlobals x=some (some (.ref a))->W.excIn (Tp.K w.params) a bm n=true->OwnCls x a bm n mg s₁.heap)
  (ha:s₁.heap.get? a=some (z0D us.toArray 0)) (hL:s₁.heap.IsList a vs.toArray) (hI:IntsAre vs xs) (hx:xs.length<=100)
  (k:∀s',(∀b o,s₁.heap.get? b=some o->s'.heap.get? b=some o)->s'.os=s₁.os->s'.gens=s₁.gens->K (.bool true) s'):
  wpAny (model prog w) callerA (call (.ref 463) [.ref a]) K E s₁:=by
 let C:Cx:=⟨prog,w,s₁.heap,s₁,mg,mb,hg,hb,hl,some none,none⟩
 have H:G1 C:=⟨KX,hbi,hns,hown⟩
 haveI:HM C:=⟨rfl⟩
 haveI:NF C:=⟨rfl⟩
 have hv:us=vs:=by
  obtain⟨o,ho,_,n,hd⟩:=hL
  rw[ha] at ho;cases ho
  have:us.toArray=vs.toArray:=by
   have h':Data.seq us.toArray 0=Data.seq vs.toArray n:=hd
   injection h'
  simpa using this
 subst hv
 let D:Gh:=λb=>if b=a then some (z0D us.toArray 0) else none
 have R:RelC C (λb=>s₁.heap.get? b) D [] s₁:=⟨⟨s₁.heap,s₁.toks,rfl⟩,λ_ _ e=>e,λb o e=>⟨o,e,.refl o⟩,(λb o e=>by
   have e':(if b=a then some (z0D us.toArray 0) else none)=some o:=e
   split at e'
   ·rename_i hb;subst hb;rw[<-e'];exact ha
   ·cases e'),λ_ _ e=>e,List.nodup_nil,(λ_ h=>by cases h),(λ_ h=>by cases h),(λ_ h=>by cases h),(λ_ h=>by cases h)⟩
 have hargs:VRs C.w D [.ref a] [.lst (xs.map V.int)]:= .cons (.lst (show(if a=a then some (z0D us.toArray 0) else none)=_ by rw[if_pos rfl]) (y4Z hI)) .nil
 have hA:AOk C callerA 40:=⟨(λx e=>by cases e;rfl),(λl e=>nomatch e),by decide+kernel,by decide+kernel⟩
 have:=y41 (C:=C) (d:=27) (Q:=λx _=>x= .bool true) (EQ:=λ_ _=>False) H hx (λ_=>rfl) callerA _ D s₁ [.ref a] [] hA ⟨rfl,λ_ h=>nomatch h⟩ R hargs
 refine wpAny_call (codeAny_mono this λr s' q=> ?_)
 cases r with
 |error e=>obtain⟨_,_,h,_⟩:=q;exact h.elim
 |ok fl=>
  cases fl with
  |ret v=>
   obtain⟨x,D',σ',dx,hv,R',hx⟩:=q
   subst hx
   rw[hv.boolI]
   obtain⟨h,tk,e⟩:=R'.same
   exact k s' R'.bs (by rw[e]) (by rw[e])
  |_=>exact q.elim
end
end Mine
open PySem PySem.W PyProof.Rows
theorem PySem.Challenge.cw_uf010025_08_holds : PySem.Challenge.rw_uf010025_08.Holds := by
  refine Mine.hd08 ?_
  intro w s₀ s₁ mg mb G Y fa o pm cd doc dV kV ho hd hcd hD hmg hg args vals as hpre hlay hrd hwl hlo
  have KX := kIn_of Y
  refine Ground.open G ?_
  intro T B D TE TW
  clear G Y B D TE TW hd hcd hD
  have hfa : fa = 463 := by
    have h1 := mg_of KX T.g (show nsIn (Mine.Tp.K w.params) mainGlobals "law" = some (some (.ref 463)) from rfl)
    have h2 : mg "law" = some (.ref fa) := hmg
    rw [h1] at h2; injection h2 with h2; injection h2 with h2; exact h2.symm
  subst hfa
  clear hmg
  wrow_args hpre hlay hrd hwl hlo
  rename_i hL _ w1 _ hI _ hc _
  obtain ⟨us, ha⟩ : ∃ us : List Value, s₁.heap.get? _ = some (Mine.z0D us.toArray 0) := by
    cases w1 with
    | list h _ => exact ⟨_, h⟩
  refine Mine.y5s T.g T.b T.nolimit T.builtins KX (by obtain ⟨_, ⟨o, _, _, ho, _⟩, _⟩ := (T.seer (by decide +kernel)).mods; exact ⟨o, ho⟩) (fun x a bm n e q => own_of_in KX (topRead_of T) e q) ha hL hI (by lia) fun s' h1 h2 h3 => GoodW.toG ⟨.inl ⟨_, .bool true, [], rfl, fun _ => rfl, .bool true, ?_, fun h => ?_⟩, h1, h2, h3.trans hg⟩
  · wrow_post
  · exact ⟨List.nodup_nil, fun a h => by cases h⟩
